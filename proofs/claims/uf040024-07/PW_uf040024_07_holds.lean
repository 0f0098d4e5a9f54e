import PyProof.Rows.All
import PyProof.Cells
import PyProof.DictStraight
import PyProof.RaisesMany
import PyProof.Seq
import PyProof.ForAppend
import PyProof.Ns1
import PyProof.Calls
import PyProof.CallRoads
import PyProof.StrBlock
import PyProof.Rules3
import PyProof.Rows.Globals
import PyProof.Rows.IntRules
import PyProof.Rows.RuleU_int
import PyProof.RulesTry
import PyProof.Walks
import PyProof.WalksMore
import PyProof.DictWalks
import PyProof.CompFree
import PyProof.RangeFor
import PyProof.CompUse
import PyProof.Rows.Exc
import PyProof.Rows.TupIn
import Wide.All
import OpenK.KLine
import KE.KDictOf
import KE.KDictList
import KE.KEqDict
import KE.KTryMore
import PyProof.ExcBaseAll.ValueError
import KE.KRevIter
import PyProof.SliceList
import PyProof.ListCopy
import PyProof.AutoSeq1
import PyProof.Rows.EqNone
import PyProof.SliceMore
import PyProof.ZipIter
import PyProof.ForAny
import PyProof.TupleIter
import PyProof.MeetsDictList
import PyProof.Rows.SeqMore
import PyProof.CallStr
import PyProof.Conv_int_bool
import PyProof.IsiNone
import PyProof.ListIndex
import PyProof.Rows.StrRev
import PyProof.ExcClass2
import PySem.Challenge.RW_uf040024_07
namespace Mine
theorem om0 {n0 : Nat} {n1 : Nat} {n2 : Nat} (h0 : (((n0 + ((3 : Nat) * (n1 + (1 : Nat)))) + (10 : Nat)) < n2)) : ((((n0 + (1 : Nat)) + ((3 : Nat) * n1)) + (10 : Nat)) < n2) := by first | decide | (intros; simp_all; done) | lia
theorem om1 {n0 : Nat} {n1 : Nat} {n2 : Nat} (h0 : (((n0 + ((12 : Nat) * (n1 + (1 : Nat)))) + (200 : Nat)) < n2)) : ((((n0 + (3 : Nat)) + ((12 : Nat) * n1)) + (200 : Nat)) < n2) := by first | decide | (intros; simp_all; done) | lia
theorem om2 {n0 : Nat} {n1 : Nat} {n2 : Nat} {n3 : Nat} (h0 : (n0 ≤ n1)) (h1 : (((n2 + ((3 : Nat) * n1)) + (10 : Nat)) < n3)) : (((n2 + ((3 : Nat) * n0)) + (10 : Nat)) < n3) := by first | decide | (intros; simp_all; done) | lia
theorem om3 {n0 : Nat} {n1 : Nat} {n2 : Nat} {n3 : Nat} (h0 : (n0 ≤ n1)) (h1 : (((n2 + ((12 : Nat) * n1)) + (200 : Nat)) < n3)) : (((n2 + ((12 : Nat) * n0)) + (200 : Nat)) < n3) := by first | decide | (intros; simp_all; done) | lia
theorem om4 {n0 : Nat} {n1 : Nat} {n2 : Nat} (h0 : (((n0 + ((3 : Nat) * (n1 + (1 : Nat)))) + (10 : Nat)) < n2)) : (n0 < n2) := by first | decide | (intros; simp_all; done) | lia
theorem om5 {n0 : Nat} {n1 : Nat} {n2 : Nat} (h0 : ((n0 + n1) = (n2 + (1 : Nat)))) (h1 : (n1 < n2)) : ((n0 - (1 : Nat)) < n0) := by first | decide | (intros; simp_all; done) | lia
theorem om6 {n0 : Nat} {n1 : Nat} {n2 : Nat} (h0 : ((n0 + n1) = (n2 + (1 : Nat)))) (h1 : (n1 < n2)) : (((n0 - (1 : Nat)) + (n1 + (1 : Nat))) = (n2 + (1 : Nat))) := by first | decide | (intros; simp_all; done) | lia
theorem om7 {n0 : Nat} {n1 : Nat} (h0 : (n0 ≤ n1)) (h1 : (¬ (n0 < n1))) : (n0 = n1) := by first | decide | (intros; simp_all; done) | lia
theorem om8 {n0 : Nat} {n1 : Nat} (h0 : (n0 = (n1 + (1 : Nat)))) : (¬ (n1 = n0)) := by first | decide | (intros; simp_all; done) | lia
theorem om9 {n0 : Nat} {n1 : Nat} (h0 : (n0 = (n1 + (1 : Nat)))) : (n1 ≤ n0) := by first | decide | (intros; simp_all; done) | lia
theorem om10 {n0 : Nat} {n1 : Nat} {n2 : Nat} {n3 : Nat} (h0 : (n0 ≤ n1)) (h1 : (n2 ≤ n3)) (h2 : (n3 < n0)) : (n2 ≤ n1) := by first | decide | (intros; simp_all; done) | lia
theorem om11 {n0 : Nat} {n1 : Nat} (h0 : (n0 ≤ n1)) : (n0 ≤ n1) := h0
theorem om12 {n0 : Nat} {n1 : Nat} (h0 : (n0 ≤ n1)) : (n0 ≤ (n1 + (1 : Nat))) := Nat.le_succ_of_le h0
theorem om13 {z0 : Int} (h0 : ((0 : Int) < z0)) : (¬ (z0 = (0 : Int))) := by first | decide | (intros; simp_all; done) | lia
theorem om14 {z0 : Int} (h0 : ((0 : Int) < z0)) : ((0 : Int) ≤ z0) := Int.le_of_lt h0
theorem om15 {z0 : Int} (h0 : ((0 : Int) ≤ z0)) : (¬ (z0 < (0 : Int))) := Int.not_lt.mpr h0
theorem om16 {z0 : Int} {n1 : Nat} (h0 : (z0 < (0 : Int))) : ((z0 + ((n1 : Nat) : Int)) < ((n1 : Nat) : Int)) := by first | decide | (intros; simp_all; done) | lia
theorem om17 {z0 : Int} (h0 : (((-(9223372036854775808 : Int)) ≤ z0) ∧ (z0 < (9223372036854775808 : Int)))) : (((-(9223372036854775808 : Int)) ≤ z0) ∧ (z0 < (9223372036854775808 : Int))) := h0
theorem om18 {n0 : Nat} {n1 : Nat} {n2 : Nat} (h0 : ((n0 + (n1 + (1 : Nat))) ≤ n2)) : (((n0 + (1 : Nat)) + n1) ≤ n2) := by first | decide | (intros; simp_all; done) | lia
theorem om19 {n0 : Nat} {n1 : Nat} {n2 : Nat} (h0 : ((n0 + (n1 + (1 : Nat))) ≤ n2)) : (n0 < (min (n0 + (n1 + (1 : Nat))) n2)) := by first | decide | (intros; simp_all; done) | lia
theorem om20 {n0 : Nat} {n1 : Nat} {n2 : Nat} (h0 : ((n0 + (n1 + (1 : Nat))) ≤ n2)) : (n0 < n2) := by first | decide | (intros; simp_all; done) | lia
theorem om21 {n0 : Nat} {n1 : Nat} : ((n0 + (n1 + (1 : Nat))) = ((n0 + (1 : Nat)) + n1)) := by first | decide | (intros; simp_all; done) | lia
theorem om22 {z0 : Int} {n1 : Nat} : ((max (0 : Int) (min z0 ((n1 : Nat) : Int))) = (((min (Int.toNat z0) n1) : Nat) : Int)) := by first | decide | (intros; simp_all; done) | lia
theorem om23 {n0 : Nat} {n1 : Nat} : ((Int.toNat (((n0 : Nat) : Int) + ((1 : Int) * ((n1 : Nat) : Int)))) = (n0 + n1)) := by first | decide | (intros; simp_all; done) | lia
theorem om24 {n0 : Nat} {n1 : Nat} (h0 : (¬ (n0 ≤ n1))) : (n1 ≤ n0) := by first | decide | (intros; simp_all; done) | lia
theorem om25 {n0 : Nat} {n1 : Nat} {n2 : Nat} (h0 : (¬ (n0 ≤ n1))) : ((min n2 n1) ≤ n0) := by first | decide | (intros; simp_all; done) | lia
theorem om26 {n0 : Nat} {n1 : Nat} : ((min n0 n1) ≤ n1) := by first | decide | (intros; simp_all; done) | lia
theorem om27 {n0 : Nat} : (n0 ≤ n0) := Nat.le_refl _
theorem om28 {n0 : Nat} {n1 : Nat} {n2 : Nat} : (((min n0 n1) + ((min n2 n1) - (min n0 n1))) ≤ n1) := by omega
theorem om29 {n0 : Nat} {n1 : Nat} {n2 : Nat} (h0 : ((min n0 n1) ≤ (min n2 n1))) : (((min n0 n1) + ((min n2 n1) - (min n0 n1))) = (min n2 n1)) := by first | decide | (intros; simp_all; done) | lia
theorem om30 {n0 : Nat} {n1 : Nat} {n2 : Nat} (h0 : (((min n0 n1) - (min n2 n1)) = n1)) : ((min n2 n1) = (0 : Nat)) := by omega
theorem om31 {n0 : Nat} {n1 : Nat} {n2 : Nat} (h0 : (((min n0 n1) - (min n2 n1)) = n1)) : ((min n0 n1) = n1) := by omega
theorem om32 {n0 : Nat} {n1 : Nat} {n2 : Nat} (h0 : (¬ ((min n0 n1) ≤ (min n2 n1)))) : (((min n2 n1) - (min n0 n1)) = (0 : Nat)) := by first | decide | (intros; simp_all; done) | lia
theorem om33 {n0 : Nat} {n1 : Nat} {n2 : Nat} (h0 : (¬ ((min n0 n1) ≤ (min n2 n1)))) : ((min n2 n1) ≤ (min n0 n1)) := by first | decide | (intros; simp_all; done) | lia
theorem om34 {n0 : Nat} : ((n0 + (1 : Nat)) ≤ (n0 + (4 : Nat))) := by first | decide | (intros; simp_all; done) | lia
theorem om35 {z0 : Int} {n1 : Nat} (h0 : ((0 : Int) ≤ z0)) (h1 : (z0 < ((n1 : Nat) : Int))) : ((Int.toNat z0) < n1) := by first | decide | (intros; simp_all; done) | lia
theorem om36 : ((0 : Nat) ≤ (64 : Nat)) := by decide
theorem om37 {n0 : Nat} (h0 : (n0 < (60 : Nat))) : ((n0 + (1 : Nat)) ≤ (64 : Nat)) := Nat.le_trans h0 (by decide)
theorem om38 {z0 : Int} {z1 : Int} (h0 : (z0 < z1)) : (z0 ≤ z1) := Int.le_of_lt h0
theorem om39 {z0 : Int} {z1 : Int} (h0 : (¬ (z0 < z1))) : (z1 ≤ z0) := Int.not_lt.mp h0
theorem om40 {n0 : Nat} {n1 : Nat} {z2 : Int} (h0 : (n0 = n1)) (h1 : (((0 : Int) ≤ (z2 + ((n1 : Nat) : Int))) ∧ ((z2 + ((n1 : Nat) : Int)) < ((n1 : Nat) : Int)))) : ((-((n0 : Nat) : Int)) ≤ z2) := by first | decide | (intros; simp_all; done) | lia
theorem om41 {z0 : Int} (h0 : (¬ (z0 < (0 : Int)))) : ((0 : Int) ≤ z0) := Int.not_lt.mp h0
theorem om42 {n0 : Nat} {n1 : Nat} {n2 : Nat} (h0 : (n0 ≤ n1)) (h1 : (n2 = n0)) : (n2 ≤ n1) := by first | decide | (intros; simp_all; done) | lia
theorem om43 {n0 : Nat} {n1 : Nat} (h0 : (n0 < (64 : Nat))) (h1 : (n1 = n0)) : (n1 < (64 : Nat)) := by first | decide | (intros; simp_all; done) | lia
theorem om44 {n0 : Nat} {n1 : Nat} (h0 : ((0 : Nat) < n0)) (h1 : (n1 ≤ (n0 - (1 : Nat)))) : (n1 < n0) := by omega
theorem om45 {n0 : Nat} {n1 : Nat} (h0 : (n0 < n1)) : (n0 ≤ (n1 - (1 : Nat))) := by omega
theorem om46 {n0 : Nat} {n1 : Nat} (h0 : (n0 ≤ (0 : Nat))) (h1 : (n1 < n0)) : False := by first | decide | (intros; simp_all; done) | lia
theorem om47 {n0 : Nat} {n1 : Nat} {n2 : Nat} (h0 : (n0 ≤ (n1 + (1 : Nat)))) (h1 : (n2 < n0)) : (n2 ≤ n1) := by first | decide | (intros; simp_all; done) | lia
theorem om48 {n0 : Nat} {n1 : Nat} {n2 : Nat} (h0 : (n0 < n1)) (h1 : (n2 ≤ (n0 + (1 : Nat)))) : (n2 ≤ n1) := Nat.le_trans h1 h0
theorem om49 {n0 : Nat} {n1 : Nat} (h0 : (n0 ≤ (n1 - (1 : Nat)))) (h1 : ((0 : Nat) < n1)) : ((n0 + (1 : Nat)) ≤ n1) := by first | decide | (intros; simp_all; done) | lia
theorem om50 {z0 : Int} {z1 : Int} (h0 : (z0 = z1)) : (z0 ≤ z1) := by first | decide | (intros; simp_all; done) | lia
theorem om51 {z0 : Int} {z1 : Int} {z2 : Int} (h0 : (¬ (z0 ≤ z1))) (h1 : (z2 ≤ z1)) : (z2 ≤ z0) := by first | decide | (intros; simp_all; done) | lia
theorem om52 {n0 : Nat} {n1 : Nat} {n2 : Nat} (h0 : (n0 ≤ (1000 : Nat))) (h1 : (n1 ≤ (n0 + (1 : Nat)))) (h2 : ((1000000 : Nat) ≤ n2)) : (n1 ≤ (n2 + (1 : Nat))) := by first | decide | (intros; simp_all; done) | lia
theorem om53 {n0 : Nat} {n1 : Nat} {n2 : Nat} (h0 : (((n0 + ((12 : Nat) * (n1 + (1 : Nat)))) + (200 : Nat)) < n2)) : ((((n0 + (1 : Nat)) + ((12 : Nat) * n1)) + (200 : Nat)) < n2) := by first | decide | (intros; simp_all; done) | lia
theorem om54 {z0 : Int} {n1 : Nat} {n2 : Nat} (h0 : (((min (Int.toNat (z0 + ((n1 : Nat) : Int))) n2) - (Int.toNat z0)) = n1)) : (n1 ≤ n2) := by omega
theorem om55 {n0 : Nat} {n1 : Nat} {n2 : Nat} {n3 : Nat} (h0 : (n0 = ((n1 + n2) + n3))) : (n2 ≤ n0) := by first | decide | (intros; simp_all; done) | lia
theorem om56 {n0 : Nat} {n1 : Nat} {n2 : Nat} {n3 : Nat} (h0 : (n0 ≤ n1)) (h1 : ((n2 + ((4 : Nat) * n1)) < n3)) : ((n2 + ((4 : Nat) * n0)) < n3) := by first | decide | (intros; simp_all; done) | lia
theorem om57 {n0 : Nat} {n1 : Nat} {n2 : Nat} (h0 : ((n0 + ((4 : Nat) * (n1 + (1 : Nat)))) < n2)) : (n0 < n2) := by first | decide | (intros; simp_all; done) | lia
theorem om58 {n0 : Nat} {n1 : Nat} {n2 : Nat} {n3 : Nat} (h0 : ((n0 + ((4 : Nat) * (n1 + (1 : Nat)))) < n2)) (h1 : (n3 ≤ (n0 + (4 : Nat)))) : ((n3 + ((4 : Nat) * n1)) < n2) := by first | decide | (intros; simp_all; done) | lia
theorem om59 {z0 : Int} {n1 : Nat} (h0 : (z0 ≤ ((n1 : Nat) : Int))) : ((Int.toNat z0) ≤ n1) := by first | decide | (intros; simp_all; done) | lia
theorem om60 {n0 : Nat} {n1 : Nat} (h0 : (n0 ≤ (n1 + (1 : Nat)))) (h1 : (n1 ≤ (40 : Nat))) : (n0 ≤ (41 : Nat)) := by first | decide | (intros; simp_all; done) | lia
theorem om61 {n0 : Nat} {n1 : Nat} (h0 : (n0 ≤ n1)) : ((min n0 n1) = n0) := by first | decide | (intros; simp_all; done) | lia
theorem om62 {n0 : Nat} {n1 : Nat} {n2 : Nat} (h0 : (n0 ≤ n1)) (h1 : (n1 ≤ n2)) : (((n1 - n0) + (n2 - n1)) = (n2 - n0)) := by first | decide | (intros; simp_all; done) | lia
theorem om63 {n0 : Nat} {n1 : Nat} {n2 : Nat} {n3 : Nat} (h0 : (n0 ≤ n1)) (h1 : (¬ (n2 < ((min n1 n3) - n0)))) (h2 : (n2 < (n3 - n0))) : ((n1 + (n2 - ((min n1 n3) - n0))) = (n0 + n2)) := by first | decide | (intros; simp_all; done) | lia
theorem om64 {n0 : Nat} {n1 : Nat} {n2 : Nat} (h0 : ((n0 + n1) ≤ n2)) : (n0 ≤ (n2 - n1)) := by first | decide | (intros; simp_all; done) | lia
theorem om65 {n0 : Nat} {n1 : Nat} : ((n0 - n1) ≤ n0) := by first | decide | (intros; simp_all; done) | lia
theorem om66 {n0 : Nat} {n1 : Nat} {n2 : Nat} : (((min (n0 - n1) n0) - n2) = ((n0 - n1) - n2)) := by first | decide | (intros; simp_all; done) | lia
theorem om67 {n0 : Nat} {n1 : Nat} {n2 : Nat} {n3 : Nat} (h0 : (n0 ≤ n1)) (h1 : ((n1 + n2) ≤ n3)) : ((Int.toNat (((n0 : Nat) : Int) + ((((n3 - n2) - n0) : Nat) : Int))) = (n3 - n2)) := by first | decide | (intros; simp_all; done) | lia
theorem om68 {n0 : Nat} : ((0 : Int) ≤ ((n0 : Nat) : Int)) := Int.natCast_nonneg _
theorem om69 {n0 : Nat} {n1 : Nat} {n2 : Nat} {n3 : Nat} (h0 : (n0 ≤ n1)) (h1 : ((n1 + n2) ≤ n3)) : (((n0 : Nat) : Int) ≤ ((n3 : Nat) : Int)) := by first | decide | (intros; simp_all; done) | lia
theorem om70 {n0 : Nat} {n1 : Nat} {n2 : Nat} {n3 : Nat} (h0 : (n0 ≤ n1)) (h1 : ((n1 + n2) ≤ n3)) : (n0 ≤ (n3 - n2)) := by first | decide | (intros; simp_all; done) | lia
theorem om71 : ((0 : Int) ≤ (0 : Int)) := by decide
theorem om72 {z0 : Int} {z1 : Int} {z2 : Int} (h0 : ((z0 / z1) < (z2 / z1))) : (((z0 / z1) + (1 : Int)) ≤ (z2 / z1)) := h0
theorem om73 {z0 : Int} {z1 : Int} {z2 : Int} (h0 : ((z0 % z1) = (z2 % z1))) (h1 : ((z2 - z0) < z1)) (h2 : (((z1 * (z0 / z1)) + (z0 % z1)) = z0)) (h3 : (((z1 * (z2 / z1)) + (z2 % z1)) = z2)) (h4 : (((z1 * (z0 / z1)) + (z1 * (1 : Int))) ≤ (z1 * (z2 / z1)))) : (z0 = z2) := by first | decide | (intros; simp_all; done) | lia
theorem om74 {z0 : Int} {z1 : Int} {z2 : Int} (h0 : ((z0 % z1) = (z2 % z1))) (h1 : (((z1 * (z2 / z1)) + (z0 % z1)) = z0)) (h2 : (((z1 * (z2 / z1)) + (z2 % z1)) = z2)) : (z0 = z2) := by first | decide | (intros; simp_all; done) | lia
theorem om75 {z0 : Int} {z1 : Int} {z2 : Int} (h0 : ((z0 % z1) = (z2 % z1))) (h1 : ((z0 - z2) < z1)) (h2 : (((z1 * (z0 / z1)) + (z0 % z1)) = z0)) (h3 : (((z1 * (z2 / z1)) + (z2 % z1)) = z2)) (h4 : (((z1 * (z2 / z1)) + (z1 * (1 : Int))) ≤ (z1 * (z0 / z1)))) : (z0 = z2) := by first | decide | (intros; simp_all; done) | lia
theorem om76 {n0 : Nat} (h0 : ((n0 + (1 : Nat)) ≤ n0)) : False := Nat.lt_irrefl _ h0
theorem om77 {z0 : Int} {z1 : Int} (h0 : (z0 ≤ z1)) (h1 : (z1 < z0)) : False := by first | decide | (intros; simp_all; done) | lia
theorem om78 {z0 : Int} (h0 : (z0 < (0 : Int))) (h1 : ((0 : Int) ≤ z0)) : False := by first | decide | (intros; simp_all; done) | lia
theorem om79 {z0 : Int} {n1 : Nat} (h0 : ((z0 + (1 : Int)) < ((n1 : Nat) : Int))) (h1 : (((n1 : Nat) : Int) ≤ (z0 + (1 : Int)))) : False := by first | decide | (intros; simp_all; done) | lia
theorem om80 {z0 : Int} {n1 : Nat} (h0 : (z0 = ((n1 : Nat) : Int))) : ((0 : Int) ≤ z0) := by first | decide | (intros; simp_all; done) | lia
theorem om81 {z0 : Int} {n1 : Nat} {n2 : Nat} (h0 : (z0 = ((n1 : Nat) : Int))) (h1 : (n1 ≤ n2)) : (z0 ≤ ((n2 : Nat) : Int)) := by first | decide | (intros; simp_all; done) | lia
theorem om82 {n0 : Nat} : (¬ ((((n0 - (1 : Nat)) : Nat) : Int) < (0 : Int))) := by first | decide | (intros; simp_all; done) | lia
theorem om83 {n0 : Nat} : ((max (0 : Int) (min ((-(1 : Int)) + ((n0 : Nat) : Int)) ((n0 : Nat) : Int))) = (max (0 : Int) (min (((n0 - (1 : Nat)) : Nat) : Int) ((n0 : Nat) : Int)))) := by first | decide | (intros; simp_all; done) | lia
theorem om84 {n0 : Nat} : ((0 : Int) ≤ (((n0 - (1 : Nat)) : Nat) : Int)) := Int.natCast_nonneg _
theorem om85 {n0 : Nat} : ((n0 - (1 : Nat)) = (Int.toNat (((n0 - (1 : Nat)) : Nat) : Int))) := by first | decide | (intros; simp_all; done) | lia
theorem om86 {n0 : Nat} (h0 : ((((n0 : Nat) : Int) + (1 : Int)) ≤ ((n0 : Nat) : Int))) : False := by first | decide | (intros; simp_all; done) | lia
theorem om87 (h0 : ((0 : Int) ≤ (-(1 : Int)))) : False := by first | decide | (intros; simp_all; done) | lia
theorem om88 {n0 : Nat} (h0 : (n0 ≤ (600 : Nat))) : (n0 ≤ (699 : Nat)) := Nat.le_trans h0 (by decide)
theorem om89 {n0 : Nat} : (n0 ≤ ((700 : Nat) + (n0 - (1 : Nat)))) := by omega
theorem om90 {n0 : Nat} {n1 : Nat} (h0 : ((n0 - (1 : Nat)) < n0)) (h1 : (n1 = n0)) : ((n0 - (1 : Nat)) < n1) := by first | decide | (intros; simp_all; done) | lia
theorem om91 {z0 : Int} {z1 : Int} (h0 : (z0 = z1)) : (z1 ≤ z0) := by first | decide | (intros; simp_all; done) | lia
theorem om92 {n0 : Nat} {n1 : Nat} {n2 : Nat} (h0 : (n0 < n1)) (h1 : (n1 = n2)) (h2 : (¬ (n0 = (n2 - (1 : Nat))))) : (n0 < (n2 - (1 : Nat))) := by first | decide | (intros; simp_all; done) | lia
theorem om93 {n0 : Nat} {n1 : Nat} (h0 : (n0 ≤ (100000 : Nat))) (h1 : ((1000000 : Nat) ≤ n1)) : (n0 ≤ n1) := Nat.le_trans h0 (Nat.le_trans (by decide) h1)
theorem om94 {z0 : Int} {n1 : Nat} (h0 : (¬ (z0 < (0 : Int)))) : ((0 : Int) ≤ (z0 + ((n1 : Nat) : Int))) := by first | decide | (intros; simp_all; done) | lia
theorem om95 {z0 : Int} (h0 : ((0 : Int) ≤ z0)) (h1 : (z0 < (0 : Int))) : False := by first | decide | (intros; simp_all; done) | lia
theorem om96 {z0 : Int} {n1 : Nat} (h0 : (z0 ≤ ((n1 : Nat) : Int))) (h1 : (((n1 : Nat) : Int) < z0)) : False := by first | decide | (intros; simp_all; done) | lia
theorem om97 {n0 : Nat} {n1 : Nat} {n2 : Nat} {z3 : Int} (h0 : (n0 ≤ (100000 : Nat))) (h1 : (n1 ≤ (100000 : Nat))) (h2 : ((1000000 : Nat) ≤ n2)) : (((min (Int.toNat z3) n0) + n1) ≤ n2) := by first | decide | (intros; simp_all; done) | lia
theorem om98 {n0 : Nat} {n1 : Nat} {n2 : Nat} {z3 : Int} {n4 : Nat} (h0 : (n0 ≤ (100000 : Nat))) (h1 : (n1 ≤ (100000 : Nat))) (h2 : ((1000000 : Nat) ≤ n2)) : ((((min (Int.toNat z3) n0) + n1) + (n0 - (Int.toNat (z3 + ((n4 : Nat) : Int))))) ≤ n2) := by omega
theorem om99 {n0 : Nat} {n1 : Nat} {n2 : Nat} (h0 : (n0 < (min n1 n2))) : (n0 < n2) := by first | decide | (intros; simp_all; done) | lia
theorem om100 {n0 : Nat} {n1 : Nat} {n2 : Nat} (h0 : (n0 < (min n1 n2))) (h1 : (n0 = n1)) : False := by first | decide | (intros; simp_all; done) | lia
theorem om101 {z0 : Int} (h0 : (z0 ≤ (1000 : Int))) (h1 : ((1000 : Int) < z0)) : False := by first | decide | (intros; simp_all; done) | lia
theorem om102 {z0 : Int} : ((0 : Int) ≤ (z0 % (96 : Int))) := by first | decide | (intros; simp_all; done) | lia
theorem om103 {z0 : Int} : (((-(9223372036854775808 : Int)) ≤ (z0 % (96 : Int))) ∧ ((z0 % (96 : Int)) < (9223372036854775808 : Int))) := by first | decide | (intros; simp_all; done) | lia
theorem om104 {z0 : Int} : ((z0 % (96 : Int)) < ((((64 : Nat) + (32 : Nat)) : Nat) : Int)) := by first | decide | (intros; simp_all; done) | lia
theorem om105 {z0 : Int} : ((Int.toNat (z0 % (96 : Int))) < ((64 : Nat) + (32 : Nat))) := by first | decide | (intros; simp_all; done) | lia
theorem om106 {z0 : Int} (h0 : (z0 ≤ (100000 : Int))) : ((Int.toNat z0) ≤ (100000 : Nat)) := by first | decide | (intros; simp_all; done) | lia
theorem om107 {z0 : Int} : ((0 : Int) < ((1 : Int) + (z0 % (3 : Int)))) := by first | decide | (intros; simp_all; done) | lia
theorem om108 {z0 : Int} : (((1 : Int) + (z0 % (3 : Int))) < (1073741824 : Int)) := by first | decide | (intros; simp_all; done) | lia
theorem om109 {z0 : Int} (h0 : (z0 ≤ (100000 : Int))) : ((Int.toNat z0) ≤ (16777216 : Nat)) := by first | decide | (intros; simp_all; done) | lia
theorem om110 : ((1 : Nat) ≤ (2 : Nat)) := by decide
theorem om111 {n0 : Nat} {n1 : Nat} (h0 : (n0 ≤ (10000 : Nat))) (h1 : ((1000000 : Nat) ≤ n1)) : (n0 ≤ n1) := Nat.le_trans h0 (Nat.le_trans (by decide) h1)
theorem om112 {n0 : Nat} : ((0 : Int) < (((n0 : Nat) : Int) + (1 : Int))) := by first | decide | (intros; simp_all; done) | lia
theorem om113 {n0 : Nat} (h0 : (n0 ≤ (10000 : Nat))) : ((((n0 : Nat) : Int) + (1 : Int)) < (1073741824 : Int)) := by first | decide | (intros; simp_all; done) | lia
theorem om114 {n0 : Nat} : (¬ ((((n0 : Nat) : Int) + (1 : Int)) = (0 : Int))) := by first | decide | (intros; simp_all; done) | lia
theorem om115 {n0 : Nat} : (n0 ≤ (n0 + (9 : Nat))) := by first | decide | (intros; simp_all; done) | lia
theorem om116 {z0 : Int} {z1 : Int} (h0 : ((0 : Int) ≤ z0)) : ((0 : Int) ≤ ((z0 + (1 : Int)) + (z1 % (3 : Int)))) := by first | decide | (intros; simp_all; done) | lia
theorem om117 {z0 : Int} (h0 : ((0 : Int) ≤ z0)) : ((0 : Int) ≤ (z0 + (1 : Int))) := by first | decide | (intros; simp_all; done) | lia
theorem om118 {z0 : Int} : ((0 : Int) ≤ (z0 % (9 : Int))) := by first | decide | (intros; simp_all; done) | lia
theorem om119 {z0 : Int} : ((z0 % (9 : Int)) ≤ (100000 : Int)) := by first | decide | (intros; simp_all; done) | lia
theorem om120 {z0 : Int} {n1 : Nat} : ((Int.toNat (z0 % (9 : Int))) ≤ (n1 + (9 : Nat))) := by first | decide | (intros; simp_all; done) | lia
theorem om121 {n0 : Nat} {n1 : Nat} {n2 : Nat} (h0 : (n0 = (min n1 n2))) : ((min ((n1 : Nat) : Int) ((n2 : Nat) : Int)) = ((n0 : Nat) : Int)) := by omega
theorem om122 {n0 : Nat} : ((0 : Nat) ≤ n0) := Nat.zero_le _
theorem om123 {n0 : Nat} {n1 : Nat} {n2 : Nat} {n3 : Nat} (h0 : (n0 = (min n1 n2))) (h1 : (((n3 : Nat) : Int) < ((n0 : Nat) : Int))) : (n3 < n1) := by first | decide | (intros; simp_all; done) | lia
theorem om124 {n0 : Nat} {n1 : Nat} {n2 : Nat} {n3 : Nat} (h0 : (n0 = (min n1 n2))) (h1 : (((n3 : Nat) : Int) < ((n0 : Nat) : Int))) : (n3 < n2) := by first | decide | (intros; simp_all; done) | lia
theorem om125 {n0 : Nat} {n1 : Nat} {n2 : Nat} {n3 : Nat} (h0 : (n0 = (min n1 n2))) (h1 : (((n3 : Nat) : Int) < ((n0 : Nat) : Int))) : (((n3 : Nat) : Int) < ((n1 : Nat) : Int)) := by first | decide | (intros; simp_all; done) | lia
theorem om126 {n0 : Nat} {n1 : Nat} {n2 : Nat} {n3 : Nat} (h0 : (n0 ≤ (100000 : Nat))) (h1 : (n1 = (min n2 n0))) (h2 : (((n3 : Nat) : Int) < ((n1 : Nat) : Int))) : (((-(9223372036854775808 : Int)) ≤ ((n3 : Nat) : Int)) ∧ (((n3 : Nat) : Int) < (9223372036854775808 : Int))) := by first | decide | (intros; simp_all; done) | lia
theorem om127 {n0 : Nat} {n1 : Nat} {n2 : Nat} {n3 : Nat} (h0 : (n0 = (min n1 n2))) (h1 : (((n3 : Nat) : Int) < ((n0 : Nat) : Int))) : (((n3 : Nat) : Int) < ((n2 : Nat) : Int)) := by first | decide | (intros; simp_all; done) | lia
theorem om128 {n0 : Nat} : (((-(1 : Int)) - ((n0 : Nat) : Int)) < (0 : Int)) := by first | decide | (intros; simp_all; done) | lia
theorem om129 {n0 : Nat} {n1 : Nat} : ((Int.toNat (((-(1 : Int)) - ((n0 : Nat) : Int)) + ((n1 : Nat) : Int))) = ((n1 - (1 : Nat)) - n0)) := by omega
theorem om130 {n0 : Nat} {n1 : Nat} : ((n0 - (n1 + (1 : Nat))) = ((n0 - (1 : Nat)) - n1)) := by first | decide | (intros; simp_all; done) | lia
theorem om131 {n0 : Nat} {n1 : Nat} : ((Int.toNat (((n0 : Nat) : Int) - ((n1 : Nat) : Int))) = (n0 - n1)) := by first | decide | (intros; simp_all; done) | lia
theorem om132 {n0 : Nat} (h0 : (n0 ≤ (20000 : Nat))) : (n0 ≤ (100000 : Nat)) := Nat.le_trans h0 (by decide)
theorem om133 {n0 : Nat} : ((max (0 : Int) (((n0 : Nat) : Int) - (2 : Int))) = (((n0 - (2 : Nat)) : Nat) : Int)) := by first | decide | (intros; simp_all; done) | lia
theorem om134 {n0 : Nat} : ((n0 - (2 : Nat)) ≤ n0) := by first | decide | (intros; simp_all; done) | lia
theorem om135 {n0 : Nat} {n1 : Nat} (h0 : (n0 ≤ (20000 : Nat))) (h1 : ((1000000 : Nat) ≤ n1)) : (n0 ≤ n1) := Nat.le_trans h0 (Nat.le_trans (by decide) h1)
theorem om136 {n0 : Nat} {n1 : Nat} (h0 : (n0 ≤ (20000 : Nat))) (h1 : ((1000000 : Nat) ≤ n1)) : ((n0 + n0) ≤ n1) := by first | decide | (intros; simp_all; done) | lia
theorem om137 {n0 : Nat} {n1 : Nat} {n2 : Nat} {n3 : Nat} {n4 : Nat} (h0 : (n0 ≤ (20000 : Nat))) (h1 : (n1 ≤ (20000 : Nat))) (h2 : ((1000000 : Nat) ≤ n2)) (h3 : ((n3 + n4) ≤ n0)) : ((n3 + n1) ≤ n2) := by first | decide | (intros; simp_all; done) | lia
theorem om138 {z0 : Int} {z1 : Int} : (z0 < ((z0 + (1 : Int)) + ((z1 / (3 : Int)) % (3 : Int)))) := by first | decide | (intros; simp_all; done) | lia
theorem om139 {n0 : Nat} {n1 : Nat} {n2 : Nat} {n3 : Nat} (h0 : (n0 ≤ (100 : Nat))) (h1 : ((1000000 : Nat) ≤ n1)) (h2 : (n2 = n3)) (h3 : (n3 < n0)) : (n2 ≤ n1) := by first | decide | (intros; simp_all; done) | lia
theorem om140 {z0 : Int} {z1 : Int} (h0 : ((-(1 : Int)) ≤ z0)) (h1 : (z0 < z1)) : ((-(1 : Int)) ≤ z1) := by first | decide | (intros; simp_all; done) | lia
theorem om141 {z0 : Int} {z1 : Int} {z2 : Int} (h0 : (z0 = z1)) (h1 : (z2 < z1)) (h2 : (z0 ≤ z2)) : False := by first | decide | (intros; simp_all; done) | lia
theorem om142 {z0 : Int} {z1 : Int} {z2 : Int} (h0 : (z0 < z1)) (h1 : (((0 : Int) ≤ z2) ∧ (z2 ≤ z0))) : (((0 : Int) ≤ z2) ∧ (z2 ≤ z1)) := by first | decide | (intros; simp_all; done) | lia
theorem om143 {z0 : Int} {z1 : Int} {z2 : Int} (h0 : ((-(1 : Int)) ≤ z0)) (h1 : (z0 < z1)) (h2 : (z2 = z1)) : (((0 : Int) ≤ z2) ∧ (z2 ≤ z1)) := by first | decide | (intros; simp_all; done) | lia
theorem om144 {z0 : Int} : ((0 : Int) ≤ (((17 : Int) * (z0 / (9 : Int))) % (400 : Int))) := by first | decide | (intros; simp_all; done) | lia
theorem om145 {z0 : Int} : ((((17 : Int) * (z0 / (9 : Int))) % (400 : Int)) < (400 : Int)) := by first | decide | (intros; simp_all; done) | lia
theorem om146 {z0 : Int} : ((z0 % (9 : Int)) < (400 : Int)) := by first | decide | (intros; simp_all; done) | lia
theorem om147 {n0 : Nat} (h0 : (n0 ≤ (40 : Nat))) : (n0 < (64 : Nat)) := Nat.lt_of_le_of_lt h0 (by decide)
theorem om148 {n0 : Nat} {n1 : Nat} {n2 : Nat} (h0 : ((1000000 : Nat) ≤ n0)) (h1 : (n1 ≤ (40 : Nat))) (h2 : (n2 = n1)) : (n2 ≤ n0) := by first | decide | (intros; simp_all; done) | lia
theorem om149 {n0 : Nat} (h0 : ((1000000 : Nat) ≤ n0)) : ((1 : Nat) ≤ n0) := by first | decide | (intros; simp_all; done) | lia
theorem om150 : ((-(1 : Int)) < (0 : Int)) := by decide
theorem om151 {n0 : Nat} : ((0 : Int) ≤ ((-(1 : Int)) + (((n0 + (1 : Nat)) : Nat) : Int))) := by first | decide | (intros; simp_all; done) | lia
theorem om152 {n0 : Nat} : ((Int.toNat ((-(1 : Int)) + (((n0 + (1 : Nat)) : Nat) : Int))) = n0) := by first | decide | (intros; simp_all; done) | lia
theorem om153 : (((-(9223372036854775808 : Int)) ≤ (-(1 : Int))) ∧ ((-(1 : Int)) < (9223372036854775808 : Int))) := by decide
theorem om154 {n0 : Nat} {n1 : Nat} {n2 : Nat} {n3 : Nat} {n4 : Nat} (h0 : ((1000000 : Nat) ≤ n0)) (h1 : ((n1 + n2) ≤ n3)) (h2 : (n3 ≤ (40 : Nat))) (h3 : (n4 = (n1 + (1 : Nat)))) : (n4 ≤ n0) := by first | decide | (intros; simp_all; done) | lia
theorem om155 {n0 : Nat} {n1 : Nat} {n2 : Nat} {n3 : Nat} (h0 : ((n0 + n1) ≤ n2)) (h1 : (n3 < n1)) : (((n0 + (1 : Nat)) + n3) ≤ n2) := by first | decide | (intros; simp_all; done) | lia
theorem om156 {n0 : Nat} {n1 : Nat} {n2 : Nat} (h0 : ((n0 + n1) ≤ n2)) (h1 : (n2 ≤ (40 : Nat))) : (n0 ≤ (49 : Nat)) := by first | decide | (intros; simp_all; done) | lia
theorem om157 {n0 : Nat} (h0 : ((1 : Nat) ≤ n0)) : ((0 : Int) ≤ (((n0 : Nat) : Int) - (1 : Int))) := by first | decide | (intros; simp_all; done) | lia
theorem om158 {n0 : Nat} (h0 : (n0 ≤ (41 : Nat))) : ((((n0 : Nat) : Int) - (1 : Int)) ≤ (60 : Int)) := by first | decide | (intros; simp_all; done) | lia
theorem om159 {n0 : Nat} : (((n0 : Nat) : Int) = ((((n0 : Nat) : Int) - (1 : Int)) + (1 : Int))) := by first | decide | (intros; simp_all; done) | lia
theorem om160 {n0 : Nat} {n1 : Nat} (h0 : ((((n0 : Nat) : Int) - (1 : Int)) ≤ (((n1 : Nat) : Int) - (1 : Int)))) : (((n0 : Nat) : Int) ≤ ((((n1 : Nat) : Int) - (1 : Int)) + (1 : Int))) := by first | decide | (intros; simp_all; done) | lia
theorem om161 {n0 : Nat} {n1 : Nat} (h0 : ((1000000 : Nat) ≤ n0)) (h1 : (n1 ≤ (40 : Nat))) : (n1 ≤ n0) := Nat.le_trans h1 (Nat.le_trans (by decide) h0)
theorem om162 {n0 : Nat} {n1 : Nat} (h0 : ((1000000 : Nat) ≤ n0)) (h1 : (n1 ≤ (50 : Nat))) : (n1 ≤ n0) := Nat.le_trans h1 (Nat.le_trans (by decide) h0)
theorem om163 {n0 : Nat} (h0 : ((1 : Nat) ≤ n0)) : (¬ (((n0 : Nat) : Int) = (0 : Int))) := by first | decide | (intros; simp_all; done) | lia
theorem om164 {n0 : Nat} (h0 : ((1 : Nat) ≤ n0)) : ((0 : Int) < ((n0 : Nat) : Int)) := by first | decide | (intros; simp_all; done) | lia
theorem om165 {n0 : Nat} {n1 : Nat} {n2 : Nat} {z3 : Int} (h0 : ((1 : Nat) ≤ n0)) (h1 : (n1 = n0)) (h2 : (((((n2 : Nat) : Int) + z3) % ((n0 : Nat) : Int)) < ((n0 : Nat) : Int))) : ((Int.toNat ((((n2 : Nat) : Int) + z3) % ((n0 : Nat) : Int))) < n1) := by first | decide | (intros; simp_all; done) | lia
theorem om166 : ((1 : Nat) ≤ (3 : Nat)) := by decide
theorem om167 : ((2 : Nat) ≤ (3 : Nat)) := by decide
theorem om168 {n0 : Nat} {n1 : Nat} {n2 : Nat} (h0 : (n0 ≤ (14 : Nat))) (h1 : ((1000000 : Nat) ≤ n1)) (h2 : (n2 = ((3 : Nat) * n0))) : (n2 ≤ n1) := by first | decide | (intros; simp_all; done) | lia
theorem om169 {n0 : Nat} {n1 : Nat} (h0 : (n0 = ((3 : Nat) * n1))) : ((((n0 : Nat) : Int) / (3 : Int)) = ((n1 : Nat) : Int)) := by first | decide | (intros; simp_all; done) | lia
theorem om170 {n0 : Nat} : ((0 : Int) ≤ ((2 : Int) * ((n0 : Nat) : Int))) := Int.natCast_nonneg _
theorem om171 {n0 : Nat} {n1 : Nat} (h0 : (n0 = ((3 : Nat) * n1))) : (((2 : Int) * ((n1 : Nat) : Int)) ≤ ((n0 : Nat) : Int)) := by first | decide | (intros; simp_all; done) | lia
theorem om172 {n0 : Nat} {n1 : Nat} (h0 : (n0 = ((3 : Nat) * n1))) : ((n0 - (Int.toNat ((2 : Int) * ((n1 : Nat) : Int)))) = n1) := by first | decide | (intros; simp_all; done) | lia
theorem om173 {n0 : Nat} {n1 : Nat} (h0 : (n0 ≤ (14 : Nat))) (h1 : (n1 = n0)) : (n1 ≤ (100 : Nat)) := by first | decide | (intros; simp_all; done) | lia
theorem om174 {n0 : Nat} {n1 : Nat} (h0 : (n0 ≤ (14 : Nat))) (h1 : ((1000000 : Nat) ≤ n1)) : (n0 ≤ n1) := Nat.le_trans h0 (Nat.le_trans (by decide) h1)
theorem om175 {n0 : Nat} {n1 : Nat} {n2 : Nat} {z3 : Int} (h0 : ((1 : Nat) ≤ n0)) (h1 : (n1 = n0)) (h2 : (((((n2 : Nat) : Int) + (z3 / (2 : Int))) % ((n0 : Nat) : Int)) < ((n0 : Nat) : Int))) : ((Int.toNat ((((n2 : Nat) : Int) + (z3 / (2 : Int))) % ((n0 : Nat) : Int))) < n1) := by first | decide | (intros; simp_all; done) | lia
theorem om176 {n0 : Nat} {n1 : Nat} {n2 : Nat} {z3 : Int} (h0 : (n0 = n1)) (h1 : (((((n2 : Nat) : Int) + (z3 / (2 : Int))) % ((n1 : Nat) : Int)) < ((n1 : Nat) : Int))) : (((((n2 : Nat) : Int) + (z3 / (2 : Int))) % ((n1 : Nat) : Int)) < ((n0 : Nat) : Int)) := by first | decide | (intros; simp_all; done) | lia
theorem om177 {n0 : Nat} {n1 : Nat} {z2 : Int} (h0 : (n0 ≤ (14 : Nat))) (h1 : ((0 : Int) ≤ ((((n1 : Nat) : Int) + (z2 / (2 : Int))) % ((n0 : Nat) : Int)))) (h2 : (((((n1 : Nat) : Int) + (z2 / (2 : Int))) % ((n0 : Nat) : Int)) < ((n0 : Nat) : Int))) : (((-(9223372036854775808 : Int)) ≤ ((((n1 : Nat) : Int) + (z2 / (2 : Int))) % ((n0 : Nat) : Int))) ∧ (((((n1 : Nat) : Int) + (z2 / (2 : Int))) % ((n0 : Nat) : Int)) < (9223372036854775808 : Int))) := by first | decide | (intros; simp_all; done) | lia
theorem om178 {n0 : Nat} {n1 : Nat} {n2 : Nat} (h0 : (n0 = ((3 : Nat) * n1))) (h1 : (n2 < ((3 : Nat) * n1))) : (((n2 : Nat) : Int) < ((n0 : Nat) : Int)) := by first | decide | (intros; simp_all; done) | lia
theorem om179 {n0 : Nat} : ((Int.toNat ((n0 : Nat) : Int)) = n0) := by first | decide | (intros; simp_all; done) | lia
theorem om180 {n0 : Nat} {n1 : Nat} (h0 : (n0 ≤ (14 : Nat))) (h1 : (n1 < ((3 : Nat) * n0))) : (((-(9223372036854775808 : Int)) ≤ ((n1 : Nat) : Int)) ∧ (((n1 : Nat) : Int) < (9223372036854775808 : Int))) := by first | decide | (intros; simp_all; done) | lia
theorem om181 {n0 : Nat} {n1 : Nat} {n2 : Nat} (h0 : (n0 = ((3 : Nat) * n1))) (h1 : (n2 < ((3 : Nat) * n1))) : (n2 < n0) := by first | decide | (intros; simp_all; done) | lia
theorem om182 {n0 : Nat} {n1 : Nat} (h0 : (n0 < n1)) : (((n0 : Nat) : Int) < ((n1 : Nat) : Int)) := by first | decide | (intros; simp_all; done) | lia
theorem om183 {n0 : Nat} {n1 : Nat} {n2 : Nat} (h0 : (n0 ≤ (14 : Nat))) (h1 : (n1 = n0)) (h2 : (n2 < n1)) : (((-(9223372036854775808 : Int)) ≤ ((n2 : Nat) : Int)) ∧ (((n2 : Nat) : Int) < (9223372036854775808 : Int))) := by first | decide | (intros; simp_all; done) | lia
theorem om184 {n0 : Nat} {n1 : Nat} {n2 : Nat} (h0 : (n0 ≤ (14 : Nat))) (h1 : (n1 = n0)) (h2 : (n2 ≤ n1)) : (n2 ≤ (40 : Nat)) := by first | decide | (intros; simp_all; done) | lia
theorem om185 {n0 : Nat} {n1 : Nat} (h0 : (n0 < (Int.toNat ((n1 : Nat) : Int)))) : (n0 < n1) := h0
theorem om186 {n0 : Nat} {n1 : Nat} {n2 : Nat} (h0 : (n0 = n1)) (h1 : (n2 < n1)) : (n2 < n0) := by first | decide | (intros; simp_all; done) | lia
theorem om187 {n0 : Nat} {n1 : Nat} {n2 : Nat} {n3 : Nat} (h0 : (n0 = n1)) (h1 : (n2 < n1)) (h2 : (n3 = (min n2 n0))) : (n3 = n2) := by first | decide | (intros; simp_all; done) | lia
theorem om188 {n0 : Nat} {n1 : Nat} (h0 : (n0 < n1)) : (n0 < ((3 : Nat) * n1)) := by first | decide | (intros; simp_all; done) | lia
theorem om189 {n0 : Nat} {n1 : Nat} : ((((n0 : Nat) : Int) + ((n1 : Nat) : Int)) = (((n0 + n1) : Nat) : Int)) := by first | decide | (intros; simp_all; done) | lia
theorem om190 {n0 : Nat} {n1 : Nat} (h0 : (n0 < n1)) : ((n1 + n0) < ((3 : Nat) * n1)) := by first | decide | (intros; simp_all; done) | lia
theorem om191 {n0 : Nat} {n1 : Nat} {n2 : Nat} (h0 : (n0 ≤ (14 : Nat))) (h1 : (n1 < n0)) (h2 : (n2 = n1)) : (n2 < (40 : Nat)) := by first | decide | (intros; simp_all; done) | lia
theorem om192 {n0 : Nat} {n1 : Nat} {n2 : Nat} (h0 : (n0 ≤ (14 : Nat))) (h1 : (n1 < n0)) (h2 : (n2 ≤ ((400 : Nat) + ((9 : Nat) * (n1 + (1 : Nat)))))) : (n2 ≤ (20000 : Nat)) := by first | decide | (intros; simp_all; done) | lia
theorem om193 {n0 : Nat} {n1 : Nat} (h0 : (n0 ≤ ((400 : Nat) + ((9 : Nat) * n1)))) : (n0 ≤ ((400 : Nat) + ((9 : Nat) * (n1 + (1 : Nat))))) := by first | decide | (intros; simp_all; done) | lia
theorem om194 {z0 : Int} (h0 : (z0 < (400 : Int))) : (z0 ≤ (100000 : Int)) := by first | decide | (intros; simp_all; done) | lia
theorem om195 {n0 : Nat} {n1 : Nat} {n2 : Nat} {n3 : Nat} (h0 : (n0 ≤ (14 : Nat))) (h1 : ((1000000 : Nat) ≤ n1)) (h2 : (n2 < n0)) : ((min n2 n3) ≤ n1) := by first | decide | (intros; simp_all; done) | lia
theorem om196 {n0 : Nat} (h0 : ((1000000 : Nat) ≤ n0)) : ((2 : Nat) ≤ n0) := by first | decide | (intros; simp_all; done) | lia
theorem om197 {n0 : Nat} {n1 : Nat} {n2 : Nat} {n3 : Nat} (h0 : (n0 ≤ (14 : Nat))) (h1 : ((1000000 : Nat) ≤ n1)) (h2 : (n2 < n0)) (h3 : (n3 = n2)) : (n3 ≤ n1) := by first | decide | (intros; simp_all; done) | lia
theorem om198 {z0 : Int} {n1 : Nat} {n2 : Nat} (h0 : (z0 < (400 : Int))) (h1 : (n1 = (Int.toNat z0))) : (n1 ≤ ((400 : Nat) + ((9 : Nat) * (n2 + (1 : Nat))))) := by first | decide | (intros; simp_all; done) | lia
theorem om199 {n0 : Nat} (h0 : (¬ ((1 : Nat) ≤ n0))) : (((n0 : Nat) : Int) = (0 : Int)) := by first | decide | (intros; simp_all; done) | lia
theorem om200 {n0 : Nat} {n1 : Nat} {n2 : Nat} (h0 : (n0 = n1)) (h1 : (n2 < n1)) : ((n2 - (1 : Nat)) < n0) := by omega
theorem om201 {n0 : Nat} {n1 : Nat} {n2 : Nat} {z3 : Int} (h0 : (n0 = n1)) (h1 : (n2 < n1)) (h2 : (((z3 / (5 : Int)) % ((n2 : Nat) : Int)) < ((n2 : Nat) : Int))) : ((Int.toNat ((z3 / (5 : Int)) % ((n2 : Nat) : Int))) < n0) := by first | decide | (intros; simp_all; done) | lia
theorem om202 {n0 : Nat} (h0 : ((1 : Nat) ≤ n0)) : ((((n0 : Nat) : Int) - (1 : Int)) = (((n0 - (1 : Nat)) : Nat) : Int)) := by first | decide | (intros; simp_all; done) | lia
theorem om203 {z0 : Int} {n1 : Nat} (h0 : ((0 : Int) ≤ ((z0 / (5 : Int)) % ((n1 : Nat) : Int)))) : (((z0 / (5 : Int)) % ((n1 : Nat) : Int)) = (((Int.toNat ((z0 / (5 : Int)) % ((n1 : Nat) : Int))) : Nat) : Int)) := by first | decide | (intros; simp_all; done) | lia
theorem om204 {z0 : Int} {n1 : Nat} (h0 : ((0 : Int) ≤ ((z0 / (5 : Int)) % ((n1 : Nat) : Int)))) (h1 : (((z0 / (5 : Int)) % ((n1 : Nat) : Int)) < ((n1 : Nat) : Int))) : ((Int.toNat ((z0 / (5 : Int)) % ((n1 : Nat) : Int))) < n1) := by first | decide | (intros; simp_all; done) | lia
theorem om205 {n0 : Nat} (h0 : ((1 : Nat) ≤ n0)) : ((n0 - (1 : Nat)) < n0) := by omega
theorem om206 {n0 : Nat} {n1 : Nat} {n2 : Nat} (h0 : (n0 ≤ (14 : Nat))) (h1 : (n1 < n0)) (h2 : (n2 ≤ ((400 : Nat) + ((9 : Nat) * n1)))) : (n2 ≤ (10000 : Nat)) := by first | decide | (intros; simp_all; done) | lia
theorem om207 {n0 : Nat} {n1 : Nat} : ((((2 : Int) * ((n0 : Nat) : Int)) + ((n1 : Nat) : Int)) = (((((2 : Nat) * n0) + n1) : Nat) : Int)) := by first | decide | (intros; simp_all; done) | lia
theorem om208 {n0 : Nat} {n1 : Nat} (h0 : (n0 < n1)) : ((((2 : Nat) * n1) + n0) < ((3 : Nat) * n1)) := by first | decide | (intros; simp_all; done) | lia
theorem om209 {n0 : Nat} {n1 : Nat} {n2 : Nat} (h0 : (n0 ≤ (14 : Nat))) (h1 : (n1 < n0)) (h2 : (n2 ≤ ((400 : Nat) + ((9 : Nat) * n1)))) : (n2 ≤ (20000 : Nat)) := by first | decide | (intros; simp_all; done) | lia
theorem om210 {n0 : Nat} {n1 : Nat} {n2 : Nat} {n3 : Nat} (h0 : (n0 ≤ (14 : Nat))) (h1 : (n1 < n0)) (h2 : (n2 ≤ ((400 : Nat) + ((9 : Nat) * n1)))) (h3 : (n3 ≤ (n2 + (9 : Nat)))) : (n3 ≤ (20000 : Nat)) := by first | decide | (intros; simp_all; done) | lia
theorem om211 {n0 : Nat} {n1 : Nat} {n2 : Nat} (h0 : (n0 ≤ ((400 : Nat) + ((9 : Nat) * n1)))) (h1 : (n2 ≤ (n0 + (9 : Nat)))) : (n2 ≤ ((400 : Nat) + ((9 : Nat) * (n1 + (1 : Nat))))) := by first | decide | (intros; simp_all; done) | lia
theorem om212 {n0 : Nat} {n1 : Nat} (h0 : (n0 = n1)) : (n0 ≤ n1) := by first | decide | (intros; simp_all; done) | lia
theorem om213 {n0 : Nat} {n1 : Nat} {n2 : Nat} (h0 : (n0 = n1)) (h1 : (n2 = n0)) : (n2 = n1) := by first | decide | (intros; simp_all; done) | lia
theorem om214 {n0 : Nat} {n1 : Nat} (h0 : (n0 ≤ (14 : Nat))) (h1 : (n1 ≤ ((400 : Nat) + ((9 : Nat) * n0)))) : (n1 ≤ (600 : Nat)) := by first | decide | (intros; simp_all; done) | lia
theorem om215 {n0 : Nat} {n1 : Nat} (h0 : (n0 ≤ (100 : Nat))) (h1 : ((1000000 : Nat) ≤ n1)) : ((Int.toNat ((3 : Int) * ((n0 : Nat) : Int))) ≤ n1) := by first | decide | (intros; simp_all; done) | lia
theorem om216 {z0 : Int} {n1 : Nat} (h0 : ((0 : Int) ≤ z0)) : ((0 : Int) ≤ (z0 + ((n1 : Nat) : Int))) := by first | decide | (intros; simp_all; done) | lia
theorem om217 {n0 : Nat} : ((Int.toNat ((3 : Int) * ((n0 : Nat) : Int))) = ((3 : Nat) * n0)) := by first | decide | (intros; simp_all; done) | lia
theorem om218 {z0 : Int} {z1 : Int} {z2 : Int} (h0 : (z0 = z1)) (h1 : (z0 = z2)) : (z2 ≤ z1) := by first | decide | (intros; simp_all; done) | lia
theorem om219 {n0 : Nat} {n1 : Nat} (h0 : (n0 < n1)) (h1 : (¬ (n0 = (n1 - (1 : Nat))))) : (n0 < (n1 - (1 : Nat))) := by first | decide | (intros; simp_all; done) | lia
theorem om220 {z0 : Int} {z1 : Int} {z2 : Int} {z3 : Int} (h0 : (z0 = z1)) (h1 : (z2 = z3)) (h2 : (z0 ≤ z2)) : (z1 ≤ z3) := by first | decide | (intros; simp_all; done) | lia
theorem om221 {z0 : Int} (h0 : ((0 : Int) ≤ z0)) : ((((0 : Nat) : Nat) : Int) ≤ z0) := h0
theorem om222 {n0 : Nat} : (n0 = ((0 : Nat) + n0)) := by first | decide | (intros; simp_all; done) | lia
theorem om223 {n0 : Nat} {n1 : Nat} (h0 : (n0 < (n1 + (1 : Nat)))) (h1 : (¬ (n0 < n1))) : (n0 = n1) := by first | decide | (intros; simp_all; done) | lia
theorem om224 {n0 : Nat} {z1 : Int} (h0 : (((n0 : Nat) : Int) ≤ z1)) : (((n0 : Nat) : Int) ≤ z1) := h0
theorem om225 {z0 : Int} {n1 : Nat} (h0 : (¬ (z0 < (((n1 : Nat) : Int) + (1 : Int))))) : ((((Int.toNat z0) + (1 : Nat)) - (n1 + (1 : Nat))) < (((Int.toNat z0) + (1 : Nat)) - n1)) := by first | decide | (intros; simp_all; done) | lia
theorem om226 {z0 : Int} {n1 : Nat} (h0 : (¬ (z0 < (((n1 : Nat) : Int) + (1 : Int))))) : ((((n1 + (1 : Nat)) : Nat) : Int) ≤ z0) := Int.not_lt.mp h0
theorem om227 {n0 : Nat} (h0 : (n0 ≤ (700 : Nat))) : (n0 ≤ ((700 : Nat) * ((0 : Nat) + (1 : Nat)))) := h0
theorem om228 {n0 : Nat} {n1 : Nat} (h0 : (n0 < n1)) : (((n1 - (1 : Nat)) - n0) < n1) := by omega
theorem om229 {n0 : Nat} {n1 : Nat} (h0 : (n0 < n1)) : ((((n1 - (1 : Nat)) - n0) + (1 : Nat)) = (n1 - n0)) := by first | decide | (intros; simp_all; done) | lia
theorem om230 : ((1 : Nat) ≤ (1 : Nat)) := by decide
theorem om231 {n0 : Nat} {n1 : Nat} {n2 : Nat} {n3 : Nat} (h0 : (n0 ≤ (100 : Nat))) (h1 : (n1 < n0)) (h2 : (n2 ≤ ((700 : Nat) * (n3 + (1 : Nat))))) (h3 : (n3 < n1)) : (n2 ≤ (100000 : Nat)) := by first | decide | (intros; simp_all; done) | lia
theorem om232 {n0 : Nat} (h0 : (n0 ≤ (700 : Nat))) : (n0 ≤ (100000 : Nat)) := Nat.le_trans h0 (by decide)
theorem om233 {n0 : Nat} {n1 : Nat} (h0 : (n0 < n1)) : ((n0 + (1 : Nat)) ≤ n1) := h0
theorem om234 {n0 : Nat} {n1 : Nat} {n2 : Nat} {z3 : Int} {n4 : Nat} (h0 : (n0 ≤ ((700 : Nat) * (n1 + (1 : Nat))))) (h1 : (n2 ≤ (700 : Nat))) : ((((min (Int.toNat z3) n0) + n2) + (n0 - (Int.toNat (z3 + ((n4 : Nat) : Int))))) ≤ ((700 : Nat) * ((n1 + (1 : Nat)) + (1 : Nat)))) := by omega
theorem om235 {n0 : Nat} {n1 : Nat} {n2 : Nat} (h0 : (n0 ≤ (100 : Nat))) (h1 : ((1000000 : Nat) ≤ n1)) (h2 : (n2 < n0)) : (n2 ≤ n1) := by first | decide | (intros; simp_all; done) | lia
theorem om236 {n0 : Nat} {n1 : Nat} (h0 : (n0 < n1)) : ((n1 - (n0 + (1 : Nat))) < (n1 - n0)) := by omega
theorem om237 : ((2 : Nat) ≤ (2 : Nat)) := by decide
theorem om238 {n0 : Nat} {n1 : Nat} (h0 : (n0 ≤ (100 : Nat))) (h1 : (n1 ≤ n0)) : (n1 ≤ (100 : Nat)) := Nat.le_trans h1 h0
theorem om239 : ((-(1 : Int)) ≤ (-(1 : Int))) := by decide
theorem om240 {z0 : Int} (h0 : ((0 : Int) ≤ z0)) : ((-(1 : Int)) ≤ z0) := Int.le_of_lt h0
theorem om241 : ((3 : Nat) ≤ (3 : Nat)) := by decide
theorem om242 {z0 : Int} {z1 : Int} {z2 : Int} (h0 : (¬ (z0 ≤ z1))) (h1 : (z2 ≤ z1)) : (z2 < z0) := by first | decide | (intros; simp_all; done) | lia
theorem om243 {n0 : Nat} {n1 : Nat} {n2 : Nat} (h0 : (n0 ≤ (40 : Nat))) (h1 : ((1000000 : Nat) ≤ n1)) : ((min n2 n0) ≤ n1) := by first | decide | (intros; simp_all; done) | lia
theorem om244 {z0 : Int} (h0 : (z0 < z0)) : False := by first | decide | (intros; simp_all; done) | lia
theorem om245 {z0 : Int} {z1 : Int} (h0 : (¬ (z0 ≤ z1))) (h1 : ((-(1 : Int)) ≤ z1)) : ((0 : Int) ≤ z0) := by first | decide | (intros; simp_all; done) | lia
theorem om246 {n0 : Nat} (h0 : (n0 ≤ (40 : Nat))) : (n0 ≤ (100 : Nat)) := Nat.le_trans h0 (by decide)
theorem om247 : ((4 : Nat) ≤ (4 : Nat)) := by decide
theorem om248 {n0 : Nat} {n1 : Nat} (h0 : (n0 ≤ (600 : Nat))) (h1 : ((1000000 : Nat) ≤ n1)) : ((n0 + (1 : Nat)) ≤ n1) := by first | decide | (intros; simp_all; done) | lia
theorem om249 {n0 : Nat} {n1 : Nat} (h0 : (n0 ≤ (600 : Nat))) (h1 : ((1000000 : Nat) ≤ n1)) : (n0 ≤ n1) := Nat.le_trans h0 (Nat.le_trans (by decide) h1)
theorem om250 {n0 : Nat} {n1 : Nat} {n2 : Nat} {n3 : Nat} (h0 : (n0 ≤ (14 : Nat))) (h1 : (n1 ≤ (2 : Nat))) (h2 : (n2 ≤ n3)) : ((((min n2 n0) + n1) + (n0 - n3)) ≤ (17 : Nat)) := by omega
theorem om251 {n0 : Nat} {n1 : Nat} (h0 : (n0 < n1)) : ((n1 - (1 : Nat)) < n1) := by omega
theorem om252 {n0 : Nat} {n1 : Nat} (h0 : (n0 ≤ (14 : Nat))) (h1 : (n1 < n0)) : (((-(9223372036854775808 : Int)) ≤ ((n1 : Nat) : Int)) ∧ (((n1 : Nat) : Int) < (9223372036854775808 : Int))) := by first | decide | (intros; simp_all; done) | lia
theorem om253 {n0 : Nat} {n1 : Nat} (h0 : (n0 < n1)) : ((0 : Int) ≤ ((-(1 : Int)) + ((n1 : Nat) : Int))) := by first | decide | (intros; simp_all; done) | lia
theorem om254 {n0 : Nat} : ((Int.toNat ((-(1 : Int)) + ((n0 : Nat) : Int))) = (n0 - (1 : Nat))) := by first | decide | (intros; simp_all; done) | lia
theorem om255 {n0 : Nat} {n1 : Nat} {n2 : Nat} {n3 : Nat} (h0 : (n0 ≤ (14 : Nat))) (h1 : ((1000000 : Nat) ≤ n1)) (h2 : (n2 ≤ (2 : Nat))) : (((min n3 n0) + n2) ≤ n1) := by first | decide | (intros; simp_all; done) | lia
theorem om256 {n0 : Nat} {n1 : Nat} {n2 : Nat} {n3 : Nat} {n4 : Nat} (h0 : (n0 ≤ (14 : Nat))) (h1 : ((1000000 : Nat) ≤ n1)) (h2 : (n2 ≤ (2 : Nat))) : ((((min n3 n0) + n2) + (n0 - n4)) ≤ n1) := by omega
theorem om257 {n0 : Nat} {n1 : Nat} {n2 : Nat} (h0 : (n0 ≤ (14 : Nat))) (h1 : ((1000000 : Nat) ≤ n1)) (h2 : (n2 = n0)) : (n2 ≤ n1) := by first | decide | (intros; simp_all; done) | lia
theorem om258 {n0 : Nat} {n1 : Nat} {n2 : Nat} (h0 : (n0 < n1)) (h1 : (n2 = n1)) : (n0 ≤ n2) := by first | decide | (intros; simp_all; done) | lia
theorem om259 {z0 : Int} {n1 : Nat} (h0 : ((z0 = (1 : Int)) ∧ (((0 : Int) < ((n1 : Nat) : Int)) ∧ True))) : ((0 : Nat) < n1) := by first | decide | (intros; simp_all; done) | lia
theorem om260 {n0 : Nat} {n1 : Nat} (h0 : (n0 < n1)) : ((n0 - (1 : Nat)) < n1) := by omega
theorem om261 {z0 : Int} {n1 : Nat} (h0 : ((z0 = (1 : Int)) ∧ (((0 : Int) < ((n1 : Nat) : Int)) ∧ True))) : ((((n1 : Nat) : Int) - (1 : Int)) = (((n1 - (1 : Nat)) : Nat) : Int)) := by first | decide | (intros; simp_all; done) | lia
theorem om262 {n0 : Nat} {n1 : Nat} {n2 : Nat} (h0 : (n0 < n1)) (h1 : (n2 = n1)) : ((n0 + (1 : Nat)) ≤ n2) := by first | decide | (intros; simp_all; done) | lia
theorem om263 {z0 : Int} {n1 : Nat} (h0 : ((z0 = (1 : Int)) ∧ (((0 : Int) < ((n1 : Nat) : Int)) ∧ True))) : (((n1 - (1 : Nat)) + (1 : Nat)) = n1) := by first | decide | (intros; simp_all; done) | lia
theorem om264 {n0 : Nat} {n1 : Nat} {n2 : Nat} (h0 : (n0 < n1)) (h1 : (n2 = n1)) : ((1 : Nat) ≤ n2) := by first | decide | (intros; simp_all; done) | lia
theorem om265 {n0 : Nat} {n1 : Nat} (h0 : (n0 ≤ (14 : Nat))) (h1 : ((1000000 : Nat) ≤ n1)) : (((1 : Nat) + (n0 - (1 : Nat))) ≤ n1) := by omega
theorem om266 {n0 : Nat} (h0 : (n0 ≤ (14 : Nat))) : (((n0 - (1 : Nat)) + (1 : Nat)) ≤ (20 : Nat)) := by omega
theorem om267 {z0 : Int} (h0 : ((0 : Int) ≤ z0)) : (((-(1 : Int)) - z0) < (0 : Int)) := by omega
theorem om268 {n0 : Nat} (h0 : (n0 ≤ (14 : Nat))) : (n0 ≤ (20 : Nat)) := Nat.le_trans h0 (by decide)
theorem om269 {z0 : Int} (h0 : ((z0 + (1 : Int)) ≤ z0)) : False := by first | decide | (intros; simp_all; done) | lia
theorem om270 {n0 : Nat} {n1 : Nat} {n2 : Nat} (h0 : (n0 ≤ (14 : Nat))) (h1 : ((1000000 : Nat) ≤ n1)) : (((((min n2 n0) + (1 : Nat)) + (n0 - (n2 + (1 : Nat)))) + (1 : Nat)) ≤ n1) := by omega
theorem om271 {n0 : Nat} {n1 : Nat} (h0 : (((min n0 n1) + ((n1 - (n0 + (1 : Nat))) + (1 : Nat))) ≤ (17 : Nat))) : (((min n0 n1) + ((n1 - (n0 + (1 : Nat))) + (1 : Nat))) ≤ (19 : Nat)) := Nat.le_trans h0 (by decide)
theorem om272 {z0 : Int} {n1 : Nat} (h0 : ((z0 = (9 : Int)) ∧ (((0 : Int) < ((n1 : Nat) : Int)) ∧ True))) : ((0 : Nat) < n1) := by first | decide | (intros; simp_all; done) | lia
theorem om273 {z0 : Int} {n1 : Nat} (h0 : ((z0 = (9 : Int)) ∧ (((0 : Int) < ((n1 : Nat) : Int)) ∧ True))) : ((((n1 : Nat) : Int) - (1 : Int)) = (((n1 - (1 : Nat)) : Nat) : Int)) := by first | decide | (intros; simp_all; done) | lia
theorem om274 {n0 : Nat} : ((n0 - (1 : Nat)) ≤ (n0 + (1 : Nat))) := by omega
theorem om275 {n0 : Nat} {n1 : Nat} (h0 : (n0 < n1)) : (n0 < n1) := h0
theorem om276 {n0 : Nat} (h0 : ((((n0 : Nat) : Int) - (1 : Int)) = (((n0 - (1 : Nat)) : Nat) : Int))) : ((n0 - (1 : Nat)) < n0) := by omega
theorem om277 {n0 : Nat} {n1 : Nat} (h0 : (n0 ≤ (14 : Nat))) (h1 : ((1000000 : Nat) ≤ n1)) : ((n0 + (1 : Nat)) ≤ n1) := by first | decide | (intros; simp_all; done) | lia
theorem om278 {n0 : Nat} (h0 : (n0 ≤ (14 : Nat))) : ((n0 + (1 : Nat)) ≤ (20 : Nat)) := Nat.lt_of_le_of_lt h0 (by decide)
theorem om279 {n0 : Nat} (h0 : (n0 ≤ (600 : Nat))) : (n0 ≤ (700 : Nat)) := Nat.le_trans h0 (by decide)
theorem om280 {n0 : Nat} {n1 : Nat} (h0 : (n0 ≤ n1)) (h1 : (n1 ≤ (600 : Nat))) : (n0 ≤ (700 : Nat)) := by first | decide | (intros; simp_all; done) | lia
theorem om281 {z0 : Int} {z1 : Int} (h0 : (z0 ≤ z1)) (h1 : (¬ (z0 = z1))) : (z0 < z1) := by first | decide | (intros; simp_all; done) | lia
theorem om282 : ((1 : Nat) ≤ (39 : Nat)) := by decide
theorem om283 : ((2 : Nat) ≤ (39 : Nat)) := by decide
theorem om284 : ((3 : Nat) ≤ (39 : Nat)) := by decide
theorem om285 : ((4 : Nat) ≤ (39 : Nat)) := by decide
theorem om286 : ((5 : Nat) ≤ (39 : Nat)) := by decide
theorem om287 {n0 : Nat} {n1 : Nat} (h0 : (((n0 + ((12 : Nat) * (39 : Nat))) + (200 : Nat)) < n1)) : ((n0 + (400 : Nat)) < n1) := by first | decide | (intros; simp_all; done) | lia
theorem om288 {z0 : Int} : ((((1 : Int) + (z0 % (8 : Int))) + (6 : Int)) = (((Int.toNat (((1 : Int) + (z0 % (8 : Int))) + (6 : Int))) : Nat) : Int)) := by first | decide | (intros; simp_all; done) | lia
theorem om289 {z0 : Int} : ((1 : Nat) ≤ (Int.toNat (((1 : Int) + (z0 % (8 : Int))) + (6 : Int)))) := by first | decide | (intros; simp_all; done) | lia
theorem om290 {z0 : Int} : ((Int.toNat (((1 : Int) + (z0 % (8 : Int))) + (6 : Int))) ≤ (14 : Nat)) := by first | decide | (intros; simp_all; done) | lia
theorem om291 {z0 : Int} : (((1 : Int) + (z0 % (8 : Int))) = (((Int.toNat ((1 : Int) + (z0 % (8 : Int)))) : Nat) : Int)) := by first | decide | (intros; simp_all; done) | lia
theorem om292 {z0 : Int} : ((1 : Nat) ≤ (Int.toNat ((1 : Int) + (z0 % (8 : Int))))) := by first | decide | (intros; simp_all; done) | lia
theorem om293 {z0 : Int} : ((Int.toNat ((1 : Int) + (z0 % (8 : Int)))) ≤ (14 : Nat)) := by first | decide | (intros; simp_all; done) | lia
theorem om294 {n0 : Nat} (h0 : (n0 ≤ (14 : Nat))) : (n0 ≤ (100 : Nat)) := Nat.le_trans h0 (by decide)
theorem om295 {n0 : Nat} (h0 : ((1 : Nat) ≤ n0)) (h1 : ((0 : Nat) = n0)) : False := by first | decide | (intros; simp_all; done) | lia
theorem om296 {z0 : Int} {n1 : Nat} (h0 : ((0 : Int) ≤ (z0 % ((n1 : Nat) : Int)))) : ((z0 % ((n1 : Nat) : Int)) = (((Int.toNat (z0 % ((n1 : Nat) : Int))) : Nat) : Int)) := by first | decide | (intros; simp_all; done) | lia
theorem om297 {n0 : Nat} {n1 : Nat} {n2 : Nat} (h0 : ((1000000 : Nat) ≤ n0)) (h1 : (n1 ≤ (14 : Nat))) (h2 : (n2 = n1)) : (n2 ≤ n0) := by first | decide | (intros; simp_all; done) | lia
theorem om298 {n0 : Nat} {n1 : Nat} (h0 : ((1 : Nat) ≤ n0)) (h1 : (n1 = n0)) : ((0 : Int) < ((n1 : Nat) : Int)) := by first | decide | (intros; simp_all; done) | lia
theorem om299 {n0 : Nat} {n1 : Nat} {z2 : Int} {n3 : Nat} (h0 : (n0 = n1)) (h1 : ((z2 % ((n1 : Nat) : Int)) < ((n1 : Nat) : Int))) (h2 : ((z2 % ((n1 : Nat) : Int)) = ((n3 : Nat) : Int))) : (n3 < n0) := by first | decide | (intros; simp_all; done) | lia
theorem om300 {n0 : Nat} {n1 : Nat} (h0 : (n0 ≤ (14 : Nat))) (h1 : (n1 = n0)) : (n1 ≤ (14 : Nat)) := by first | decide | (intros; simp_all; done) | lia
theorem om301 {n0 : Nat} {n1 : Nat} (h0 : (n0 ≤ (14 : Nat))) (h1 : (n1 = n0)) : (n1 ≤ (20 : Nat)) := by first | decide | (intros; simp_all; done) | lia
theorem om302 {z0 : Int} {z1 : Int} (h0 : (¬ (((z0 - (1 : Int)) < (0 : Int)) ∨ (((0 : Int) < (z1 % (3 : Int))) ∨ False)))) : ((0 : Int) ≤ (z0 - (1 : Int))) := by first | decide | (intros; simp_all; done) | lia
theorem om303 {z0 : Int} (h0 : (z0 ≤ (60 : Int))) : ((z0 - (1 : Int)) ≤ (1000 : Int)) := by first | decide | (intros; simp_all; done) | lia
theorem om304 {n0 : Nat} {z1 : Int} (h0 : (((n0 : Nat) : Int) = (z1 + (1 : Int)))) : (((z1 - (1 : Int)) + (1 : Int)) < ((n0 : Nat) : Int)) := by first | decide | (intros; simp_all; done) | lia
theorem om305 {n0 : Nat} {n1 : Nat} {n2 : Nat} (h0 : ((1000000 : Nat) ≤ n0)) (h1 : (n1 ≤ (20 : Nat))) (h2 : (n2 = n1)) : (n2 ≤ n0) := by first | decide | (intros; simp_all; done) | lia
theorem om306 {n0 : Nat} (h0 : (n0 ≤ (20 : Nat))) : (n0 ≤ (40 : Nat)) := Nat.le_trans h0 (by decide)
theorem om307 {n0 : Nat} {n1 : Nat} (h0 : ((n0 + (400 : Nat)) < n1)) : ((n0 + ((4 : Nat) * ((3 : Nat) + (1 : Nat)))) < n1) := by first | decide | (intros; simp_all; done) | lia
theorem e0a3 {p0 p1 p2 : Prop} {G : Prop} (z : p0 ∧ p1 ∧ p2) (k : p0 → p1 → p2 → G) : G :=
  k z.1 z.2.1 z.2.2
theorem e0a4 {p0 p1 p2 p3 : Prop} {G : Prop} (z : p0 ∧ p1 ∧ p2 ∧ p3) (k : p0 → p1 → p2 → p3 → G) : G :=
  k z.1 z.2.1 z.2.2.1 z.2.2.2
theorem e0a6 {p0 p1 p2 p3 p4 p5 : Prop} {G : Prop} (z : p0 ∧ p1 ∧ p2 ∧ p3 ∧ p4 ∧ p5) (k : p0 → p1 → p2 → p3 → p4 → p5 → G) : G :=
  k z.1 z.2.1 z.2.2.1 z.2.2.2.1 z.2.2.2.2.1 z.2.2.2.2.2
theorem e0a7 {p0 p1 p2 p3 p4 p5 p6 : Prop} {G : Prop} (z : p0 ∧ p1 ∧ p2 ∧ p3 ∧ p4 ∧ p5 ∧ p6) (k : p0 → p1 → p2 → p3 → p4 → p5 → p6 → G) : G :=
  k z.1 z.2.1 z.2.2.1 z.2.2.2.1 z.2.2.2.2.1 z.2.2.2.2.2.1 z.2.2.2.2.2.2
theorem e0a9 {p0 p1 p2 p3 p4 p5 p6 p7 p8 : Prop} {G : Prop} (z : p0 ∧ p1 ∧ p2 ∧ p3 ∧ p4 ∧ p5 ∧ p6 ∧ p7 ∧ p8) (k : p0 → p1 → p2 → p3 → p4 → p5 → p6 → p7 → p8 → G) : G :=
  k z.1 z.2.1 z.2.2.1 z.2.2.2.1 z.2.2.2.2.1 z.2.2.2.2.2.1 z.2.2.2.2.2.2.1 z.2.2.2.2.2.2.2.1 z.2.2.2.2.2.2.2.2
theorem e1a2 {α0 : Sort _} {p0 p1 : α0 → Prop} {G : Prop} (z : ∃ x0, p0 x0 ∧ p1 x0) (k : ∀ x0, p0 x0 → p1 x0 → G) : G :=
  Exists.elim z fun x0 z => k x0 z.1 z.2
theorem e1a3 {α0 : Sort _} {p0 p1 p2 : α0 → Prop} {G : Prop} (z : ∃ x0, p0 x0 ∧ p1 x0 ∧ p2 x0) (k : ∀ x0, p0 x0 → p1 x0 → p2 x0 → G) : G :=
  Exists.elim z fun x0 z => k x0 z.1 z.2.1 z.2.2
theorem e1a4 {α0 : Sort _} {p0 p1 p2 p3 : α0 → Prop} {G : Prop} (z : ∃ x0, p0 x0 ∧ p1 x0 ∧ p2 x0 ∧ p3 x0) (k : ∀ x0, p0 x0 → p1 x0 → p2 x0 → p3 x0 → G) : G :=
  Exists.elim z fun x0 z => k x0 z.1 z.2.1 z.2.2.1 z.2.2.2
theorem e17a4 {α0 α1 α2 α3 α4 α5 α6 α7 α8 α9 α10 α11 α12 α13 α14 α15 α16 : Sort _} {p0 p1 p2 p3 : α0 → α1 → α2 → α3 → α4 → α5 → α6 → α7 → α8 → α9 → α10 → α11 → α12 → α13 → α14 → α15 → α16 → Prop} {G : Prop} (z : ∃ x0 x1 x2 x3 x4 x5 x6 x7 x8 x9 x10 x11 x12 x13 x14 x15 x16, p0 x0 x1 x2 x3 x4 x5 x6 x7 x8 x9 x10 x11 x12 x13 x14 x15 x16 ∧ p1 x0 x1 x2 x3 x4 x5 x6 x7 x8 x9 x10 x11 x12 x13 x14 x15 x16 ∧ p2 x0 x1 x2 x3 x4 x5 x6 x7 x8 x9 x10 x11 x12 x13 x14 x15 x16 ∧ p3 x0 x1 x2 x3 x4 x5 x6 x7 x8 x9 x10 x11 x12 x13 x14 x15 x16) (k : ∀ x0 x1 x2 x3 x4 x5 x6 x7 x8 x9 x10 x11 x12 x13 x14 x15 x16, p0 x0 x1 x2 x3 x4 x5 x6 x7 x8 x9 x10 x11 x12 x13 x14 x15 x16 → p1 x0 x1 x2 x3 x4 x5 x6 x7 x8 x9 x10 x11 x12 x13 x14 x15 x16 → p2 x0 x1 x2 x3 x4 x5 x6 x7 x8 x9 x10 x11 x12 x13 x14 x15 x16 → p3 x0 x1 x2 x3 x4 x5 x6 x7 x8 x9 x10 x11 x12 x13 x14 x15 x16 → G) : G :=
  Exists.elim z fun x0 z => Exists.elim z fun x1 z => Exists.elim z fun x2 z => Exists.elim z fun x3 z => Exists.elim z fun x4 z => Exists.elim z fun x5 z => Exists.elim z fun x6 z => Exists.elim z fun x7 z => Exists.elim z fun x8 z => Exists.elim z fun x9 z => Exists.elim z fun x10 z => Exists.elim z fun x11 z => Exists.elim z fun x12 z => Exists.elim z fun x13 z => Exists.elim z fun x14 z => Exists.elim z fun x15 z => Exists.elim z fun x16 z => k x0 x1 x2 x3 x4 x5 x6 x7 x8 x9 x10 x11 x12 x13 x14 x15 x16 z.1 z.2.1 z.2.2.1 z.2.2.2
theorem e2a11 {α0 α1 : Sort _} {p0 p1 p2 p3 p4 p5 p6 p7 p8 p9 p10 : α0 → α1 → Prop} {G : Prop} (z : ∃ x0 x1, p0 x0 x1 ∧ p1 x0 x1 ∧ p2 x0 x1 ∧ p3 x0 x1 ∧ p4 x0 x1 ∧ p5 x0 x1 ∧ p6 x0 x1 ∧ p7 x0 x1 ∧ p8 x0 x1 ∧ p9 x0 x1 ∧ p10 x0 x1) (k : ∀ x0 x1, p0 x0 x1 → p1 x0 x1 → p2 x0 x1 → p3 x0 x1 → p4 x0 x1 → p5 x0 x1 → p6 x0 x1 → p7 x0 x1 → p8 x0 x1 → p9 x0 x1 → p10 x0 x1 → G) : G :=
  Exists.elim z fun x0 z => Exists.elim z fun x1 z => k x0 x1 z.1 z.2.1 z.2.2.1 z.2.2.2.1 z.2.2.2.2.1 z.2.2.2.2.2.1 z.2.2.2.2.2.2.1 z.2.2.2.2.2.2.2.1 z.2.2.2.2.2.2.2.2.1 z.2.2.2.2.2.2.2.2.2.1 z.2.2.2.2.2.2.2.2.2.2
theorem e2a2 {α0 α1 : Sort _} {p0 p1 : α0 → α1 → Prop} {G : Prop} (z : ∃ x0 x1, p0 x0 x1 ∧ p1 x0 x1) (k : ∀ x0 x1, p0 x0 x1 → p1 x0 x1 → G) : G :=
  Exists.elim z fun x0 z => Exists.elim z fun x1 z => k x0 x1 z.1 z.2
theorem e2a3 {α0 α1 : Sort _} {p0 p1 p2 : α0 → α1 → Prop} {G : Prop} (z : ∃ x0 x1, p0 x0 x1 ∧ p1 x0 x1 ∧ p2 x0 x1) (k : ∀ x0 x1, p0 x0 x1 → p1 x0 x1 → p2 x0 x1 → G) : G :=
  Exists.elim z fun x0 z => Exists.elim z fun x1 z => k x0 x1 z.1 z.2.1 z.2.2
theorem e2a4 {α0 α1 : Sort _} {p0 p1 p2 p3 : α0 → α1 → Prop} {G : Prop} (z : ∃ x0 x1, p0 x0 x1 ∧ p1 x0 x1 ∧ p2 x0 x1 ∧ p3 x0 x1) (k : ∀ x0 x1, p0 x0 x1 → p1 x0 x1 → p2 x0 x1 → p3 x0 x1 → G) : G :=
  Exists.elim z fun x0 z => Exists.elim z fun x1 z => k x0 x1 z.1 z.2.1 z.2.2.1 z.2.2.2
theorem e2a5 {α0 α1 : Sort _} {p0 p1 p2 p3 p4 : α0 → α1 → Prop} {G : Prop} (z : ∃ x0 x1, p0 x0 x1 ∧ p1 x0 x1 ∧ p2 x0 x1 ∧ p3 x0 x1 ∧ p4 x0 x1) (k : ∀ x0 x1, p0 x0 x1 → p1 x0 x1 → p2 x0 x1 → p3 x0 x1 → p4 x0 x1 → G) : G :=
  Exists.elim z fun x0 z => Exists.elim z fun x1 z => k x0 x1 z.1 z.2.1 z.2.2.1 z.2.2.2.1 z.2.2.2.2
theorem e2a6 {α0 α1 : Sort _} {p0 p1 p2 p3 p4 p5 : α0 → α1 → Prop} {G : Prop} (z : ∃ x0 x1, p0 x0 x1 ∧ p1 x0 x1 ∧ p2 x0 x1 ∧ p3 x0 x1 ∧ p4 x0 x1 ∧ p5 x0 x1) (k : ∀ x0 x1, p0 x0 x1 → p1 x0 x1 → p2 x0 x1 → p3 x0 x1 → p4 x0 x1 → p5 x0 x1 → G) : G :=
  Exists.elim z fun x0 z => Exists.elim z fun x1 z => k x0 x1 z.1 z.2.1 z.2.2.1 z.2.2.2.1 z.2.2.2.2.1 z.2.2.2.2.2
theorem e2a7 {α0 α1 : Sort _} {p0 p1 p2 p3 p4 p5 p6 : α0 → α1 → Prop} {G : Prop} (z : ∃ x0 x1, p0 x0 x1 ∧ p1 x0 x1 ∧ p2 x0 x1 ∧ p3 x0 x1 ∧ p4 x0 x1 ∧ p5 x0 x1 ∧ p6 x0 x1) (k : ∀ x0 x1, p0 x0 x1 → p1 x0 x1 → p2 x0 x1 → p3 x0 x1 → p4 x0 x1 → p5 x0 x1 → p6 x0 x1 → G) : G :=
  Exists.elim z fun x0 z => Exists.elim z fun x1 z => k x0 x1 z.1 z.2.1 z.2.2.1 z.2.2.2.1 z.2.2.2.2.1 z.2.2.2.2.2.1 z.2.2.2.2.2.2
theorem e3a2 {α0 α1 α2 : Sort _} {p0 p1 : α0 → α1 → α2 → Prop} {G : Prop} (z : ∃ x0 x1 x2, p0 x0 x1 x2 ∧ p1 x0 x1 x2) (k : ∀ x0 x1 x2, p0 x0 x1 x2 → p1 x0 x1 x2 → G) : G :=
  Exists.elim z fun x0 z => Exists.elim z fun x1 z => Exists.elim z fun x2 z => k x0 x1 x2 z.1 z.2
theorem e3a3 {α0 α1 α2 : Sort _} {p0 p1 p2 : α0 → α1 → α2 → Prop} {G : Prop} (z : ∃ x0 x1 x2, p0 x0 x1 x2 ∧ p1 x0 x1 x2 ∧ p2 x0 x1 x2) (k : ∀ x0 x1 x2, p0 x0 x1 x2 → p1 x0 x1 x2 → p2 x0 x1 x2 → G) : G :=
  Exists.elim z fun x0 z => Exists.elim z fun x1 z => Exists.elim z fun x2 z => k x0 x1 x2 z.1 z.2.1 z.2.2
theorem e3a4 {α0 α1 α2 : Sort _} {p0 p1 p2 p3 : α0 → α1 → α2 → Prop} {G : Prop} (z : ∃ x0 x1 x2, p0 x0 x1 x2 ∧ p1 x0 x1 x2 ∧ p2 x0 x1 x2 ∧ p3 x0 x1 x2) (k : ∀ x0 x1 x2, p0 x0 x1 x2 → p1 x0 x1 x2 → p2 x0 x1 x2 → p3 x0 x1 x2 → G) : G :=
  Exists.elim z fun x0 z => Exists.elim z fun x1 z => Exists.elim z fun x2 z => k x0 x1 x2 z.1 z.2.1 z.2.2.1 z.2.2.2
theorem e3a5 {α0 α1 α2 : Sort _} {p0 p1 p2 p3 p4 : α0 → α1 → α2 → Prop} {G : Prop} (z : ∃ x0 x1 x2, p0 x0 x1 x2 ∧ p1 x0 x1 x2 ∧ p2 x0 x1 x2 ∧ p3 x0 x1 x2 ∧ p4 x0 x1 x2) (k : ∀ x0 x1 x2, p0 x0 x1 x2 → p1 x0 x1 x2 → p2 x0 x1 x2 → p3 x0 x1 x2 → p4 x0 x1 x2 → G) : G :=
  Exists.elim z fun x0 z => Exists.elim z fun x1 z => Exists.elim z fun x2 z => k x0 x1 x2 z.1 z.2.1 z.2.2.1 z.2.2.2.1 z.2.2.2.2
theorem e3a6 {α0 α1 α2 : Sort _} {p0 p1 p2 p3 p4 p5 : α0 → α1 → α2 → Prop} {G : Prop} (z : ∃ x0 x1 x2, p0 x0 x1 x2 ∧ p1 x0 x1 x2 ∧ p2 x0 x1 x2 ∧ p3 x0 x1 x2 ∧ p4 x0 x1 x2 ∧ p5 x0 x1 x2) (k : ∀ x0 x1 x2, p0 x0 x1 x2 → p1 x0 x1 x2 → p2 x0 x1 x2 → p3 x0 x1 x2 → p4 x0 x1 x2 → p5 x0 x1 x2 → G) : G :=
  Exists.elim z fun x0 z => Exists.elim z fun x1 z => Exists.elim z fun x2 z => k x0 x1 x2 z.1 z.2.1 z.2.2.1 z.2.2.2.1 z.2.2.2.2.1 z.2.2.2.2.2
theorem e3a7 {α0 α1 α2 : Sort _} {p0 p1 p2 p3 p4 p5 p6 : α0 → α1 → α2 → Prop} {G : Prop} (z : ∃ x0 x1 x2, p0 x0 x1 x2 ∧ p1 x0 x1 x2 ∧ p2 x0 x1 x2 ∧ p3 x0 x1 x2 ∧ p4 x0 x1 x2 ∧ p5 x0 x1 x2 ∧ p6 x0 x1 x2) (k : ∀ x0 x1 x2, p0 x0 x1 x2 → p1 x0 x1 x2 → p2 x0 x1 x2 → p3 x0 x1 x2 → p4 x0 x1 x2 → p5 x0 x1 x2 → p6 x0 x1 x2 → G) : G :=
  Exists.elim z fun x0 z => Exists.elim z fun x1 z => Exists.elim z fun x2 z => k x0 x1 x2 z.1 z.2.1 z.2.2.1 z.2.2.2.1 z.2.2.2.2.1 z.2.2.2.2.2.1 z.2.2.2.2.2.2
theorem e3a8 {α0 α1 α2 : Sort _} {p0 p1 p2 p3 p4 p5 p6 p7 : α0 → α1 → α2 → Prop} {G : Prop} (z : ∃ x0 x1 x2, p0 x0 x1 x2 ∧ p1 x0 x1 x2 ∧ p2 x0 x1 x2 ∧ p3 x0 x1 x2 ∧ p4 x0 x1 x2 ∧ p5 x0 x1 x2 ∧ p6 x0 x1 x2 ∧ p7 x0 x1 x2) (k : ∀ x0 x1 x2, p0 x0 x1 x2 → p1 x0 x1 x2 → p2 x0 x1 x2 → p3 x0 x1 x2 → p4 x0 x1 x2 → p5 x0 x1 x2 → p6 x0 x1 x2 → p7 x0 x1 x2 → G) : G :=
  Exists.elim z fun x0 z => Exists.elim z fun x1 z => Exists.elim z fun x2 z => k x0 x1 x2 z.1 z.2.1 z.2.2.1 z.2.2.2.1 z.2.2.2.2.1 z.2.2.2.2.2.1 z.2.2.2.2.2.2.1 z.2.2.2.2.2.2.2
theorem e3a9 {α0 α1 α2 : Sort _} {p0 p1 p2 p3 p4 p5 p6 p7 p8 : α0 → α1 → α2 → Prop} {G : Prop} (z : ∃ x0 x1 x2, p0 x0 x1 x2 ∧ p1 x0 x1 x2 ∧ p2 x0 x1 x2 ∧ p3 x0 x1 x2 ∧ p4 x0 x1 x2 ∧ p5 x0 x1 x2 ∧ p6 x0 x1 x2 ∧ p7 x0 x1 x2 ∧ p8 x0 x1 x2) (k : ∀ x0 x1 x2, p0 x0 x1 x2 → p1 x0 x1 x2 → p2 x0 x1 x2 → p3 x0 x1 x2 → p4 x0 x1 x2 → p5 x0 x1 x2 → p6 x0 x1 x2 → p7 x0 x1 x2 → p8 x0 x1 x2 → G) : G :=
  Exists.elim z fun x0 z => Exists.elim z fun x1 z => Exists.elim z fun x2 z => k x0 x1 x2 z.1 z.2.1 z.2.2.1 z.2.2.2.1 z.2.2.2.2.1 z.2.2.2.2.2.1 z.2.2.2.2.2.2.1 z.2.2.2.2.2.2.2.1 z.2.2.2.2.2.2.2.2
theorem e4a4 {α0 α1 α2 α3 : Sort _} {p0 p1 p2 p3 : α0 → α1 → α2 → α3 → Prop} {G : Prop} (z : ∃ x0 x1 x2 x3, p0 x0 x1 x2 x3 ∧ p1 x0 x1 x2 x3 ∧ p2 x0 x1 x2 x3 ∧ p3 x0 x1 x2 x3) (k : ∀ x0 x1 x2 x3, p0 x0 x1 x2 x3 → p1 x0 x1 x2 x3 → p2 x0 x1 x2 x3 → p3 x0 x1 x2 x3 → G) : G :=
  Exists.elim z fun x0 z => Exists.elim z fun x1 z => Exists.elim z fun x2 z => Exists.elim z fun x3 z => k x0 x1 x2 x3 z.1 z.2.1 z.2.2.1 z.2.2.2
theorem e4a5 {α0 α1 α2 α3 : Sort _} {p0 p1 p2 p3 p4 : α0 → α1 → α2 → α3 → Prop} {G : Prop} (z : ∃ x0 x1 x2 x3, p0 x0 x1 x2 x3 ∧ p1 x0 x1 x2 x3 ∧ p2 x0 x1 x2 x3 ∧ p3 x0 x1 x2 x3 ∧ p4 x0 x1 x2 x3) (k : ∀ x0 x1 x2 x3, p0 x0 x1 x2 x3 → p1 x0 x1 x2 x3 → p2 x0 x1 x2 x3 → p3 x0 x1 x2 x3 → p4 x0 x1 x2 x3 → G) : G :=
  Exists.elim z fun x0 z => Exists.elim z fun x1 z => Exists.elim z fun x2 z => Exists.elim z fun x3 z => k x0 x1 x2 x3 z.1 z.2.1 z.2.2.1 z.2.2.2.1 z.2.2.2.2
theorem e4a7 {α0 α1 α2 α3 : Sort _} {p0 p1 p2 p3 p4 p5 p6 : α0 → α1 → α2 → α3 → Prop} {G : Prop} (z : ∃ x0 x1 x2 x3, p0 x0 x1 x2 x3 ∧ p1 x0 x1 x2 x3 ∧ p2 x0 x1 x2 x3 ∧ p3 x0 x1 x2 x3 ∧ p4 x0 x1 x2 x3 ∧ p5 x0 x1 x2 x3 ∧ p6 x0 x1 x2 x3) (k : ∀ x0 x1 x2 x3, p0 x0 x1 x2 x3 → p1 x0 x1 x2 x3 → p2 x0 x1 x2 x3 → p3 x0 x1 x2 x3 → p4 x0 x1 x2 x3 → p5 x0 x1 x2 x3 → p6 x0 x1 x2 x3 → G) : G :=
  Exists.elim z fun x0 z => Exists.elim z fun x1 z => Exists.elim z fun x2 z => Exists.elim z fun x3 z => k x0 x1 x2 x3 z.1 z.2.1 z.2.2.1 z.2.2.2.1 z.2.2.2.2.1 z.2.2.2.2.2.1 z.2.2.2.2.2.2
theorem e4a8 {α0 α1 α2 α3 : Sort _} {p0 p1 p2 p3 p4 p5 p6 p7 : α0 → α1 → α2 → α3 → Prop} {G : Prop} (z : ∃ x0 x1 x2 x3, p0 x0 x1 x2 x3 ∧ p1 x0 x1 x2 x3 ∧ p2 x0 x1 x2 x3 ∧ p3 x0 x1 x2 x3 ∧ p4 x0 x1 x2 x3 ∧ p5 x0 x1 x2 x3 ∧ p6 x0 x1 x2 x3 ∧ p7 x0 x1 x2 x3) (k : ∀ x0 x1 x2 x3, p0 x0 x1 x2 x3 → p1 x0 x1 x2 x3 → p2 x0 x1 x2 x3 → p3 x0 x1 x2 x3 → p4 x0 x1 x2 x3 → p5 x0 x1 x2 x3 → p6 x0 x1 x2 x3 → p7 x0 x1 x2 x3 → G) : G :=
  Exists.elim z fun x0 z => Exists.elim z fun x1 z => Exists.elim z fun x2 z => Exists.elim z fun x3 z => k x0 x1 x2 x3 z.1 z.2.1 z.2.2.1 z.2.2.2.1 z.2.2.2.2.1 z.2.2.2.2.2.1 z.2.2.2.2.2.2.1 z.2.2.2.2.2.2.2
theorem e5a13 {α0 α1 α2 α3 α4 : Sort _} {p0 p1 p2 p3 p4 p5 p6 p7 p8 p9 p10 p11 p12 : α0 → α1 → α2 → α3 → α4 → Prop} {G : Prop} (z : ∃ x0 x1 x2 x3 x4, p0 x0 x1 x2 x3 x4 ∧ p1 x0 x1 x2 x3 x4 ∧ p2 x0 x1 x2 x3 x4 ∧ p3 x0 x1 x2 x3 x4 ∧ p4 x0 x1 x2 x3 x4 ∧ p5 x0 x1 x2 x3 x4 ∧ p6 x0 x1 x2 x3 x4 ∧ p7 x0 x1 x2 x3 x4 ∧ p8 x0 x1 x2 x3 x4 ∧ p9 x0 x1 x2 x3 x4 ∧ p10 x0 x1 x2 x3 x4 ∧ p11 x0 x1 x2 x3 x4 ∧ p12 x0 x1 x2 x3 x4) (k : ∀ x0 x1 x2 x3 x4, p0 x0 x1 x2 x3 x4 → p1 x0 x1 x2 x3 x4 → p2 x0 x1 x2 x3 x4 → p3 x0 x1 x2 x3 x4 → p4 x0 x1 x2 x3 x4 → p5 x0 x1 x2 x3 x4 → p6 x0 x1 x2 x3 x4 → p7 x0 x1 x2 x3 x4 → p8 x0 x1 x2 x3 x4 → p9 x0 x1 x2 x3 x4 → p10 x0 x1 x2 x3 x4 → p11 x0 x1 x2 x3 x4 → p12 x0 x1 x2 x3 x4 → G) : G :=
  Exists.elim z fun x0 z => Exists.elim z fun x1 z => Exists.elim z fun x2 z => Exists.elim z fun x3 z => Exists.elim z fun x4 z => k x0 x1 x2 x3 x4 z.1 z.2.1 z.2.2.1 z.2.2.2.1 z.2.2.2.2.1 z.2.2.2.2.2.1 z.2.2.2.2.2.2.1 z.2.2.2.2.2.2.2.1 z.2.2.2.2.2.2.2.2.1 z.2.2.2.2.2.2.2.2.2.1 z.2.2.2.2.2.2.2.2.2.2.1 z.2.2.2.2.2.2.2.2.2.2.2.1 z.2.2.2.2.2.2.2.2.2.2.2.2
theorem e5a4 {α0 α1 α2 α3 α4 : Sort _} {p0 p1 p2 p3 : α0 → α1 → α2 → α3 → α4 → Prop} {G : Prop} (z : ∃ x0 x1 x2 x3 x4, p0 x0 x1 x2 x3 x4 ∧ p1 x0 x1 x2 x3 x4 ∧ p2 x0 x1 x2 x3 x4 ∧ p3 x0 x1 x2 x3 x4) (k : ∀ x0 x1 x2 x3 x4, p0 x0 x1 x2 x3 x4 → p1 x0 x1 x2 x3 x4 → p2 x0 x1 x2 x3 x4 → p3 x0 x1 x2 x3 x4 → G) : G :=
  Exists.elim z fun x0 z => Exists.elim z fun x1 z => Exists.elim z fun x2 z => Exists.elim z fun x3 z => Exists.elim z fun x4 z => k x0 x1 x2 x3 x4 z.1 z.2.1 z.2.2.1 z.2.2.2
theorem e6a12 {α0 α1 α2 α3 α4 α5 : Sort _} {p0 p1 p2 p3 p4 p5 p6 p7 p8 p9 p10 p11 : α0 → α1 → α2 → α3 → α4 → α5 → Prop} {G : Prop} (z : ∃ x0 x1 x2 x3 x4 x5, p0 x0 x1 x2 x3 x4 x5 ∧ p1 x0 x1 x2 x3 x4 x5 ∧ p2 x0 x1 x2 x3 x4 x5 ∧ p3 x0 x1 x2 x3 x4 x5 ∧ p4 x0 x1 x2 x3 x4 x5 ∧ p5 x0 x1 x2 x3 x4 x5 ∧ p6 x0 x1 x2 x3 x4 x5 ∧ p7 x0 x1 x2 x3 x4 x5 ∧ p8 x0 x1 x2 x3 x4 x5 ∧ p9 x0 x1 x2 x3 x4 x5 ∧ p10 x0 x1 x2 x3 x4 x5 ∧ p11 x0 x1 x2 x3 x4 x5) (k : ∀ x0 x1 x2 x3 x4 x5, p0 x0 x1 x2 x3 x4 x5 → p1 x0 x1 x2 x3 x4 x5 → p2 x0 x1 x2 x3 x4 x5 → p3 x0 x1 x2 x3 x4 x5 → p4 x0 x1 x2 x3 x4 x5 → p5 x0 x1 x2 x3 x4 x5 → p6 x0 x1 x2 x3 x4 x5 → p7 x0 x1 x2 x3 x4 x5 → p8 x0 x1 x2 x3 x4 x5 → p9 x0 x1 x2 x3 x4 x5 → p10 x0 x1 x2 x3 x4 x5 → p11 x0 x1 x2 x3 x4 x5 → G) : G :=
  Exists.elim z fun x0 z => Exists.elim z fun x1 z => Exists.elim z fun x2 z => Exists.elim z fun x3 z => Exists.elim z fun x4 z => Exists.elim z fun x5 z => k x0 x1 x2 x3 x4 x5 z.1 z.2.1 z.2.2.1 z.2.2.2.1 z.2.2.2.2.1 z.2.2.2.2.2.1 z.2.2.2.2.2.2.1 z.2.2.2.2.2.2.2.1 z.2.2.2.2.2.2.2.2.1 z.2.2.2.2.2.2.2.2.2.1 z.2.2.2.2.2.2.2.2.2.2.1 z.2.2.2.2.2.2.2.2.2.2.2
end Mine
set_option Elab.async false
set_option maxRecDepth 100000
set_option maxHeartbeats 8000000
set_option linter.unusedVariables false
set_option maxRecDepth 100000
set_option linter.unusedVariables false
namespace Mine
open PySem
inductive V where
  | int (i : Int)
  | str (s : Str)
  | tup (vs : List V)
  | raw (v : Value)
abbrev V.none : V := .raw .none
abbrev V.bool (b : Bool) : V := .raw (.bool b)
abbrev V.ref (a : Addr) : V := .raw (.ref a)
def TupAt (h : Heap) (a : Addr) (vs : List Value) : Prop :=
  ∃ o n, h.get? a = some o ∧ o.cls = .type "tuple" ∧ o.data = .seq vs.toArray n
mutual
def Is (h : Heap) : V → Value → Prop
  | .int i, v => ∃ t, v = .int i t
  | .str s, v => ∃ t, v = .str s t
  | .raw u, v => v = u
  | .tup ds, v => ∃ a vs, v = .ref a ∧ TupAt h a vs ∧ IsAll h ds vs
def IsAll (h : Heap) : List V → List Value → Prop
  | [], vs => vs = []
  | d :: ds, vs => ∃ v r, vs = v :: r ∧ Is h d v ∧ IsAll h ds r
end
def Tk (h h' : Heap) : Prop := ∀ b o vs n, h.get? b = some o → o.cls = .type "tuple" → o.data = .seq vs n → ∃ o', h'.get? b = some o' ∧ o'.cls = .type "tuple" ∧ o'.data = .seq vs n
theorem Tk.refl (h : Heap) : Tk h h := fun _ o _ _ e c d => ⟨o, e, c, d⟩
theorem Tk.trans {h h' h'' : Heap} (x : Tk h h') (y : Tk h' h'') : Tk h h'' := fun b o vs n e c d => let ⟨o', e', c', d'⟩ := x b o vs n e c d; y b o' vs n e' c' d'
def Grow (h h' : Heap) : Prop := ∀ b o, h.get? b = some o → h'.get? b = some o
theorem Grow.refl (h : Heap) : Grow h h := fun _ _ e => e
theorem Grow.trans {h h' h'' : Heap} (x : Grow h h') (y : Grow h' h'') : Grow h h'' := fun b o e => y b o (x b o e)
theorem Grow.tk {h h' : Heap} (x : Grow h h') : Tk h h' := fun b o _ _ e c d => ⟨o, x b o e, c, d⟩
theorem Grow.push (h : Heap) (o : Obj) : Grow h (h.push o) := fun _ _ e => Heap.get?_push_of_some o e
mutual
theorem Is.tk {h h' : Heap} (k : Tk h h') : ∀ {d : V} {v : Value}, Is h d v → Is h' d v
  | .int _, _, x => by simpa only [Is] using x
  | .str _, _, x => by simpa only [Is] using x
  | .raw _, _, x => by simpa only [Is] using x
  | .tup ds, _, x => by
    simp only [Is] at x ⊢
    refine e2a3 x fun a vs e rq1 r => ?_; clear x; obtain ⟨o, n, g, c, dt⟩ := rq1
    refine e1a3 (k a o _ n g c dt) fun o' g' c' d' => ?_
    exact ⟨a, vs, e, ⟨o', n, g', c', d'⟩, IsAll.tk k r⟩
theorem IsAll.tk {h h' : Heap} (k : Tk h h') : ∀ {ds : List V} {vs : List Value}, IsAll h ds vs → IsAll h' ds vs
  | [], _, x => by simpa only [IsAll] using x
  | d :: ds, _, x => by
    simp only [IsAll] at x ⊢
    refine e2a3 x fun v r e y z => ?_; clear x
    exact ⟨v, r, e, Is.tk k y, IsAll.tk k z⟩
end
theorem IsAll.length {h : Heap} : ∀ {ds : List V} {vs : List Value}, IsAll h ds vs → vs.length = ds.length
  | [], _, x => by simp only [IsAll] at x; subst x; rfl
  | d :: ds, _, x => by
    simp only [IsAll] at x
    refine e2a3 x fun v r e _ z => ?_; clear x
    subst e; simp [IsAll.length z]
theorem IsAll.get {h : Heap} : ∀ {ds : List V} {vs : List Value} {i : Nat} {d : V}, IsAll h ds vs → ds[i]? = some d → ∃ v, vs[i]? = some v ∧ Is h d v
  | [], _, _, _, _, e => by simp at e
  | d :: ds, _, i, d', x, e => by
    simp only [IsAll] at x
    refine e2a3 x fun v r rq2 y z => ?_; clear x; obtain rfl := rq2
    cases i with
    | zero => simp at e; subst e; exact ⟨v, rfl, y⟩
    | succ j =>
      rw [List.getElem?_cons_succ] at e ⊢
      exact IsAll.get z e
theorem IsAll.append {h : Heap} : ∀ {ds es : List V} {vs ws : List Value}, IsAll h ds vs → IsAll h es ws → IsAll h (ds ++ es) (vs ++ ws)
  | [], _, _, _, x, y => by simp only [IsAll] at x; subst x; exact y
  | d :: ds, es, _, ws, x, y => by
    simp only [IsAll] at x
    refine e2a3 x fun v r rq3 a z => ?_; clear x; obtain rfl := rq3
    simp only [List.cons_append, IsAll]
    exact ⟨v, r ++ ws, rfl, a, IsAll.append z y⟩
theorem isAll_nil (h : Heap) : IsAll h [] [] := by simp only [IsAll]
theorem isAll_one {h : Heap} {d : V} {v : Value} (x : Is h d v) : IsAll h [d] [v] := by simp only [IsAll]; exact ⟨v, [], rfl, x, rfl⟩
theorem isAll_cons {h : Heap} {d : V} {v : Value} {ds : List V} {vs : List Value} (x : Is h d v) (y : IsAll h ds vs) : IsAll h (d :: ds) (v :: vs) := by
  simp only [IsAll]; exact ⟨v, vs, rfl, x, y⟩
structure Cx where
  prog : Program
  w : World
  base : Heap
  mg : Str → Option Value
  mb : Str → Option Value
  os : OsState
inductive Abs where
  | list (ds : List V)
  | dict (kvs : List (Int × V))
  | inst (C dx : Addr)
  | attrs (fs : List (Str × V))
structure Cell where
  o : Obj
  k : Abs
abbrev AH := Addr → Option Cell
def AH.set (H : AH) (a : Addr) (c : Cell) : AH := fun b => if b = a then some c else H b
def KindIs (c : Cx) (h : Heap) (a : Addr) : Abs → Prop
  | .list ds => ∃ vs, PlainL h a vs.toArray ∧ IsAll h ds vs
  | .dict kvs => ∃ kv : List (Int × Value), h.DictOf (intKind c.prog c.w) a kv ∧ kv.map (·.1) = kvs.map (·.1) ∧ IsAll h (kvs.map (·.2)) (kv.map (·.2))
  | .inst C dx => h.get? a = some { cls := .ref C, dict := some dx, data := .plain }
  | .attrs fs => ∃ mv, h.Ns1 a mv ∧ (∀ x, fs.lookup x = none → mv x = none) ∧ ∀ x d, fs.lookup x = some d → ∃ v, mv x = some v ∧ Is h d v
def CellIs (c : Cx) (h : Heap) (a : Addr) (x : Cell) : Prop := h.get? a = some x.o ∧ KindIs c h a x.k
def Rep (c : Cx) (H : AH) (h : Heap) : Prop := ∀ a x, H a = some x → CellIs c h a x
theorem KindIs.obj {c : Cx} {h : Heap} {a : Addr} {x : Abs} (k : KindIs c h a x) : ∃ o, h.get? a = some o ∧ (∀ vs n, o.cls = .type "tuple" → o.data ≠ .seq vs n) ∧ (∀ vs, o.data ≠ .fields vs) ∧ (∀ v, o.data ≠ .cell v) := by
  cases x with
  | list ds =>
    refine e1a2 k fun vs rq4 _ => ?_; clear k; obtain ⟨o, n, g, cl, _, dt⟩ := rq4
    exact ⟨o, g, (fun _ _ q => by rw [cl] at q; exact absurd q (by decide)), (by rw [dt]; intro vs e; cases e), (by rw [dt]; intro vs e; cases e)⟩
  | dict kvs =>
    refine e1a2 k fun kv rq5 _ => ?_; clear k; obtain ⟨o, es, ep, g, cl, dt, _⟩ := rq5
    exact ⟨o, g, (fun _ _ q => by rw [cl.1] at q; exact absurd q (by decide)), (by rw [dt]; intro vs e; cases e), (by rw [dt]; intro vs e; cases e)⟩
  | inst C dx => exact ⟨_, k, (fun _ _ e => nomatch e), (fun vs e => nomatch e), (fun vs e => nomatch e)⟩
  | attrs fs =>
    refine e1a2 k fun mv rq6 _ => ?_; clear k; obtain ⟨o, es, ep, g, dt, _⟩ := rq6
    exact ⟨o, g, (fun _ _ _ q => by rw [dt] at q; cases q), (by rw [dt]; intro vs e; cases e), (by rw [dt]; intro vs e; cases e)⟩
theorem CellIs.obj {c : Cx} {h : Heap} {a : Addr} {x : Cell} (k : CellIs c h a x) : ∃ o, h.get? a = some o ∧ (∀ vs n, o.cls = .type "tuple" → o.data ≠ .seq vs n) ∧ (∀ vs, o.data ≠ .fields vs) ∧ (∀ v, o.data ≠ .cell v) := k.2.obj
theorem CellIs.keep {c : Cx} {h h' : Heap} {a : Addr} {x : Cell} (k : CellIs c h a x) (t : Tk h h') (g : ∀ o, h.get? a = some o → h'.get? a = some o) : CellIs c h' a x := by
  obtain ⟨o, x⟩ := x
  obtain ⟨k0, k⟩ := k
  refine ⟨g _ k0, ?_⟩
  cases x with
  | list ds =>
    refine e1a2 k fun vs rq7 y => ?_; clear k; obtain ⟨o, n, e, r⟩ := rq7
    exact ⟨vs, ⟨o, n, g o e, r⟩, y.tk t⟩
  | dict kvs =>
    refine e1a3 k fun kv rq8 p y => ?_; clear k; obtain ⟨o, es, ep, e, r⟩ := rq8
    exact ⟨kv, ⟨o, es, ep, g o e, r⟩, p, y.tk t⟩
  | inst C dx => exact g _ k
  | attrs fs =>
    refine e1a3 k fun mv rq9 p y => ?_; clear k; obtain ⟨o', es, ep, e, r⟩ := rq9
    exact ⟨mv, ⟨o', es, ep, g o' e, r⟩, p, fun x d q => let ⟨v, a, b⟩ := y x d q; ⟨v, a, b.tk t⟩⟩
abbrev Loc := Str → Option V
def Loc.set (m : Loc) (x : Str) (d : V) : Loc := fun y => if y = x then some d else m y
structure Fx where
  A : Around
  env : Env
  frs : List Env
  hE : Heap
  HE : AH
  keep : List (Addr × Obj)
  fn : Bool
def Fx.fs (f : Fx) : List Addr := f.frs.filterMap (·.frame)
def VarOk (env : Env) (mv : Str → Option Value) (h : Heap) (x : Str) (d : V) : Prop :=
  (env.kindOf x = some .local ∧ ∃ v, mv x = some v ∧ Is h d v) ∨
  ((env.kindOf x = some .cell ∨ env.kindOf x = some .free) ∧ ∃ a v, env.cells.lookup x = some a ∧ h.IsCell a (some v) ∧ Is h d v)
structure St (c : Cx) (f : Fx) (m : Loc) (H : AH) (s : Shared) : Prop where
  rep : Rep c H s.heap
  base : c.base.StaysIn s.heap
  bE : c.base.StaysIn f.hE
  hb : ∀ b o, c.base.get? b = some o → H b = none
  off : ∀ a o, f.hE.get? a = some o → f.HE a = none → (a ∉ f.fs → s.heap.get? a = some o) ∧ (a ∈ f.fs → ∃ sl, s.heap.get? a = some { o with slots := sl })
  dom : ∀ a o, f.hE.get? a = some o → f.HE a = none → H a = none
  up : ∀ a, f.HE a ≠ none → H a ≠ none
  loc : ∃ mv, s.heap.Ns f.env.locals mv ∧ ∀ x d, m x = some d → VarOk f.env mv s.heap x d
  newL : f.fn = true → f.hE.get? f.env.locals = none
  trL : H f.env.locals = none
  cel : ∀ x a, f.env.cells.lookup x = some a → H a = none ∧ a ≠ f.env.locals ∧ (f.fn = true → f.env.kindOf x = some .cell → f.hE.get? a = none) ∧ ∃ ov, s.heap.IsCell a ov
  apart : ∀ x y a, f.env.cells.lookup x = some a → f.env.cells.lookup y = some a → x = y
  ff : s.heap.FunFrames c.base f.frs
  fh : ∀ a ∈ f.fs, H a = none
  big : ∀ a x, H a = some x → cStatics < a
  kp : ∀ p ∈ f.keep, s.heap.get? p.1 = some p.2 ∧ ∃ vs, p.2.data = .fields vs
  gens : s.gens = #[]
  os : s.os = c.os
theorem funFrames_keep {h h' base : Heap} : ∀ {l : List Env}, h.FunFrames base l → (∀ b ∈ l.filterMap (·.frame), ∀ o, h.get? b = some o → (∀ vs, o.data ≠ .fields vs) → ∃ o', h'.get? b = some o' ∧ ∀ vs, o'.data ≠ .fields vs) → h'.FunFrames base l
  | [], _, _ => trivial
  | env :: r, ⟨hk, ⟨L, o, hf, hn, ho, hd⟩, hr⟩, k => by
    refine e1a2 (k L (by rw [List.filterMap_cons, hf]; exact .head _) o ho hd) fun o' e' d' => ?_
    exact ⟨hk, ⟨L, o', hf, hn, e', d'⟩, funFrames_keep hr fun b hb => k b (by rw [List.filterMap_cons, hf]; exact .tail _ hb)⟩
theorem St.old {c : Cx} {f : Fx} {m : Loc} {H : AH} {s : Shared} (S : St c f m H s) {a : Addr} (e : s.heap.get? a = none) : f.hE.get? a = none := by
  cases q : f.hE.get? a with
  | none => rfl
  | some o =>
    exfalso
    cases hq : f.HE a with
    | none =>
      obtain ⟨k1, k2⟩ := S.off a o q hq
      by_cases hm : a ∈ f.fs
      · obtain ⟨sl, e'⟩ := k2 hm; rw [e] at e'; cases e'
      · rw [k1 hm] at e; cases e
    | some x =>
      have := S.up a (by rw [hq]; exact fun z => nomatch z)
      cases hx : H a with
      | none => exact this hx
      | some y => refine e1a2 ((S.rep a y hx).obj) fun o' g _ => ?_; rw [e] at g; cases g
theorem VarOk.mono {env : Env} {mv : Str → Option Value} {h h' : Heap} {x : Str} {d : V} (k : VarOk env mv h x d) (t : Tk h h')
    (g : ∀ a v, env.cells.lookup x = some a → h.IsCell a (some v) → h'.IsCell a (some v)) : VarOk env mv h' x d := by
  rcases k with ⟨e, v, p, q⟩ | ⟨e, a, v, p, q, r⟩
  · exact .inl ⟨e, v, p, q.tk t⟩
  · exact .inr ⟨e, a, v, p, g a v p q, r.tk t⟩
theorem St.grow {c : Cx} {f : Fx} {m : Loc} {H : AH} {s s' : Shared} (S : St c f m H s) (g : Grow s.heap s'.heap) (hg : s'.gens = s.gens) (ho : s'.os = s.os) : St c f m H s' where
  rep := fun a x e => (S.rep a x e).keep g.tk (fun o => g a o)
  base := fun b o e => g b o (S.base b o e)
  bE := S.bE
  hb := S.hb
  off := fun a o e q => ⟨fun n => g a o ((S.off a o e q).1 n), fun n => let ⟨sl, z⟩ := (S.off a o e q).2 n; ⟨sl, g _ _ z⟩⟩
  dom := S.dom
  up := S.up
  loc := let ⟨mv, n, k⟩ := S.loc; ⟨mv, n.keeps g, fun x d e => (k x d e).mono g.tk fun _ _ _ z => z.keeps g⟩
  newL := S.newL
  trL := S.trL
  cel := fun x a e => let ⟨p, q, r, ov, z⟩ := S.cel x a e; ⟨p, q, r, ov, z.keeps g⟩
  apart := S.apart
  ff := S.ff.of_keeps fun b o e _ => ⟨o, g b o e, rfl⟩
  fh := S.fh
  big := S.big
  kp := fun p hp => ⟨g _ _ (S.kp p hp).1, (S.kp p hp).2⟩
  gens := hg.trans S.gens
  os := ho.trans S.os
theorem St.alloc {c : Cx} {f : Fx} {m : Loc} {H : AH} {s s' : Shared} (S : St c f m H s) {a : Addr} {x : Cell} (g : Grow s.heap s'.heap) (hg : s'.gens = s.gens) (ho : s'.os = s.os)
    (hn : s.heap.get? a = none) (hbig : cStatics < a) (hx : CellIs c s'.heap a x) : St c f m (H.set a x) s' := by
  have S' := S.grow (s' := s') g hg ho
  have ne : ∀ b o, s.heap.get? b = some o → b ≠ a := fun b o e q => by rw [q, hn] at e; cases e
  have hH : ∀ b, b ≠ a → (H.set a x) b = H b := fun b q => if_neg q
  refine e3a2 (S.loc.choose_spec.1) fun oL _ _ hL _ => ?_
  refine ⟨fun b y e => ?_, S'.base, S.bE, fun b o e => ?_, S'.off, fun b o e q => ?_, fun b q => ?_, S'.loc, S.newL, ?_, fun y b e => ?_, S.apart, S'.ff, fun b q => ?_, fun b y e => ?_, S'.kp, S'.gens, S'.os⟩
  · by_cases q : b = a
    · subst q; rw [AH.set, if_pos rfl] at e; cases e; exact hx
    · rw [hH b q] at e; exact S'.rep b y e
  · rw [hH b (ne b o (S.base b o e))]; exact S.hb b o e
  · have : b ≠ a := fun z => by rw [z, S.old hn] at e; cases e
    rw [hH b this]; exact S.dom b o e q
  · by_cases z : b = a
    · subst z; rw [AH.set, if_pos rfl]; exact fun w => nomatch w
    · rw [hH b z]; exact S.up b q
  · rw [hH _ (ne _ _ hL)]; exact S.trL
  · refine e0a4 (S.cel y b e) fun p q r rq10 => ?_; refine e2a2 rq10 fun ov oc z zz => ?_; clear rq10
    refine e0a4 (S'.cel y b e) fun _ _ _ z' => ?_
    exact ⟨by rw [hH b (ne b _ z)]; exact p, q, r, z'⟩
  · obtain ⟨_, o, e, _⟩ := S.ff.mem q
    rw [hH b (ne b o e)]; exact S.fh b q
  · by_cases q : b = a
    · exact q ▸ hbig
    · rw [hH b q] at e; exact S.big b y e
theorem St.upd {c : Cx} {f : Fx} {m : Loc} {H : AH} {s s' : Shared} (S : St c f m H s) {a : Addr} {x y : Cell} (hH : H a = some x) (g : Heap.ExtBut a s.heap s'.heap) (hg : s'.gens = s.gens) (ho : s'.os = s.os)
    (hy : CellIs c s'.heap a y) : St c f m (H.set a y) s' ∧ Tk s.heap s'.heap := by
  refine e1a4 ((S.rep a x hH).obj) fun oa ga na nf nc => ?_
  have t : Tk s.heap s'.heap := fun b o _ _ e cl d => ⟨o, g b o (fun q => by rw [q, ga] at e; cases e; exact na _ _ cl d) e, cl, d⟩
  have hS : ∀ b, b ≠ a → (H.set a y) b = H b := fun b q => if_neg q
  have nea : ∀ b, H b = none → b ≠ a := fun b e q => by rw [q, hH] at e; cases e
  refine ⟨⟨fun b z e => ?_, fun b o e => ?_, S.bE, fun b o e => ?_, fun b o e q => ?_, fun b o e q => ?_, fun b q => ?_, ?_, S.newL, ?_, fun v b e => ?_, S.apart, ?_, fun b q => ?_, fun b z e => ?_, fun p hp => ?_, hg.trans S.gens, ho.trans S.os⟩, t⟩
  · by_cases q : b = a
    · subst q; rw [AH.set, if_pos rfl] at e; cases e; exact hy
    · rw [hS b q] at e; exact (S.rep b z e).keep t fun o => g b o q
  · exact g b o (nea b (S.hb b o e)) (S.base b o e)
  · rw [hS b (nea b (S.hb b o e))]; exact S.hb b o e
  · have nb := nea b (S.dom b o e q)
    exact ⟨fun n => g b o nb ((S.off b o e q).1 n), fun n => let ⟨sl, z⟩ := (S.off b o e q).2 n; ⟨sl, g _ _ nb z⟩⟩
  · have nb := nea b (S.dom b o e q)
    rw [hS b nb]; exact S.dom b o e q
  · by_cases z : b = a
    · subst z; rw [AH.set, if_pos rfl]; exact fun w => nomatch w
    · rw [hS b z]; exact S.up b q
  · refine e1a2 (S.loc) fun mv n k => ?_
    refine ⟨mv, n.extBut g (nea _ S.trL), fun v d e => (k v d e).mono t fun b w eb z => ?_⟩
    refine e1a2 z fun o p q => ?_; clear z
    exact ⟨o, g b o (nea b (S.cel v b eb).1) p, q⟩
  · rw [hS _ (nea _ S.trL)]; exact S.trL
  · refine e0a4 (S.cel v b e) fun p q r rq11 => ?_; refine e2a2 rq11 fun ov o z zz => ?_; clear rq11
    exact ⟨by rw [hS b (nea b p)]; exact p, q, r, ov, o, g b o (nea b p) z, zz⟩
  · exact funFrames_keep S.ff fun b hb o e hd => ⟨o, g b o (nea b (S.fh b hb)) e, hd⟩
  · rw [hS b (nea b (S.fh b q))]; exact S.fh b q
  · by_cases q : b = a
    · exact q ▸ S.big a x hH
    · rw [hS b q] at e; exact S.big b z e
  · obtain ⟨k1, vs, k2⟩ := S.kp p hp
    exact ⟨g p.1 p.2 (fun q => by rw [q, ga] at k1; cases k1; exact nf vs k2) k1, vs, k2⟩
end Mine
set_option maxRecDepth 100000
set_option linter.unusedVariables false
namespace Mine
open PySem
theorem St.store {c : Cx} {f : Fx} {m : Loc} {H : AH} {s s' : Shared} (S : St c f m H s) {x : Str} {v : Value} {d : V} (hfn : f.fn = true) (hk : f.env.kindOf x = some .local)
    (g : Heap.SameBut f.env.locals s.heap s'.heap) (hn : ∀ mv, s.heap.Ns f.env.locals mv → s'.heap.Ns f.env.locals (fun y => if y = x then some v else mv y)) (hg : s'.gens = s.gens) (ho : s'.os = s.os) (hd : Is s.heap d v) : St c f (m.set x d) H s' ∧ Tk s.heap s'.heap := by
  refine e1a2 (S.loc) fun mv n k => ?_
  refine e3a4 (id n) fun oL es ep hL hLd hLk hLm => ?_
  have n' := hn mv n
  refine e3a3 (id n') fun oL' es' ep' hL' hLd' _ => ?_
  have ext := g.extBut
  have t : Tk s.heap s'.heap := fun b o vs n e cl dt => by
    by_cases q : b = f.env.locals
    · rw [q, hL] at e; cases e; rw [hLd] at dt; cases dt
    · exact ⟨o, ext b o q e, cl, dt⟩
  have neL : ∀ b, H b ≠ none → b ≠ f.env.locals := fun b e q => e (q ▸ S.trL)
  refine ⟨⟨fun b z e => ?_, fun b o e => ?_, S.bE, S.hb, fun b o e q => ?_, S.dom, S.up, ⟨_, n', fun y d' e => ?_⟩, S.newL, S.trL, fun y b e => ?_, S.apart, ?_, S.fh, S.big, fun p hp => ?_, hg.trans S.gens, ho.trans S.os⟩, t⟩
  · exact (S.rep b z e).keep t fun o => ext b o (neL b (by rw [e]; exact fun z => nomatch z))
  · refine ext b o (fun q => ?_) (S.base b o e)
    have h1 := S.bE b o e
    rw [q, S.newL hfn] at h1; cases h1
  · have nb : b ≠ f.env.locals := fun z => by rw [z, S.newL hfn] at e; cases e
    exact ⟨fun n => ext b o nb ((S.off b o e q).1 n), fun n => let ⟨sl, z⟩ := (S.off b o e q).2 n; ⟨sl, ext _ _ nb z⟩⟩
  · by_cases q : y = x
    · subst q
      rw [Loc.set, if_pos rfl] at e; cases e
      exact .inl ⟨hk, v, if_pos rfl, hd.tk t⟩
    · rw [Loc.set, if_neg q] at e
      rcases k y d' e with ⟨e1, v', p, r⟩ | ⟨e1, a, v', p, r, u⟩
      · exact .inl ⟨e1, v', by show (if y = x then some v else mv y) = _; rw [if_neg q]; exact p, r.tk t⟩
      · refine e1a2 r fun o z1 z2 => ?_; clear r
        exact .inr ⟨e1, a, v', p, ⟨o, ext a o (S.cel y a p).2.1 z1, z2⟩, u.tk t⟩
  · refine e0a4 (S.cel y b e) fun p q r rq12 => ?_; refine e2a2 rq12 fun ov o z zz => ?_; clear rq12
    exact ⟨p, q, r, ov, o, ext b o q z, zz⟩
  · refine funFrames_keep S.ff fun b hb o e hd' => ?_
    by_cases q : b = f.env.locals
    · subst q; exact ⟨oL', hL', fun vs z => by rw [hLd'] at z; cases z⟩
    · exact ⟨o, ext b o q e, hd'⟩
  · obtain ⟨k1, vs, k2⟩ := S.kp p hp
    exact ⟨ext p.1 p.2 (fun q => by rw [q, hL] at k1; cases k1; rw [hLd] at k2; cases k2) k1, vs, k2⟩
theorem St.storeC {c : Cx} {f : Fx} {m : Loc} {H : AH} {s s' : Shared} (S : St c f m H s) {x : Str} {a : Addr} {v : Value} {d : V} (hfn : f.fn = true) (hk : f.env.kindOf x = some .cell) (hc : f.env.cells.lookup x = some a)
    (g : Heap.SameBut a s.heap s'.heap) (hn : s'.heap.IsCell a (some v)) (hg : s'.gens = s.gens) (ho : s'.os = s.os) (hd : Is s.heap d v) : St c f (m.set x d) H s' ∧ Tk s.heap s'.heap := by
  refine e1a2 (S.loc) fun mv n k => ?_
  refine e0a4 (S.cel x a hc) fun Ha haL hnew rq13 => ?_; refine e2a2 rq13 fun ov oa ga da => ?_; clear rq13
  refine e1a2 (id hn) fun oa' ga' da' => ?_
  have ext := g.extBut
  have t : Tk s.heap s'.heap := fun b o vs n e cl dt => by
    by_cases q : b = a
    · rw [q, ga] at e; cases e; rw [da] at dt; cases dt
    · exact ⟨o, ext b o q e, cl, dt⟩
  have hnew := hnew hfn hk
  have neL : ∀ b, H b ≠ none → b ≠ a := fun b e q => e (q ▸ Ha)
  refine ⟨⟨fun b z e => ?_, fun b o e => ?_, S.bE, S.hb, fun b o e q => ?_, S.dom, S.up, ⟨_, n.sameBut g (Ne.symm haL), fun y d' e => ?_⟩, S.newL, S.trL, fun y b e => ?_, S.apart, ?_, S.fh, S.big, fun p hp => ?_, hg.trans S.gens, ho.trans S.os⟩, t⟩
  · exact (S.rep b z e).keep t fun o => ext b o (neL b (by rw [e]; exact fun z => nomatch z))
  · refine ext b o (fun q => ?_) (S.base b o e)
    have h1 := S.bE b o e
    rw [q, hnew] at h1; cases h1
  · have nb : b ≠ a := fun z => by rw [z, hnew] at e; cases e
    exact ⟨fun n => ext b o nb ((S.off b o e q).1 n), fun n => let ⟨sl, z⟩ := (S.off b o e q).2 n; ⟨sl, ext _ _ nb z⟩⟩
  · by_cases q : y = x
    · subst q
      rw [Loc.set, if_pos rfl] at e; cases e
      exact .inr ⟨.inl hk, a, v, hc, hn, hd.tk t⟩
    · rw [Loc.set, if_neg q] at e
      rcases k y d' e with ⟨e1, v', p, r⟩ | ⟨e1, b, v', p, r, u⟩
      · exact .inl ⟨e1, v', p, r.tk t⟩
      · refine e1a2 r fun o z1 z2 => ?_; clear r
        exact .inr ⟨e1, b, v', p, ⟨o, ext b o (fun z => q (S.apart y x a (z ▸ p) hc)) z1, z2⟩, u.tk t⟩
  · refine e0a4 (S.cel y b e) fun p q r rq14 => ?_; refine e2a2 rq14 fun ov o z zz => ?_; clear rq14
    by_cases w : b = a
    · subst w; exact ⟨p, q, r, _, oa', ga', da'⟩
    · exact ⟨p, q, r, ov, o, ext b o w z, zz⟩
  · refine funFrames_keep S.ff fun b hb o e hd' => ?_
    by_cases q : b = a
    · subst q; exact ⟨oa', ga', fun vs z => by rw [da'] at z; cases z⟩
    · exact ⟨o, ext b o q e, hd'⟩
  · obtain ⟨k1, vs, k2⟩ := S.kp p hp
    exact ⟨ext p.1 p.2 (fun q => by rw [q, ga] at k1; cases k1; rw [da] at k2; cases k2) k1, vs, k2⟩
theorem St.slots {c : Cx} {f : Fx} {m : Loc} {H : AH} {s s' : Shared} (S : St c f m H s) (g : Heap.SlotsOnly f.fs s.heap s'.heap) (hg : s'.gens = s.gens) (ho : s'.os = s.os) : St c f m H s' ∧ Tk s.heap s'.heap := by
  have ne : ∀ b, H b ≠ none → b ∉ f.fs := fun b e q => e (S.fh b q)
  have t : Tk s.heap s'.heap := fun b o vs n e cl dt => let ⟨sl, z⟩ := g.2.2 b o e; ⟨_, z, cl, dt⟩
  refine ⟨⟨fun b z e => ?_, fun b o e => ?_, S.bE, S.hb, fun b o e q => ?_, S.dom, S.up, ?_, S.newL, S.trL, fun y b e => ?_, S.apart, S.ff.of_slotsOnly g, S.fh, S.big, fun p hp => ?_, hg.trans S.gens, ho.trans S.os⟩, t⟩
  · exact (S.rep b z e).keep t fun o w => (g.2.1 b (ne b (by rw [e]; exact fun z => nomatch z))).trans w
  · exact (g.2.1 b fun q => by have := (S.ff.mem q).1; rw [e] at this; cases this).trans (S.base b o e)
  · refine ⟨fun n => (g.2.1 b n).trans ((S.off b o e q).1 n), fun n => ?_⟩
    obtain ⟨sl, z⟩ := (S.off b o e q).2 n
    obtain ⟨sl', z'⟩ := g.2.2 b _ z
    exact ⟨sl', z'⟩
  · refine e1a2 (S.loc) fun mv rq15 k => ?_; obtain ⟨oL, es, ep, hL, r⟩ := rq15
    obtain ⟨sl, z⟩ := g.2.2 _ _ hL
    refine ⟨mv, ⟨_, es, ep, z, r⟩, fun y d e => (k y d e).mono t fun b v _ w => ?_⟩
    refine e1a2 w fun o w1 w2 => ?_; clear w
    obtain ⟨sl, z⟩ := g.2.2 _ _ w1
    exact ⟨_, z, w2⟩
  · refine e0a4 (S.cel y b e) fun p q r rq16 => ?_; refine e2a2 rq16 fun ov o z zz => ?_; clear rq16
    obtain ⟨sl, z'⟩ := g.2.2 _ _ z
    exact ⟨p, q, r, ov, _, z', zz⟩
  · obtain ⟨k1, vs, k2⟩ := S.kp p hp
    refine ⟨(g.2.1 p.1 fun q => ?_).trans k1, vs, k2⟩
    obtain ⟨_, o, ho, hnf⟩ := S.ff.mem q
    rw [k1] at ho; cases ho; exact hnf vs k2
theorem St.other {c : Cx} {f : Fx} {m : Loc} {H : AH} {s s' : Shared} (S : St c f m H s) {a : Addr} (hH : H a = none) (hnew : f.hE.get? a = none) (hL : a ≠ f.env.locals) (hcl : ∀ x b, f.env.cells.lookup x = some b → b ≠ a)
    (hfs : a ∉ f.fs) (hkp : ∀ p ∈ f.keep, a ≠ p.1) (hnt : ∀ o vs n, s.heap.get? a = some o → o.cls = .type "tuple" → o.data ≠ .seq vs n)
    (ext : Heap.ExtBut a s.heap s'.heap) (hg : s'.gens = s.gens) (ho : s'.os = s.os) : St c f m H s' ∧ Tk s.heap s'.heap := by
  have t : Tk s.heap s'.heap := fun b o vs n e cl dt => by
    by_cases q : b = a
    · subst q; exact absurd dt (hnt o vs n e cl)
    · exact ⟨o, ext b o q e, cl, dt⟩
  have neH : ∀ b, H b ≠ none → b ≠ a := fun b e q => e (q ▸ hH)
  refine ⟨⟨fun b z e => ?_, fun b o e => ?_, S.bE, S.hb, fun b o e q => ?_, S.dom, S.up, ?_, S.newL, S.trL, fun y b e => ?_, S.apart, ?_, S.fh, S.big, fun p hp => ?_, hg.trans S.gens, ho.trans S.os⟩, t⟩
  · exact (S.rep b z e).keep t fun o => ext b o (neH b (by rw [e]; exact fun z => nomatch z))
  · refine ext b o (fun q => ?_) (S.base b o e)
    have h1 := S.bE b o e
    rw [q, hnew] at h1; cases h1
  · have nb : b ≠ a := fun z => by rw [z, hnew] at e; cases e
    exact ⟨fun n => ext b o nb ((S.off b o e q).1 n), fun n => let ⟨sl, z⟩ := (S.off b o e q).2 n; ⟨sl, ext _ _ nb z⟩⟩
  · refine e1a2 (S.loc) fun mv n k => ?_
    refine ⟨mv, n.extBut ext (Ne.symm hL), fun y d e => (k y d e).mono t fun b v eb w => ?_⟩
    refine e1a2 w fun o w1 w2 => ?_; clear w
    exact ⟨o, ext b o (hcl y b eb) w1, w2⟩
  · refine e0a4 (S.cel y b e) fun p q r rq17 => ?_; refine e2a2 rq17 fun ov o z zz => ?_; clear rq17
    exact ⟨p, q, r, ov, o, ext b o (hcl y b e) z, zz⟩
  · refine funFrames_keep S.ff fun b hb o e hd' => ?_
    exact ⟨o, ext b o (fun q => hfs (q ▸ hb)) e, hd'⟩
  · obtain ⟨k1, vs, k2⟩ := S.kp p hp
    exact ⟨ext p.1 p.2 (Ne.symm (hkp p hp)) k1, vs, k2⟩
theorem St.recd {c : Cx} {f : Fx} {m : Loc} {H : AH} {s s' : Shared} (S : St c f m H s) {a : Addr} {oa : Obj} {vs : Array Value} (ga : s.heap.get? a = some oa) (da : oa.data = .fields vs) (hnew : f.hE.get? a = none)
    (hkp : ∀ p ∈ f.keep, a ≠ p.1) (ext : Heap.ExtBut a s.heap s'.heap) (hg : s'.gens = s.gens) (ho : s'.os = s.os) : St c f m H s' ∧ Tk s.heap s'.heap := by
  have t : Tk s.heap s'.heap := fun b o vs n e cl dt => by
    by_cases q : b = a
    · rw [q, ga] at e; cases e; rw [da] at dt; cases dt
    · exact ⟨o, ext b o q e, cl, dt⟩
  have neH : ∀ b, H b ≠ none → b ≠ a := fun b e q => by
    cases hx : H b with
    | none => exact e hx
    | some y => refine e1a4 ((S.rep b y hx).obj) fun o' g' _ nf _ => ?_; rw [q, ga] at g'; cases g'; exact nf _ da
  refine ⟨⟨fun b z e => ?_, fun b o e => ?_, S.bE, S.hb, fun b o e q => ?_, S.dom, S.up, ?_, S.newL, S.trL, fun y b e => ?_, S.apart, ?_, S.fh, S.big, fun p hp => ?_, hg.trans S.gens, ho.trans S.os⟩, t⟩
  · exact (S.rep b z e).keep t fun o => ext b o (neH b (by rw [e]; exact fun z => nomatch z))
  · refine ext b o (fun q => ?_) (S.base b o e)
    have h1 := S.bE b o e
    rw [q, hnew] at h1; cases h1
  · have nb : b ≠ a := fun z => by rw [z, hnew] at e; cases e
    exact ⟨fun n => ext b o nb ((S.off b o e q).1 n), fun n => let ⟨sl, z⟩ := (S.off b o e q).2 n; ⟨sl, ext _ _ nb z⟩⟩
  · refine e1a2 (S.loc) fun mv n k => ?_
    refine e3a3 (id n) fun oL es ep hL hLd _ => ?_
    refine ⟨mv, n.extBut ext (fun q => ?_), fun y d e => (k y d e).mono t fun b v _ w => ?_⟩
    · rw [q, ga] at hL; cases hL; rw [da] at hLd; cases hLd
    · refine e1a2 w fun o w1 w2 => ?_; clear w
      exact ⟨o, ext b o (fun q => by rw [q, ga] at w1; cases w1; rw [da] at w2; cases w2) w1, w2⟩
  · refine e0a4 (S.cel y b e) fun p q r rq18 => ?_; refine e2a2 rq18 fun ov o z zz => ?_; clear rq18
    exact ⟨p, q, r, ov, o, ext b o (fun q => by rw [q, ga] at z; cases z; rw [da] at zz; cases zz) z, zz⟩
  · refine funFrames_keep S.ff fun b hb o e hd' => ?_
    exact ⟨o, ext b o (fun q => by rw [q, ga] at e; cases e; exact hd' _ da) e, hd'⟩
  · obtain ⟨k1, vs, k2⟩ := S.kp p hp
    exact ⟨ext p.1 p.2 (Ne.symm (hkp p hp)) k1, vs, k2⟩
end Mine
set_option maxRecDepth 100000
set_option linter.unusedVariables false
namespace Mine
open PySem
abbrev Cx.M (c : Cx) : Model := model c.prog c.w
def Dirty (C : Value) : Prop := C = .ref 56
def Sz (C : Value) (vs : Array Value) : Prop := 1 < vs.size ∧ (vs[2]? = some .none ∨ Dirty C)
def Fly (f : Fx) (e : Addr) (C : Value) (h : Heap) : Prop :=
  (f.hE.get? e = none ∧ ∀ p ∈ f.keep, e ≠ p.1) ∧ ∃ oe vs, h.get? e = some oe ∧ oe.cls = C ∧ oe.data = .fields vs ∧ Sz C vs ∧
    (vs[1]? = some .none ∨ ∃ T oT ts fl, vs[1]? = some (.ref T) ∧ (f.hE.get? T = none ∧ ∀ p ∈ f.keep, T ≠ p.1) ∧ T ≠ e ∧ h.get? T = some oT ∧ oT.data = .fields ts ∧ ts[3]? = some fl ∧
      (fl = .none ∨ ∃ L, f.env.frame = some L ∧ fl = rawInt L))
def Thr (c : Cx) (f : Fx) (m : Loc) (X : Value → AH → Prop) (x : Value) (s' : Shared) : Prop :=
  ∃ C H' e, x = .ref e ∧ St c f m H' s' ∧ Fly f e C s'.heap ∧ X C H'
def Good (c : Cx) (f : Fx) (m : Loc) (Q : V → AH → Prop) (s : Shared) (v : Value) (s' : Shared) : Prop :=
  Tk s.heap s'.heap ∧ ∃ d H', Is s'.heap d v ∧ St c f m H' s' ∧ Q d H'
structure Ev (c : Cx) (f : Fx) (e : Expr) (m : Loc) (H : AH) (Q : V → AH → Prop) (X : Value → AH → Prop) : Prop where
  mk ::
  run :
    ∀ s, St c f m H s → wpAny c.M f.A (eval e f.env) (Good c f m Q s) (Thr c f m X) s
instance {c : Cx} {f : Fx} {e : Expr} {m : Loc} {H : AH} {Q : V → AH → Prop} {X : Value → AH → Prop} : CoeFun (Ev c f e m H Q X) (fun _ =>
    ∀ s, St c f m H s → wpAny c.M f.A (eval e f.env) (Good c f m Q s) (Thr c f m X) s) := ⟨Ev.run⟩
structure Op1 (c : Cx) (f : Fx) (t : Value → Sem Value) (d : V) (m : Loc) (H : AH) (Q : V → AH → Prop) (X : Value → AH → Prop) : Prop where
  mk ::
  run :
    ∀ s v, St c f m H s → Is s.heap d v → wpAny c.M f.A (t v) (Good c f m Q s) (Thr c f m X) s
instance {c : Cx} {f : Fx} {t : Value → Sem Value} {d : V} {m : Loc} {H : AH} {Q : V → AH → Prop} {X : Value → AH → Prop} : CoeFun (Op1 c f t d m H Q X) (fun _ =>
    ∀ s v, St c f m H s → Is s.heap d v → wpAny c.M f.A (t v) (Good c f m Q s) (Thr c f m X) s) := ⟨Op1.run⟩
structure Op2 (c : Cx) (f : Fx) (t : Value → Value → Sem Value) (d₁ d₂ : V) (m : Loc) (H : AH) (Q : V → AH → Prop) (X : Value → AH → Prop) : Prop where
  mk ::
  run :
    ∀ s v₁ v₂, St c f m H s → Is s.heap d₁ v₁ → Is s.heap d₂ v₂ → wpAny c.M f.A (t v₁ v₂) (Good c f m Q s) (Thr c f m X) s
instance {c : Cx} {f : Fx} {t : Value → Value → Sem Value} {d₁ d₂ : V} {m : Loc} {H : AH} {Q : V → AH → Prop} {X : Value → AH → Prop} : CoeFun (Op2 c f t d₁ d₂ m H Q X) (fun _ =>
    ∀ s v₁ v₂, St c f m H s → Is s.heap d₁ v₁ → Is s.heap d₂ v₂ → wpAny c.M f.A (t v₁ v₂) (Good c f m Q s) (Thr c f m X) s) := ⟨Op2.run⟩
structure OpN (c : Cx) (f : Fx) (t : List Value → Sem Value) (ds : List V) (m : Loc) (H : AH) (Q : V → AH → Prop) (X : Value → AH → Prop) : Prop where
  mk ::
  run :
    ∀ s vs, St c f m H s → IsAll s.heap ds vs → wpAny c.M f.A (t vs) (Good c f m Q s) (Thr c f m X) s
instance {c : Cx} {f : Fx} {t : List Value → Sem Value} {ds : List V} {m : Loc} {H : AH} {Q : V → AH → Prop} {X : Value → AH → Prop} : CoeFun (OpN c f t ds m H Q X) (fun _ =>
    ∀ s vs, St c f m H s → IsAll s.heap ds vs → wpAny c.M f.A (t vs) (Good c f m Q s) (Thr c f m X) s) := ⟨OpN.run⟩
def Yield (c : Cx) (A : Around) (t : Sem Value) (s : Shared) (d : V) : Prop :=
  wpAny c.M A t (fun v s' => Grow s.heap s'.heap ∧ s'.gens = s.gens ∧ s'.os = s.os ∧ Is s'.heap d v) (fun _ _ => False) s
section
variable {c : Cx} {f : Fx} {m : Loc} {H : AH} {Q Q' : V → AH → Prop} {X X' : Value → AH → Prop}
theorem Good.mono {s : Shared} {v : Value} {s' : Shared} (h : Good c f m Q s v s') (k : ∀ d H, Q d H → Q' d H) : Good c f m Q' s v s' :=
  let ⟨t, d, H', i, S, q⟩ := h; ⟨t, d, H', i, S, k d H' q⟩
theorem Thr.mono {x : Value} {s' : Shared} (h : Thr c f m X x s') (k : ∀ C H, X C H → X' C H) : Thr c f m X' x s' :=
  let ⟨C, H', e, p, S, F, q⟩ := h; ⟨C, H', e, p, S, F, k C H' q⟩
theorem Ev.mono {e : Expr} (h : Ev c f e m H Q X) (k : ∀ d H, Q d H → Q' d H) (kx : ∀ C H, X C H → X' C H) : Ev c f e m H Q' X' :=
  .mk fun s S => wpAny_mono (h s S) (fun _ _ g => g.mono k) fun _ _ g => g.mono kx
theorem Yield.good {t : Sem Value} {s : Shared} {d : V} (h : Yield c f.A t s d) (S : St c f m H s) (q : Q d H) : wpAny c.M f.A t (Good c f m Q s) (Thr c f m X) s :=
  wpAny_mono h (fun _ _ ⟨g, hg, ho, i⟩ => ⟨g.tk, d, H, i, S.grow g hg ho, q⟩) fun _ _ z => z.elim
def Pe (c : Cx) (f : Fx) (e : Expr) (m : Loc) (H : AH) (d : V) : Prop := Ev c f e m H (fun d' H' => d' = d ∧ H' = H) (fun _ _ => False)
instance {c : Cx} {f : Fx} {e : Expr} {m : Loc} {H : AH} {d : V} : CoeFun (Pe c f e m H d) (fun _ => ∀ s, St c f m H s → wpAny c.M f.A (eval e f.env) (Good c f m (fun d' H' => d' = d ∧ H' = H) s) (Thr c f m (fun _ _ => False)) s) := ⟨fun h => Ev.run h⟩
theorem Pe.ev {e : Expr} {d : V} (h : Pe c f e m H d) (q : Q d H) : Ev c f e m H Q X :=
  Ev.mono h (fun _ _ ⟨a, b⟩ => by subst a; subst b; exact q) fun _ _ z => z.elim
theorem Ev_bin {l r : Expr} {op : Operator} {p : Pos} (h : Ev c f l m H (fun d₁ H₁ => Ev c f r m H₁ (fun d₂ H₂ => Op2 c f (binaryOp op) d₁ d₂ m H₂ Q X) X) X) : Ev c f (.BinOp l op r p) m H Q X := .mk fun s S =>
  wpAny_BinOp (wpAny_mono (h s S) (fun v₁ s₁ ⟨t₁, d₁, H₁, i₁, S₁, q₁⟩ => wpAny_mono (q₁ s₁ S₁) (fun v₂ s₂ ⟨t₂, d₂, H₂, i₂, S₂, q₂⟩ =>
    wpAny_mono (q₂ s₂ v₁ v₂ S₂ (i₁.tk t₂) i₂) (fun v s₃ ⟨t₃, r⟩ => ⟨t₁.trans (t₂.trans t₃), r⟩) fun _ _ x => x) fun _ _ x => x) fun _ _ x => x)
theorem Ev_cmp {l r : Expr} {op : CmpOp} {p : Pos} (h : Ev c f l m H (fun d₁ H₁ => Ev c f r m H₁ (fun d₂ H₂ => Op2 c f (compareOp op) d₁ d₂ m H₂ Q X) X) X)
    (hm : behindInMarks op r = false := by with_unfolding_all rfl) : Ev c f (.Compare l [op] [r] p) m H Q X := .mk fun s S =>
  wpAny_Compare1 (wpAny_mono (h s S) (fun v₁ s₁ ⟨t₁, d₁, H₁, i₁, S₁, q₁⟩ => wpAny_mono (q₁ s₁ S₁) (fun v₂ s₂ ⟨t₂, d₂, H₂, i₂, S₂, q₂⟩ =>
    wpAny_mono (q₂ s₂ v₁ v₂ S₂ (i₁.tk t₂) i₂) (fun v s₃ ⟨t₃, r⟩ => ⟨t₁.trans (t₂.trans t₃), r⟩) fun _ _ x => x) fun _ _ x => x) fun _ _ x => x) hm
theorem Ev_int {i : Int} {k : Nat} {p : Pos} (q : Q (.int i) H) : Ev c f (.Constant (.int i) k p) m H Q X := .mk fun s S =>
  wpAny_Constant_int ⟨Tk.refl _, .int i, H, ⟨_, rfl⟩, S.grow (s' := { s with toks := s.toks + 1 }) (Grow.refl _) rfl rfl, q⟩
theorem Ev_str {x : Str} {k : Nat} {p : Pos} (q : Q (.str x) H) : Ev c f (.Constant (.str x) k p) m H Q X := .mk fun s S =>
  wpAny_Constant_str ⟨Tk.refl _, .str x, H, ⟨_, rfl⟩, S.grow (s' := { s with toks := s.toks + 1 }) (Grow.refl _) rfl rfl, q⟩
theorem Ev_none {k : Nat} {p : Pos} (q : Q .none H) : Ev c f (.Constant .none k p) m H Q X := .mk fun s S =>
  wpAny_Constant_none ⟨Tk.refl _, .none, H, rfl, S, q⟩
theorem Ev_bool {b : Bool} {k : Nat} {p : Pos} (q : Q (.bool b) H) : Ev c f (.Constant (.bool b) k p) m H Q X := .mk fun s S =>
  wpAny_Constant_bool ⟨Tk.refl _, .bool b, H, rfl, S, q⟩
theorem Ev_var {x : Str} {p : Pos} {d : V} (hx : m x = some d) (q : Q d H) (hk : f.env.scope.kind = .function := by rfl) (hd : (x == ("__debug__" : Str)) = false := by decide)
    (hn : (x == ("__classdict__" : Str)) = false := by decide) : Ev c f (.Name x p) m H Q X := .mk fun s S => by
  refine e1a2 (S.loc) fun mv n k => ?_
  rcases k x d hx with ⟨e, v, a, b⟩ | ⟨e | e, a, v, b, r, u⟩
  · exact wpAny_Name (wpAny_loadName_local hk e n a ⟨Tk.refl _, d, H, b, S, q⟩) hd
  · exact wpAny_Name (wpAny_loadName_cell hk e b r ⟨Tk.refl _, d, H, u, S, q⟩) hd
  · exact wpAny_Name (wpAny_loadName_free hk e b r ⟨Tk.refl _, d, H, u, S, q⟩ hn) hd
end
end Mine
set_option maxRecDepth 100000
set_option linter.unusedVariables false
namespace Mine
open PySem
structure FrOk (f : Fx) : Prop where
  frames : f.A.frames = some f.frs
  head : ∃ r, f.frs = f.env :: r
  frame : f.env.frame = some f.env.locals
  kind : f.env.scope.kind = .function
def FlyT (f : Fx) (e : Addr) (C : Value) (fl : Value) (h : Heap) : Prop :=
  (f.hE.get? e = none ∧ ∀ p ∈ f.keep, e ≠ p.1) ∧ ∃ oe vs T oT ts, h.get? e = some oe ∧ oe.cls = C ∧ oe.data = .fields vs ∧ Sz C vs ∧
    vs[1]? = some (.ref T) ∧ (f.hE.get? T = none ∧ ∀ p ∈ f.keep, T ≠ p.1) ∧ T ≠ e ∧ h.get? T = some oT ∧ oT.data = .fields ts ∧ ts[3]? = some fl
theorem FlyT.fly_here {f : Fx} {e : Addr} {C : Value} {h : Heap} {L : Addr} (hL : f.env.frame = some L) (k : FlyT f e C (rawInt L) h) : Fly f e C h := by
  obtain ⟨n, oe, vs, T, oT, ts, a1, a2, a3, a4, a5, a6, a7, a8, a9, a10⟩ := k
  exact ⟨n, oe, vs, a1, a2, a3, a4, .inr ⟨T, oT, ts, _, a5, a6, a7, a8, a9, a10, .inr ⟨L, hL, rfl⟩⟩⟩
section
variable {c : Cx} {f : Fx} {m : Loc} {H : AH} {E : Value → Shared → Prop} {s : Shared} {e : Addr} {C : Value} {Q : Unit → Shared → Prop}
theorem fly_not_frame (S : St c f m H s) {oe : Obj} {vs : Array Value} (he : s.heap.get? e = some oe) (hd : oe.data = .fields vs) : e ∉ f.fs := fun hm => by
  obtain ⟨_, o, ho, hnf⟩ := S.ff.mem hm
  rw [he] at ho; cases ho; exact hnf vs hd
theorem entry_ok (O : FrOk f) (S : St c f m H s) {oe : Obj} {vs : Array Value} {head : Value} {hadNext : Bool} (hn : f.hE.get? e = none ∧ ∀ p ∈ f.keep, e ≠ p.1) (he : s.heap.get? e = some oe) (hd : oe.data = .fields vs) (hsz : Sz C vs) (hC : oe.cls = C)
    (hQ : ∀ s', St c f m H s' → FlyT f e C (rawInt f.env.locals) s'.heap → Q () s') :
    wpAny c.M f.A (do let a ← frameOf f.env; let pl ← entryPlaceOf f.env.locals hadNext; let b ← EntryCells.newEntry head a .none (rawInt f.env.locals) .none pl; setField (.ref e) 1 b) Q E s := by
  obtain ⟨r, hr⟩ := O.head
  have ff := S.ff
  rw [hr] at ff
  refine wpAny_bind (wpAny_frameOf_fun (O.frames.trans (by rw [hr])) ff O.frame fun h₁ hs₁ => ?_)
  refine wpAny_bind (wpAny_entryPlaceOf fun pl hpl => ?_)
  unfold EntryCells.newEntry newFields
  refine wpAny_bind (wpAny_newObj_type ?_ (hpl.sizeOk5 _ _ _ _ _))
  rw [← hr] at hs₁
  obtain ⟨S₁, _⟩ := S.slots (s' := { s with heap := h₁ }) hs₁ rfl rfl
  have hene := fly_not_frame S he hd
  have he₁ : h₁.get? e = some oe := (hs₁.2.1 e hene).trans he
  refine wpAny_setField (Heap.get?_push_of_some _ he₁) hd hsz.1 ?_
  have hTe : h₁.objs.size ≠ e := Nat.ne_of_gt (Heap.lt_size he₁)
  have hTn : h₁.get? h₁.objs.size = none := by
    cases q : h₁.get? h₁.objs.size with
    | none => rfl
    | some o => exact absurd (Heap.lt_size q) (Nat.lt_irrefl _)
  have S₂ := S₁.grow (s' := { s with heap := h₁.push { cls := .type "traceback", dict := none, data := .fields ([head, .ref f.env.locals, .none, rawInt f.env.locals, .none] ++ (if pl.isEmpty then List.replicate 6 Value.none else pl)).toArray } }) (Grow.push _ _) rfl rfl
  have he₂ := Heap.get?_push_of_some { cls := .type "traceback", dict := none, data := .fields ([head, .ref f.env.locals, .none, rawInt f.env.locals, .none] ++ (if pl.isEmpty then List.replicate 6 Value.none else pl)).toArray } he₁
  obtain ⟨S₃, _⟩ := S₂.recd (s' := { s with heap := (h₁.push { cls := .type "traceback", dict := none, data := .fields ([head, .ref f.env.locals, .none, rawInt f.env.locals, .none] ++ (if pl.isEmpty then List.replicate 6 Value.none else pl)).toArray }).update e (Obj.mapFields (·.setIfInBounds 1 (Value.ref h₁.objs.size))) })
    he₂ hd hn.1 hn.2 (Heap.SameBut.update ..).extBut rfl rfl
  have hd₃ := Obj.data_mapFields hd (·.setIfInBounds 1 (Value.ref h₁.objs.size))
  have he₃ := Heap.get?_update_self (Obj.mapFields (·.setIfInBounds 1 (Value.ref h₁.objs.size))) he₂ (Obj.isFreed_of_fields hd₃)
  have hT₃ := (Heap.get?_update_other (h₁.push { cls := .type "traceback", dict := none, data := .fields ([head, .ref f.env.locals, .none, rawInt f.env.locals, .none] ++ (if pl.isEmpty then List.replicate 6 Value.none else pl)).toArray })
    (Obj.mapFields (·.setIfInBounds 1 (Value.ref h₁.objs.size))) (Ne.symm hTe)).trans (Heap.get?_push_size h₁ rfl)
  exact hQ _ S₃ ⟨hn, _, _, h₁.objs.size, _, _, he₃, (Obj.cls_mapFields _ _).trans hC, hd₃, ⟨by simpa using hsz.1, hsz.2.imp (fun h => by rw [Array.getElem?_setIfInBounds_ne (by decide)]; exact h) id⟩, by simp [hsz.1], ⟨S₁.old hTn, fun p hp q => by have := (S₁.kp p hp).1; rw [← q] at this; exact absurd (hTn.symm.trans this) (fun z => nomatch z)⟩, hTe, hT₃, rfl, by simp⟩
theorem note_ok (O : FrOk f) (S : St c f m H s) (F : Fly f e C s.heap) (hQ : ∀ s', St c f m H s' → FlyT f e C (rawInt f.env.locals) s'.heap → Q () s') : wpAny c.M f.A (noteFrame (.ref e) f.env) Q E s := by
  obtain ⟨hn, oe, vs, he, hC, hd, hsz, h1⟩ := F
  unfold noteFrame
  simp only [O.frame]
  rcases h1 with h1 | ⟨T, oT, ts, fl, h1, hTn, hTe, hT, hTd, h3, hfl⟩
  · refine wpAny_bind (wpAny_field he hd h1 ?_)
    rw [if_neg (by decide)]
    exact entry_ok O S hn he hd hsz hC hQ
  · refine wpAny_bind (wpAny_field he hd h1 ?_)
    rw [if_pos (show (Value.ref T != Value.none) = true from by simp)]
    refine wpAny_bind (wpAny_field hT hTd h3 ?_)
    by_cases hh : (fl == rawInt f.env.locals) = true
    · rw [if_pos hh]
      refine wpAny_pure (hQ s S ⟨hn, oe, vs, T, oT, ts, he, hC, hd, hsz, h1, hTn, hTe, hT, hTd, ?_⟩)
      rw [h3, beq_iff_eq.mp hh]
    · rw [if_neg hh]
      refine wpAny_bind (wpAny_setField hT hTd (Array.getElem?_eq_some_iff.mp h3).1 ?_)
      obtain ⟨S₁, _⟩ := S.recd (s' := { s with heap := s.heap.update T (Obj.mapFields (·.setIfInBounds 3 Value.none)) }) hT hTd hTn.1 hTn.2 (Heap.SameBut.update ..).extBut rfl rfl
      have he₁ : (s.heap.update T (Obj.mapFields (·.setIfInBounds 3 Value.none))).get? e = some oe := (Heap.get?_update_other _ _ hTe).trans he
      exact entry_ok O S₁ hn he₁ hd hsz hC hQ
theorem flight_ok (S : St c f m H s) {fl : Value} {fr : Option Addr} (F : FlyT f e C fl s.heap) (hQ : ∀ s', St c f m H s' → FlyT f e C (fr.elim .none fun x => rawInt x) s'.heap → Q () s') : wpAny c.M f.A (setFlight (.ref e) fr) Q E s := by
  obtain ⟨hn, oe, vs, T, oT, ts, he, hC, hd, hsz, h1, hTn, hTe, hT, hTd, h3⟩ := F
  unfold setFlight
  refine wpAny_bind (wpAny_field he hd h1 ?_)
  rw [if_pos (show (Value.ref T != Value.none) = true from by simp)]
  have hs3 := (Array.getElem?_eq_some_iff.mp h3).1
  refine wpAny_setField hT hTd hs3 ?_
  obtain ⟨S₁, _⟩ := S.recd (s' := { s with heap := s.heap.update T (Obj.mapFields (·.setIfInBounds 3 (fr.elim .none fun x => rawInt x))) }) hT hTd hTn.1 hTn.2 (Heap.SameBut.update ..).extBut rfl rfl
  have hd₃ := Obj.data_mapFields hTd (·.setIfInBounds 3 (fr.elim Value.none fun x => rawInt x))
  exact hQ _ S₁ ⟨hn, oe, vs, T, _, _, (Heap.get?_update_other _ _ hTe).trans he, hC, hd, hsz, h1, hTn, hTe, Heap.get?_update_self _ hT (Obj.isFreed_of_fields hd₃), hd₃, by simp [hs3]⟩
theorem leaving_ok (O : FrOk f) (S : St c f m H s) (F : Fly f e C s.heap) (hQ : ∀ s', St c f m H s' → FlyT f e C .none s'.heap → Q () s') : wpAny c.M f.A (leaving f.env (.ref e)) Q E s := by
  unfold leaving
  exact wpAny_bind (note_ok O S F fun s₁ S₁ F₁ => flight_ok S₁ F₁ hQ)
theorem noted_ok (O : FrOk f) (S : St c f m H s) (F : Fly f e C s.heap) (hE : ∀ s', St c f m H s' → FlyT f e C (rawInt f.env.locals) s'.heap → E (.ref e) s') : notedBy c.M f.A f.env E (.ref e) s := by
  unfold notedBy
  exact note_ok O S F hE
theorem cameBack_ok (O : FrOk f) (S : St c f m H s) {fl : Value} (F : FlyT f e C fl s.heap) (hE : ∀ s', St c f m H s' → Fly f e C s'.heap → E (.ref e) s') : cameBackBy c.M f.A f.env E (.ref e) s := by
  unfold cameBackBy
  obtain ⟨hn, oe, vs, T, oT, ts, he, hC, hd, hsz, h1, r⟩ := id F
  refine wpAny_bind (wpAny_field he hd h1 ?_)
  rw [if_neg (by simp)]
  rw [O.frame]
  exact flight_ok (fr := some f.env.locals) S F fun s' S' F' => hE s' S' (F'.fly_here O.frame)
end
end Mine
set_option maxRecDepth 100000
set_option linter.unusedVariables false
namespace Mine
open PySem
structure Room (k : Nat) (A : Around) : Prop where
  handled : A.handled = none
  depth : A.depth + 3 * k + 10 < recursionLimit
  units : A.units + 12 * k + 200 < cLine
theorem Room.deeper {k : Nat} {A : Around} (h : Room (k + 1) A) (env : Env) : Room k (A.deeper env) :=
  ⟨h.handled, by show A.depth + 1 + 3 * k + 10 < _; have := h.depth; exact om0 this, by show A.units + 3 + 12 * k + 200 < _; have := h.units; exact om1 this⟩
theorem Room.le {k j : Nat} {A : Around} (h : Room k A) (hj : j ≤ k) : Room j A :=
  ⟨h.handled, by have := h.depth; exact om2 hj this, by have := h.units; exact om3 hj this⟩
structure Ent (c : Cx) (frs : List Env) (H : AH) (s : Shared) : Prop where
  rep : Rep c H s.heap
  base : c.base.StaysIn s.heap
  hb : ∀ b o, c.base.get? b = some o → H b = none
  ff : s.heap.FunFrames c.base frs
  fh : ∀ a ∈ frs.filterMap (·.frame), H a = none
  big : ∀ a x, H a = some x → cStatics < a
  gens : s.gens = #[]
  os : s.os = c.os
structure Lft (c : Cx) (frs : List Env) (H : AH) (s : Shared) (H' : AH) (s' : Shared) : Prop where
  rep : Rep c H' s'.heap
  off : ∀ a o, s.heap.get? a = some o → H a = none → (a ∉ frs.filterMap (·.frame) → s'.heap.get? a = some o) ∧ (a ∈ frs.filterMap (·.frame) → ∃ sl, s'.heap.get? a = some { o with slots := sl })
  dom : ∀ a o, s.heap.get? a = some o → H a = none → H' a = none
  up : ∀ a, H a ≠ none → H' a ≠ none
  big : ∀ a x, H' a = some x → cStatics < a
  gens : s'.gens = #[]
  os : s'.os = c.os
def Gone (h : Heap) (e : Addr) (C : Value) (h' : Heap) : Prop :=
  h.get? e = none ∧ ∃ oe vs T oT ts, h'.get? e = some oe ∧ oe.cls = C ∧ oe.data = .fields vs ∧ Sz C vs ∧
    vs[1]? = some (.ref T) ∧ h.get? T = none ∧ T ≠ e ∧ h'.get? T = some oT ∧ oT.data = .fields ts ∧ ts[3]? = some .none
structure Fn (c : Cx) (k : Nat) (fv : Value) (args : List V) (H : AH) (Q : V → AH → Prop) (X : Value → AH → Prop) : Prop where
  mk ::
  run :
    ∀ A frs s vs, Room k A → A.frames = some frs → Ent c frs H s → IsAll s.heap args vs →
      codeAny c.M A (.call fv ⟨vs, []⟩) (fun r s' => ∃ H', Lft c frs H s H' s' ∧
        match r with
        | .ok (.ret v) => ∃ d, Is s'.heap d v ∧ Q d H'
        | .ok _ => False
        | .error x => ∃ C e, x = .ref e ∧ Gone s.heap e C s'.heap ∧ X C H') s
instance {c : Cx} {k : Nat} {fv : Value} {args : List V} {H : AH} {Q : V → AH → Prop} {X : Value → AH → Prop} : CoeFun (Fn c k fv args H Q X) (fun _ =>
    ∀ A frs s vs, Room k A → A.frames = some frs → Ent c frs H s → IsAll s.heap args vs →
      codeAny c.M A (.call fv ⟨vs, []⟩) (fun r s' => ∃ H', Lft c frs H s H' s' ∧
        match r with
        | .ok (.ret v) => ∃ d, Is s'.heap d v ∧ Q d H'
        | .ok _ => False
        | .error x => ∃ C e, x = .ref e ∧ Gone s.heap e C s'.heap ∧ X C H') s) := ⟨Fn.run⟩
section
variable {c : Cx} {f : Fx} {m : Loc} {H : AH} {s : Shared}
theorem St.ent (S : St c f m H s) : Ent c f.frs H s := ⟨S.rep, S.base, S.hb, S.ff, S.fh, S.big, S.gens, S.os⟩
theorem Ent.tk {frs : List Env} {H' : AH} {s' : Shared} (E : Ent c frs H s) (L : Lft c frs H s H' s') : Tk s.heap s'.heap := fun b o vs n e cl dt => by
  have hb : H b = none := by
    cases q : H b with
    | none => rfl
    | some x => refine e1a3 ((E.rep b x q).obj) fun o' g nt _ => ?_; rw [e] at g; cases g; exact absurd dt (nt _ _ cl)
  by_cases q : b ∈ frs.filterMap (·.frame)
  · obtain ⟨sl, z⟩ := (L.off b o e hb).2 q; exact ⟨_, z, cl, dt⟩
  · exact ⟨o, (L.off b o e hb).1 q, cl, dt⟩
theorem Lft.data {frs : List Env} {H' : AH} {s' : Shared} (L : Lft c frs H s H' s') {a : Addr} {o : Obj} (e : s.heap.get? a = some o) (h : H a = none) : ∃ sl, s'.heap.get? a = some { o with slots := sl } := by
  by_cases q : a ∈ frs.filterMap (·.frame)
  · exact (L.off a o e h).2 q
  · exact ⟨o.slots, (L.off a o e h).1 q⟩
theorem St.back (S : St c f m H s) {H' : AH} {s' : Shared} (L : Lft c f.frs H s H' s') : St c f m H' s' ∧ Tk s.heap s'.heap := by
  have t := S.ent.tk L
  refine ⟨⟨L.rep, fun b o e => ?_, S.bE, fun b o e => ?_, fun a o e q => ?_, fun a o e q => ?_, fun a q => L.up a (S.up a q), ?_, S.newL, ?_, fun x a e => ?_, S.apart, ?_, fun a q => ?_, L.big, fun p hp => ?_, L.gens, L.os⟩, t⟩
  · refine (L.off b o (S.base b o e) (S.hb b o e)).1 fun q => ?_
    have := (S.ff.mem q).1; rw [e] at this; cases this
  · exact L.dom b o (S.base b o e) (S.hb b o e)
  · have hH := S.dom a o e q
    obtain ⟨k1, k2⟩ := S.off a o e q
    refine ⟨fun n => (L.off a o (k1 n) hH).1 n, fun n => ?_⟩
    obtain ⟨sl, z⟩ := k2 n
    obtain ⟨sl', z'⟩ := (L.off a _ z hH).2 n
    exact ⟨sl', z'⟩
  · obtain ⟨k1, k2⟩ := S.off a o e q
    by_cases n : a ∈ f.fs
    · obtain ⟨sl, z⟩ := k2 n; exact L.dom a _ z (S.dom a o e q)
    · exact L.dom a _ (k1 n) (S.dom a o e q)
  · refine e1a2 (S.loc) fun mv rq19 k => ?_; obtain ⟨oL, es, ep, hL, r⟩ := rq19
    obtain ⟨sl, z⟩ := L.data hL S.trL
    refine ⟨mv, ⟨_, es, ep, z, r⟩, fun x d e => (k x d e).mono t fun a v ea w => ?_⟩
    refine e1a2 w fun o w1 w2 => ?_; clear w
    obtain ⟨sl, z⟩ := L.data w1 (S.cel x a ea).1
    exact ⟨_, z, w2⟩
  · refine e1a2 (S.loc) fun mv rq20 k => ?_; obtain ⟨oL, es, ep, hL, r⟩ := rq20
    exact L.dom _ _ hL S.trL
  · refine e0a4 (S.cel x a e) fun p q r rq21 => ?_; refine e2a2 rq21 fun ov o z zz => ?_; clear rq21
    obtain ⟨sl, z'⟩ := L.data z p
    exact ⟨L.dom a o z p, q, r, ov, _, z', zz⟩
  · refine funFrames_keep S.ff fun b hb o e hd => ?_
    obtain ⟨sl, z⟩ := L.data e (S.fh b hb)
    exact ⟨_, z, hd⟩
  · obtain ⟨_, o, e, _⟩ := S.ff.mem q
    exact L.dom a o e (S.fh a q)
  · obtain ⟨k1, vs, k2⟩ := S.kp p hp
    have hH : H p.1 = none := by
      cases z : H p.1 with
      | none => rfl
      | some y => refine e1a4 ((S.rep p.1 y z).obj) fun o' g' _ nf _ => ?_; rw [k1] at g'; cases g'; exact absurd k2 (nf vs)
    refine ⟨(L.off p.1 p.2 k1 hH).1 fun q => ?_, vs, k2⟩
    obtain ⟨_, o, ho, hnf⟩ := S.ff.mem q
    rw [k1] at ho; cases ho; exact hnf vs k2
theorem Gone.fly (S : St c f m H s) {e : Addr} {C : Value} {h' : Heap} (k : Gone s.heap e C h') : Fly f e C h' := by
  obtain ⟨n, oe, vs, T, oT, ts, a1, a2, a3, a4, a5, a6, a7, a8, a9, a10⟩ := k
  have kk : ∀ b, s.heap.get? b = none → ∀ p ∈ f.keep, b ≠ p.1 := fun b hb p hp q => by have := (S.kp p hp).1; rw [← q, hb] at this; cases this
  exact ⟨⟨S.old n, kk e n⟩, oe, vs, a1, a2, a3, a4, .inr ⟨T, oT, ts, .none, a5, ⟨S.old a6, kk T a6⟩, a7, a8, a9, a10, .inl rfl⟩⟩
theorem Fn.op {k : Nat} {fv : Value} {args : List V} {Q : V → AH → Prop} {X : Value → AH → Prop} (h : Fn c k fv args H Q X) (R : Room k f.A) (hf : f.A.frames = some f.frs) {vs : List Value} (S : St c f m H s) (i : IsAll s.heap args vs) :
    wpAny c.M f.A (call fv vs) (Good c f m Q s) (Thr c f m X) s := by
  refine wpAny_call (codeAny_mono (h f.A f.frs s vs R hf S.ent i) fun r s' z => ?_)
  refine e1a2 z fun H' L rq22 => ?_; clear z; have z := rq22; clear rq22
  obtain ⟨S', t⟩ := S.back L
  cases r with
  | error x => refine e2a3 z fun C e rq23 g q => ?_; clear z; obtain rfl := rq23; exact ⟨C, H', e, rfl, S', g.fly S, q⟩
  | ok fl => cases fl with
    | ret v => refine e1a2 z fun d i' q => ?_; clear z; exact ⟨t, d, H', i', S', q⟩
    | _ => exact z.elim
end
inductive Out where
  | next | brk | cont
  | ret (d : V)
  | exc (C : Value)
def FlowIs (h : Heap) : Flow → Out → Prop
  | .next, o => o = .next
  | .brk, o => o = .brk
  | .cont, o => o = .cont
  | .ret v, o => ∃ d, o = .ret d ∧ Is h d v
abbrev Ko := Out → Loc → AH → Prop
def ExOk (c : Cx) (f : Fx) (Q : Ko) (fl : Flow) (s' : Shared) : Prop := ∃ o m' H', FlowIs s'.heap fl o ∧ St c f m' H' s' ∧ Q o m' H'
def ExTh (c : Cx) (f : Fx) (Q : Ko) (x : Value) (s' : Shared) : Prop := ∃ C m' H' e, x = .ref e ∧ St c f m' H' s' ∧ Fly f e C s'.heap ∧ Q (.exc C) m' H'
structure Ex (c : Cx) (f : Fx) (sts : List Stmt) (m : Loc) (H : AH) (Q : Ko) : Prop where
  mk ::
  run :
    ∀ s, St c f m H s → wpAny c.M f.A (execs sts f.env) (ExOk c f Q) (ExTh c f Q) s
instance {c : Cx} {f : Fx} {sts : List Stmt} {m : Loc} {H : AH} {Q : Ko} : CoeFun (Ex c f sts m H Q) (fun _ =>
    ∀ s, St c f m H s → wpAny c.M f.A (execs sts f.env) (ExOk c f Q) (ExTh c f Q) s) := ⟨Ex.run⟩
structure Ex1 (c : Cx) (f : Fx) (st : Stmt) (m : Loc) (H : AH) (Q : Ko) : Prop where
  mk ::
  run :
    ∀ s, St c f m H s → wpAny c.M f.A (exec st f.env) (ExOk c f Q) (ExTh c f Q) s
instance {c : Cx} {f : Fx} {st : Stmt} {m : Loc} {H : AH} {Q : Ko} : CoeFun (Ex1 c f st m H Q) (fun _ =>
    ∀ s, St c f m H s → wpAny c.M f.A (exec st f.env) (ExOk c f Q) (ExTh c f Q) s) := ⟨Ex1.run⟩
def Fin (Q : V → AH → Prop) (X : Value → AH → Prop) : Ko := fun o _ H => match o with
  | .ret d => Q d H
  | .next => Q .none H
  | .exc C => X C H
  | _ => False
section
variable {c : Cx} {f : Fx} {m : Loc} {H : AH}
theorem Thr.ex {X : Value → AH → Prop} {Q : Ko} {x : Value} {s' : Shared} (h : Thr c f m X x s') (k : ∀ C H', X C H' → Q (.exc C) m H') : ExTh c f Q x s' :=
  let ⟨C, H', e, p, S, F, q⟩ := h; ⟨C, m, H', e, p, S, F, k C H' q⟩
theorem ExTh.mono {Q Q' : Ko} {x : Value} {s' : Shared} (h : ExTh c f Q x s') (k : ∀ C m H, Q (.exc C) m H → Q' (.exc C) m H) : ExTh c f Q' x s' :=
  let ⟨C, m', H', e, p, S, F, q⟩ := h; ⟨C, m', H', e, p, S, F, k C m' H' q⟩
theorem Ex_nil {Q : Ko} (q : Q .next m H) : Ex c f [] m H Q := .mk fun s S => wpAny_execs_nil ⟨.next, m, H, rfl, S, q⟩
theorem Ex_cons {st : Stmt} {rest : List Stmt} {Q Q₁ : Ko} (h : Ex1 c f st m H Q₁) (hn : ∀ m' H', Q₁ .next m' H' → Ex c f rest m' H' Q) (hb : ∀ m' H', Q₁ .brk m' H' → Q .brk m' H') (hc : ∀ m' H', Q₁ .cont m' H' → Q .cont m' H')
    (hr : ∀ d m' H', Q₁ (.ret d) m' H' → Q (.ret d) m' H') (hx : ∀ C m' H', Q₁ (.exc C) m' H' → Q (.exc C) m' H') : Ex c f (st :: rest) m H Q := .mk fun s S => by
  refine wpAny_execs_cons (wpAny_mono (h s S) (fun fl s' z => ?_) fun x s' z => z.mono hx)
  refine e3a3 z fun o m' H' fi S' q => ?_; clear z
  cases fl with
  | next => cases fi; exact hn m' H' q s' S'
  | brk => cases fi; exact ⟨_, m', H', rfl, S', hb m' H' q⟩
  | cont => cases fi; exact ⟨_, m', H', rfl, S', hc m' H' q⟩
  | ret v => refine e1a2 fi fun d rq24 i => ?_; clear fi; obtain rfl := rq24; exact ⟨_, m', H', ⟨d, rfl, i⟩, S', hr d m' H' q⟩
def Then (c : Cx) (f : Fx) (rest : List Stmt) (Q : Ko) : Ko := fun o m H => match o with
  | .next => Ex c f rest m H Q
  | o => Q o m H
theorem Ex_seq {st : Stmt} {rest : List Stmt} {Q : Ko} (h : Ex1 c f st m H (Then c f rest Q)) : Ex c f (st :: rest) m H Q :=
  Ex_cons h (fun _ _ z => z) (fun _ _ z => z) (fun _ _ z => z) (fun _ _ _ z => z) (fun _ _ _ z => z)
theorem store_ok {x : Str} {v : Value} {d : V} {s : Shared} {E : Value → Shared → Prop} {Q : Unit → Shared → Prop} (S : St c f m H s) (i : Is s.heap d v) (hx : (f.env.kindOf x = some .local) ∨ (f.env.kindOf x = some .cell ∧ (f.env.cells.lookup x).isSome = true))
    (hfn : f.fn = true) (hk : f.env.scope.kind = .function) (hQ : ∀ s', St c f (m.set x d) H s' → Tk s.heap s'.heap → (∀ b o, b ≠ f.env.locals → (∀ x a, f.env.cells.lookup x = some a → b ≠ a) → s.heap.get? b = some o → s'.heap.get? b = some o) → Q () s') : wpAny c.M f.A (storeName f.env x v) Q E s := by
  rcases hx with hl | ⟨hl, hs⟩
  · refine e1a2 (S.loc) fun mv n k => ?_
    refine wpAny_storeName_local hl n (fun h' hn hs => ?_) (by rw [hk]; rfl)
    have : ∀ mv, s.heap.Ns f.env.locals mv → h'.Ns f.env.locals (fun y => if y = x then some v else mv y) := fun mv' n' => by
      have e : mv = mv' := by
        refine e3a4 n fun o1 es1 ep1 g1 d1 _ e1 => ?_; clear n
        refine e3a4 n' fun o2 es2 ep2 g2 d2 _ e2 => ?_; clear n'
        rw [g1] at g2; cases g2; rw [d1] at d2; cases d2
        funext y; rw [← e1 y, ← e2 y]
      rw [← e]; exact hn
    obtain ⟨S', t⟩ := S.store (s' := { s with heap := h', toks := s.toks + 1 }) hfn hl hs this rfl rfl i
    exact hQ _ S' t fun b o n _ e => hs.extBut b o n e
  · obtain ⟨a, ha⟩ := Option.isSome_iff_exists.mp hs
    refine e0a4 (S.cel x a ha) fun _ _ _ rq25 => ?_; obtain ⟨ov, hc⟩ := rq25
    refine wpAny_storeName_cell hk hl ha hc fun h' hn hs => ?_
    obtain ⟨S', t⟩ := S.storeC (s' := { s with heap := h' }) hfn hl ha hs hn rfl rfl i
    exact hQ _ S' t fun b o _ n e => hs.extBut b o (n x a ha) e
theorem Ex_assign {x : Str} {p q : Pos} {e : Expr} {rest : List Stmt} {Q : Ko} (h : Ev c f e m H (fun d H' => Ex c f rest (m.set x d) H' Q) (fun C H' => Q (.exc C) m H'))
    (hx : (f.env.kindOf x = some .local) ∨ (f.env.kindOf x = some .cell ∧ (f.env.cells.lookup x).isSome = true)) (hfn : f.fn = true := by rfl) (hk : f.env.scope.kind = .function := by rfl)
    (hs : swapsWith e (some (.Name x p)) q.line f.env = pure false := by rfl) : Ex c f (.Assign [.Name x p] e q :: rest) m H Q := .mk fun s S => by
  refine wpAny_execs_cons (wpAny_Assign_Name (wpAny_mono (h s S) (fun v s₁ z => ?_) fun x s' z => z.ex fun _ _ y => y) hs)
  obtain ⟨t, d, H', i, S₁, q⟩ := z
  exact store_ok S₁ i hx hfn hk fun s' S' _ _ => q s' S'
theorem Ex_ret {e : Expr} {p : Pos} {rest : List Stmt} {Q : Ko} (h : Ev c f e m H (fun d H' => Q (.ret d) m H') (fun C H' => Q (.exc C) m H')) : Ex c f (.Return (some e) p :: rest) m H Q := .mk fun s S => by
  refine wpAny_execs_cons (wpAny_Return_some (wpAny_mono (h s S) (fun v s₁ z => ?_) fun x s' z => z.ex fun _ _ y => y))
  obtain ⟨t, d, H', i, S₁, q⟩ := z
  exact ⟨_, m, H', ⟨d, rfl, i⟩, S₁, q⟩
theorem Ex_expr {e : Expr} {p : Pos} {rest : List Stmt} {Q : Ko} (h : Ev c f e m H (fun d H' => (∀ h v, Is h d v → ∀ a, v ≠ .ref a) ∧ Ex c f rest m H' Q) (fun C H' => Q (.exc C) m H'))
    (hi : interactive f.env = false := by rfl) (hs : swapsWith e none p.line f.env = pure false := by rfl) : Ex c f (.Expr e p :: rest) m H Q := .mk fun s S => by
  refine wpAny_execs_cons (wpAny_Expr (wpAny_mono (h s S) (fun v s₁ z => ?_) fun x s' z => z.ex fun _ _ y => y) hi hs)
  obtain ⟨t, d, H', i, S₁, n, q⟩ := z
  have := n _ v i
  cases v <;> first | exact q s₁ S₁ | exact absurd rfl (this _)
end
end Mine
set_option maxRecDepth 100000
set_option linter.unusedVariables false
namespace Mine
open PySem
abbrev mkF (A : Around) (L : Addr) (fd : FuncData) (fa : Addr) (frs : List Env) (hE : Heap) (H : AH) : Fx :=
  { A := A, env := callEnvC fd L fa, frs := callEnvC fd L fa :: frs, hE := hE, HE := H, keep := [], fn := true }
def locOf (names : List Str) (args : List V) : Loc := fun x => (names.zip args).lookup x
theorem lookup_mem {α : Type} : ∀ {l : List (Str × α)} {x : Str} {a : α}, l.lookup x = some a → (x, a) ∈ l
  | [], _, _, e => by cases e
  | (y, b) :: r, x, a, e => by
    rw [List.lookup_cons] at e
    by_cases q : x == y
    · simp only [q] at e; cases e; rw [beq_iff_eq.mp q]; exact .head _
    · simp only [q] at e; exact .tail _ (lookup_mem e)
theorem zip_is {h : Heap} : ∀ {names : List Str} {ds : List V} {vs : List Value} {x : Str} {d : V}, IsAll h ds vs → (names.zip ds).lookup x = some d → ∃ v, (x, v) ∈ names.zip vs ∧ Is h d v
  | [], _, _, _, _, _, e => by cases e
  | n :: ns, [], _, _, _, _, e => by cases e
  | n :: ns, d :: ds, _, x, d', i, e => by
    simp only [IsAll] at i
    refine e2a3 i fun v r rq26 i1 i2 => ?_; clear i; obtain rfl := rq26
    rw [List.zip_cons_cons, List.lookup_cons] at e
    by_cases q : x == n
    · simp only [q] at e; cases e; exact ⟨v, by rw [beq_iff_eq.mp q]; exact .head _, i1⟩
    · simp only [q] at e
      refine e1a2 (zip_is i2 e) fun w a b => ?_
      exact ⟨w, .tail _ a, b⟩
theorem bindL_out {K : Str → Option NameKind} : ∀ {binds : List (Str × Value)} {m0 : Str → Option Value} {x : Str}, x ∉ binds.map (·.1) → bindL K binds m0 x = m0 x
  | [], _, _, _ => rfl
  | (n, v) :: r, m0, x, h => by
    simp only [List.map_cons, List.mem_cons, not_or] at h
    unfold bindL
    rw [bindL_out h.2]
    split
    · exact if_neg h.1
    · rfl
theorem bindL_in {K : Str → Option NameKind} : ∀ {binds : List (Str × Value)} {m0 : Str → Option Value} {x : Str} {v : Value}, (binds.map (·.1)).Nodup → (x, v) ∈ binds → K x = some .local → bindL K binds m0 x = some v
  | (n, u) :: r, m0, x, v, nd, h, hk => by
    rw [List.map_cons, List.nodup_cons] at nd
    unfold bindL
    cases h with
    | head => rw [bindL_out nd.1, if_pos hk, if_pos rfl]
    | tail _ h => exact bindL_in nd.2 h hk
theorem bindC_out {K : Str → Option NameKind} : ∀ {binds : List (Str × Value)} {m0 : Str → Option Value} {x : Str}, x ∉ binds.map (·.1) → bindC K binds m0 x = m0 x
  | [], _, _, _ => rfl
  | (n, v) :: r, m0, x, h => by
    simp only [List.map_cons, List.mem_cons, not_or] at h
    unfold bindC
    rw [bindC_out h.2]
    split
    · rfl
    · exact if_neg h.1
theorem bindC_in {K : Str → Option NameKind} : ∀ {binds : List (Str × Value)} {m0 : Str → Option Value} {x : Str} {v : Value}, (binds.map (·.1)).Nodup → (x, v) ∈ binds → K x ≠ some .local → bindC K binds m0 x = some v
  | (n, u) :: r, m0, x, v, nd, h, hk => by
    rw [List.map_cons, List.nodup_cons] at nd
    unfold bindC
    cases h with
    | head => rw [bindC_out nd.1, if_neg hk, if_pos rfl]
    | tail _ h => exact bindC_in nd.2 h hk
theorem map_fst_zip {α β : Type} : ∀ {l : List α} {r : List β}, l.length = r.length → (l.zip r).map (·.1) = l
  | [], [], _ => rfl
  | a :: l, b :: r, h => by simp only [List.zip_cons_cons, List.map_cons]; rw [map_fst_zip (by simpa using h)]
  | [], _ :: _, h => by simp at h
  | _ :: _, [], h => by simp at h
theorem pair_apart : ∀ {l : List (Str × Addr)} {x y : Str} {a : Addr}, l.Pairwise (fun x y => x.2 ≠ y.2) → (x, a) ∈ l → (y, a) ∈ l → x = y
  | (n, b) :: r, x, y, a, p, hx, hy => by
    rw [List.pairwise_cons] at p
    cases hx with
    | head => cases hy with
      | head => rfl
      | tail _ hy => exact absurd rfl (p.1 (y, b) hy)
    | tail _ hx => cases hy with
      | head => exact absurd rfl (p.1 (x, b) hx)
      | tail _ hy => exact pair_apart p.2 hx hy
theorem Fn_defR {c : Cx} {k : Nat} {fa : Addr} {o : Obj} {fd : FuncData} {body : List Stmt} {names : List Str} {args : List V} {H : AH} {Q : V → AH → Prop} {X : Value → AH → Prop}
    (hlim : c.base.NoLimit) (ho : c.base.get? fa = some o) (hd : o.data = .func fd) (hbody : fd.body = .stmts body) (hcode : c.base.CodeRec fd.code fd.qualname) (hclo : fd.closure = [])
    (hbind : ∀ vs, vs.length = args.length → bindArgs fd ⟨vs, []⟩ = pure (names.zip vs)) (hlen : names.length = args.length) (hnd : names.Nodup)
    (hkind : ∀ n, ∀ x ∈ names, fd.scope.names.lookup x = some .local ∨ (fd.scope.names.lookup x = some .cell ∧ ((cellsFrom n fd.scope.names []).lookup x).isSome = true))
    (hco : fd.scope.isCoroutine = false) (hgen : fd.scope.isGenerator = false) (hk : fd.scope.kind = .function)
    (h : ∀ A L frs hE, Rep c H hE → Room k A → FrOk (mkF A L fd fa frs hE H) → Ex c (mkF A L fd fa frs hE H) body (locOf names args) H (Fin Q X)) : Fn c (k + 1) (.ref fa) args H Q X := by
  refine .mk ?_
  intro A frs s vs R hf E i
  have hvl := i.length
  have hzl : (names.zip vs).map (·.1) = names := map_fst_zip (hlen.trans hvl.symm)
  refine codeAny_call_cells (by have := R.depth; exact om4 this) (E.base _ _ ho) hd (hlim.keeps E.base) (hcode.keeps E.base) hbody (hbind vs hvl) hclo
    (fun x hx => hkind _ x.1 (by rw [← hzl]; exact List.mem_map_of_mem hx)) (fun s₁ x => ?_) hco hgen hk
  -- the frame
  have hL : s.heap.get? s.heap.objs.size = none := by
    cases q : s.heap.get? s.heap.objs.size with
    | none => rfl
    | some o => exact absurd (Heap.lt_size q) (Nat.lt_irrefl _)
  have hfree : ∀ a, s.heap.objs.size ≤ a → s.heap.get? a = none := fun a q => by
    cases z : s.heap.get? a with
    | none => rfl
    | some o => exact absurd (Heap.lt_size z) (Nat.not_lt.mpr q)
  have hH : ∀ a, s.heap.get? a = none → H a = none := fun a q => by
    cases z : H a with
    | none => rfl
    | some y => refine e1a2 ((E.rep a y z).obj) fun o' g _ => ?_; rw [q] at g; cases g
  refine e2a2 (x.done) fun h₁ tk rq27 _ => ?_; obtain rfl := rq27
  have g : Grow s.heap h₁ := x.toInCall.keep
  have ix := i.tk g.tk
  have hff : h₁.FunFrames c.base (callEnvC fd s.heap.objs.size fa :: frs) := by
    refine .cons (by show fd.scope.kind ≠ .module; rw [hk]; decide) rfl x.toInCall.ns ?_ (E.ff.of_keeps fun b o e _ => ⟨o, g b o e, rfl⟩)
    show c.base.get? s.heap.objs.size = none
    cases q : c.base.get? s.heap.objs.size with
    | none => rfl
    | some o =>
      have h2 : s.heap.get? s.heap.objs.size = some o := E.base _ _ q
      rw [hL] at h2; cases h2
  have S : St c (mkF (A.deeper (callEnvC fd s.heap.objs.size fa)) s.heap.objs.size fd fa frs s.heap H) (locOf names args) H { s with heap := h₁, toks := tk } := by
    refine ⟨fun a y e => (E.rep a y e).keep g.tk (fun o => g a o), fun b o e => g b o (E.base b o e), E.base, E.hb, fun a o e q => ⟨fun _ => g a o e, fun _ => ⟨o.slots, g a o e⟩⟩, fun a o e q => q, fun a q => q,
      ⟨_, x.toInCall.ns, fun y d e => ?_⟩, (fun _ => hL), hH _ hL, fun y a e => ?_, fun y z a ey ez => pair_apart x.apart (lookup_mem ey) (lookup_mem ez), hff, fun a q => ?_, E.big, (fun p hp => nomatch hp), E.gens, E.os⟩
    · refine e1a2 (zip_is ix e) fun v hm iv => ?_
      have hy : y ∈ names := by rw [← hzl]; exact List.mem_map_of_mem (f := (·.1)) hm
      rcases hkind (s.heap.objs.size + 1) y hy with q | ⟨q, qs⟩
      · exact .inl ⟨q, v, bindL_in (by rw [hzl]; exact hnd) hm q, iv⟩
      · obtain ⟨a, ha⟩ := Option.isSome_iff_exists.mp qs
        have hc := x.cell y a ha
        rw [bindC_in (v := v) (by rw [hzl]; exact hnd) hm (by show fd.scope.names.lookup y ≠ _; rw [q]; exact fun z => nomatch z)] at hc
        exact .inr ⟨.inl q, a, v, ha, hc, iv⟩
    · have hab : s.heap.objs.size < a := x.above y a (lookup_mem e)
      exact ⟨hH a (hfree a (Nat.le_of_lt hab)), Nat.ne_of_gt hab, fun _ _ => hfree a (Nat.le_of_lt hab), _, x.cell y a e⟩
    · have q' : a ∈ s.heap.objs.size :: frs.filterMap (·.frame) := by simpa only [Fx.fs, mkF, callEnvC, newEnv, List.filterMap_cons] using q
      cases q' with
      | head => exact hH _ hL
      | tail _ q' => exact E.fh a q'
  have O : FrOk (mkF (A.deeper (callEnvC fd s.heap.objs.size fa)) s.heap.objs.size fd fa frs s.heap H) := ⟨Around.frames_deeper hf, ⟨_, rfl⟩, rfl, hk⟩
  have lft : ∀ {m' : Loc} {H' : AH} {s' : Shared}, St c (mkF (A.deeper (callEnvC fd s.heap.objs.size fa)) s.heap.objs.size fd fa frs s.heap H) m' H' s' → Lft c frs H s H' s' := fun S' => by
    refine ⟨S'.rep, fun a o e q => ?_, S'.dom, S'.up, S'.big, S'.gens, S'.os⟩
    have ne : a ≠ s.heap.objs.size := fun z => by rw [z, hL] at e; cases e
    have fsx : ∀ b, b ∈ (mkF (A.deeper (callEnvC fd s.heap.objs.size fa)) s.heap.objs.size fd fa frs s.heap H).fs ↔ b = s.heap.objs.size ∨ b ∈ frs.filterMap (·.frame) := fun b => by
      simp only [Fx.fs, callEnvC, newEnv, List.filterMap_cons, List.mem_cons]
    obtain ⟨k1, k2⟩ := S'.off a o e q
    exact ⟨fun n => k1 fun z => ((fsx a).mp z).elim ne n, fun n => k2 ((fsx a).mpr (.inr n))⟩
  refine wpAny_mono (h _ _ _ _ E.rep (R.deeper _) O _ S) (fun fl s' z => ?_) fun y s' z => ?_
  · refine e3a3 z fun o' m' H' fi S' q => ?_; clear z
    refine ⟨H', lft S', ?_⟩
    cases fl with
    | next => cases fi; exact ⟨.none, rfl, q⟩
    | brk => cases fi; exact q.elim
    | cont => cases fi; exact q.elim
    | ret v => refine e1a2 fi fun d rq28 iv => ?_; clear fi; obtain rfl := rq28; exact ⟨d, iv, q⟩
  · refine e4a4 z fun C m' H' e rq29 S' F q => ?_; clear z; obtain rfl := rq29
    refine leaving_ok O S' F fun s'' S'' F'' => ⟨H', lft S'', C, e, rfl, ?_, q⟩
    obtain ⟨n, oe, vs, T, oT, ts, a1, a2, a3, a4, a5, a6, r⟩ := F''
    exact ⟨n.1, oe, vs, T, oT, ts, a1, a2, a3, a4, a5, a6.1, r⟩
theorem Fn_def {c : Cx} {k : Nat} {fa : Addr} {o : Obj} {fd : FuncData} {body : List Stmt} {names : List Str} {args : List V} {H : AH} {Q : V → AH → Prop} {X : Value → AH → Prop}
    (hlim : c.base.NoLimit) (ho : c.base.get? fa = some o) (hd : o.data = .func fd) (hbody : fd.body = .stmts body) (hcode : c.base.CodeRec fd.code fd.qualname) (hclo : fd.closure = [])
    (hbind : ∀ vs, vs.length = args.length → bindArgs fd ⟨vs, []⟩ = pure (names.zip vs)) (hlen : names.length = args.length) (hnd : names.Nodup)
    (hkind : ∀ n, ∀ x ∈ names, fd.scope.names.lookup x = some .local ∨ (fd.scope.names.lookup x = some .cell ∧ ((cellsFrom n fd.scope.names []).lookup x).isSome = true))
    (hco : fd.scope.isCoroutine = false) (hgen : fd.scope.isGenerator = false) (hk : fd.scope.kind = .function)
    (h : ∀ A L frs hE, Room k A → FrOk (mkF A L fd fa frs hE H) → Ex c (mkF A L fd fa frs hE H) body (locOf names args) H (Fin Q X)) : Fn c (k + 1) (.ref fa) args H Q X :=
  Fn_defR hlim ho hd hbody hcode hclo hbind hlen hnd hkind hco hgen hk fun A L frs hE _ => h A L frs hE
def GN (c : Cx) (x : Str) (v : Value) : Prop := c.mg x = some v ∨ (c.mg x = none ∧ c.mb x = some v)
structure CxOk (c : Cx) : Prop where
  g : c.base.Ns mainGlobals c.mg
  b : c.base.Ns builtinsNs c.mb
  lim : c.base.NoLimit
section
variable {c : Cx} {f : Fx} {m : Loc} {H : AH} {X : Value → AH → Prop}
theorem Ev_glob {x : Str} {p : Pos} {v : Value} {Q : V → AH → Prop} (K : CxOk c) (hx : GN c x v) (q : Q (.raw v) H) (hg : f.env.globals = mainGlobals := by rfl) (hb : f.env.builtins = builtinsNs := by rfl)
    (hk : f.env.scope.kind = .function := by rfl) (hn : f.env.kindOf x = some .globalImplicit := by rfl) (hd : (x == ("__debug__" : Str)) = false := by decide) : Ev c f (.Name x p) m H Q X := .mk fun s S => by
  refine Calls.Name_function_global hk hn ?_ hd
  rcases hx with e | ⟨e1, e2⟩
  · exact Calls.loadGlobal_global (by rw [hg]; exact K.g.keeps S.base) e ⟨Tk.refl _, .raw v, H, rfl, S, q⟩
  · exact Calls.loadGlobal_builtin (by rw [hg]; exact K.g.keeps S.base) e1 (by rw [hb]; exact K.b.keeps S.base) e2 ⟨Tk.refl _, .raw v, H, rfl, S, q⟩
structure Evs (c : Cx) (f : Fx) (es : List Expr) (p : Pos) (m : Loc) (H : AH) (Q : List V → AH → Prop) (X : Value → AH → Prop) : Prop where
  mk ::
  run :
    ∀ s, St c f m H s → wpAny c.M f.A (spliced (backTo p (starEach es f.env))) (fun vs s' => Tk s.heap s'.heap ∧ ∃ ds H', IsAll s'.heap ds vs ∧ St c f m H' s' ∧ Q ds H') (Thr c f m X) s
instance {c : Cx} {f : Fx} {es : List Expr} {p : Pos} {m : Loc} {H : AH} {Q : List V → AH → Prop} {X : Value → AH → Prop} : CoeFun (Evs c f es p m H Q X) (fun _ =>
    ∀ s, St c f m H s → wpAny c.M f.A (spliced (backTo p (starEach es f.env))) (fun vs s' => Tk s.heap s'.heap ∧ ∃ ds H', IsAll s'.heap ds vs ∧ St c f m H' s' ∧ Q ds H') (Thr c f m X) s) := ⟨Evs.run⟩
theorem Evs_nil {p : Pos} {Q : List V → AH → Prop} (q : Q [] H) : Evs c f [] p m H Q X := .mk fun s S => wpAny_items_nil ⟨Tk.refl _, [], H, isAll_nil _, S, q⟩
theorem Evs_cons {p : Pos} {e : Expr} {es : List Expr} {Q : List V → AH → Prop} (h : Ev c f e m H (fun d H₁ => Evs c f es p m H₁ (fun ds H₂ => Q (d :: ds) H₂) X) X)
    (he : starEach (e :: es) f.env = (false, eval e f.env) :: starEach es f.env := by rfl) : Evs c f (e :: es) p m H Q X := .mk fun s S =>
  wpAny_items_cons (wpAny_mono (h s S) (fun v s₁ ⟨t₁, d, H₁, i₁, S₁, q₁⟩ => wpAny_mono (q₁ s₁ S₁) (fun vs s₂ ⟨t₂, ds, H₂, i₂, S₂, q₂⟩ => ⟨t₁.trans t₂, d :: ds, H₂, isAll_cons (i₁.tk t₂) i₂, S₂, q₂⟩) fun _ _ x => x) fun _ _ x => x) he
theorem Ev_call {x : Str} {p₁ p : Pos} {e : Expr} {es : List Expr} {k : Nat} {fa : Addr} {o : Obj} {fd : FuncData} {Q : V → AH → Prop} (ho : c.base.get? fa = some o) (hd : o.data = .func fd) (R : Room k f.A) (hf : f.A.frames = some f.frs)
    (h : Ev c f (.Name x p₁) m H (fun d H' => d = .ref fa ∧ Evs c f (e :: es) p m H' (fun ds H'' => Fn c k (.ref fa) ds H'' Q X) X) X)
    (he : starEach (e :: es) f.env = (false, eval e f.env) :: starEach es f.env := by rfl) : Ev c f (.Call (.Name x p₁) (e :: es) [] p) m H Q X := .mk fun s S => by
  refine PyProof.Rows.Call_ (wpAny_mono (h s S) (fun v s₁ z => ?_) fun _ _ x => x)
  obtain ⟨t₁, d, H₁, i₁, S₁, rfl, q₁⟩ := z
  obtain rfl : v = .ref fa := i₁
  refine PyProof.Rows.callWith_def hd (wpAny_mono (q₁ s₁ S₁) (fun vs s₂ z => ?_) fun _ _ x => x) he
  obtain ⟨t₂, ds, H₂, i₂, S₂, q₂⟩ := z
  exact ⟨S₂.base _ _ ho, wpAny_mono (q₂.op R hf S₂ i₂) (fun v s₃ ⟨t₃, r⟩ => ⟨t₁.trans (t₂.trans t₃), r⟩) fun _ _ x => x⟩
end
end Mine
set_option maxRecDepth 100000
set_option linter.unusedVariables false
namespace Mine
open PySem
section
variable {c : Cx} {f : Fx} {m : Loc} {H : AH}
structure Ts (c : Cx) (f : Fx) (e : Expr) (m : Loc) (H : AH) (Q : Bool → AH → Prop) (X : Value → AH → Prop) : Prop where
  mk ::
  run :
    ∀ s, St c f m H s → wpAny c.M f.A (isTrue e f.env (eval e f.env)) (fun b s' => ∃ H', St c f m H' s' ∧ Q b H') (Thr c f m X) s
instance {c : Cx} {f : Fx} {e : Expr} {m : Loc} {H : AH} {Q : Bool → AH → Prop} {X : Value → AH → Prop} : CoeFun (Ts c f e m H Q X) (fun _ =>
    ∀ s, St c f m H s → wpAny c.M f.A (isTrue e f.env (eval e f.env)) (fun b s' => ∃ H', St c f m H' s' ∧ Q b H') (Thr c f m X) s) := ⟨Ts.run⟩
structure Tl (c : Cx) (f : Fx) (op : BoolOp) (es : List Expr) (m : Loc) (H : AH) (Q : Bool → AH → Prop) (X : Value → AH → Prop) : Prop where
  mk ::
  run :
    ∀ s, St c f m H s → wpAny c.M f.A (allTrue op es f.env) (fun b s' => ∃ H', St c f m H' s' ∧ Q b H') (Thr c f m X) s
instance {c : Cx} {f : Fx} {op : BoolOp} {es : List Expr} {m : Loc} {H : AH} {Q : Bool → AH → Prop} {X : Value → AH → Prop} : CoeFun (Tl c f op es m H Q X) (fun _ =>
    ∀ s, St c f m H s → wpAny c.M f.A (allTrue op es f.env) (fun b s' => ∃ H', St c f m H' s' ∧ Q b H') (Thr c f m X) s) := ⟨Tl.run⟩
variable {Q : Bool → AH → Prop} {X : Value → AH → Prop}
theorem Ts.mono {e : Expr} {Q' : Bool → AH → Prop} {X' : Value → AH → Prop} (h : Ts c f e m H Q X) (k : ∀ b H, Q b H → Q' b H) (kx : ∀ C H, X C H → X' C H) : Ts c f e m H Q' X' :=
  .mk fun s S => wpAny_mono (h s S) (fun _ _ ⟨H', S', q⟩ => ⟨H', S', k _ _ q⟩) fun _ _ g => g.mono kx
theorem Ts_cmp {l r : Expr} {op : CmpOp} {p : Pos} (h : Ev c f l m H (fun d₁ H₁ => Ev c f r m H₁ (fun d₂ H₂ => Op2 c f (compareOp op) d₁ d₂ m H₂ (fun d H₃ => ∃ b, d = .bool b ∧ Q b H₃) X) X) X)
    (hm : behindInMarks op r = false := by with_unfolding_all rfl) : Ts c f (.Compare l [op] [r] p) m H Q X := .mk fun s S =>
  wpAny_isTrue_Compare1 (wpAny_mono (h s S) (fun v₁ s₁ ⟨t₁, d₁, H₁, i₁, S₁, q₁⟩ => wpAny_mono (q₁ s₁ S₁) (fun v₂ s₂ ⟨t₂, d₂, H₂, i₂, S₂, q₂⟩ =>
    wpAny_mono (q₂ s₂ v₁ v₂ S₂ (i₁.tk t₂) i₂) (fun v s₃ ⟨t₃, d, H₃, i₃, S₃, b, e, q₃⟩ => by
      subst e; obtain rfl : v = .bool b := i₃; exact wpAny_truthy_bool ⟨H₃, S₃, q₃⟩) fun _ _ x => x) fun _ _ x => x) fun _ _ x => x) hm
theorem Ts_not {e : Expr} {p : Pos} (h : Ts c f e m H (fun b H' => Q (!b) H') X) : Ts c f (.UnaryOp .Not e p) m H Q X := .mk fun s S =>
  wpAny_isTrue_Not (wpAny_mono (h s S) (fun b s' z => z) fun _ _ x => x)
theorem Ts_bool {op : BoolOp} {es : List Expr} {p : Pos} (h : Tl c f op es m H Q X) : Ts c f (.BoolOp op es p) m H Q X := .mk fun s S => wpAny_isTrue_BoolOp (h s S)
theorem Tl_and_nil (q : Q true H) : Tl c f .And [] m H Q X := .mk fun s S => wpAny_allTrue_And_nil ⟨H, S, q⟩
theorem Tl_or_nil (q : Q false H) : Tl c f .Or [] m H Q X := .mk fun s S => wpAny_allTrue_Or_nil ⟨H, S, q⟩
theorem Tl_and {e : Expr} {es : List Expr} (h : Ts c f e m H (fun b H' => (b = true → Tl c f .And es m H' Q X) ∧ (b = false → Q false H')) X) : Tl c f .And (e :: es) m H Q X := .mk fun s S =>
  wpAny_allTrue_And_cons (wpAny_mono (h s S) (fun b s₁ ⟨H₁, S₁, q₁, q₂⟩ => by
    cases b with
    | true => exact q₁ rfl s₁ S₁
    | false => exact ⟨H₁, S₁, q₂ rfl⟩) fun _ _ x => x)
theorem Tl_or {e : Expr} {es : List Expr} (h : Ts c f e m H (fun b H' => (b = false → Tl c f .Or es m H' Q X) ∧ (b = true → Q true H')) X) : Tl c f .Or (e :: es) m H Q X := .mk fun s S =>
  wpAny_allTrue_Or_cons (wpAny_mono (h s S) (fun b s₁ ⟨H₁, S₁, q₁, q₂⟩ => by
    cases b with
    | false => exact q₁ rfl s₁ S₁
    | true => exact ⟨H₁, S₁, q₂ rfl⟩) fun _ _ x => x)
theorem Ts_val {e : Expr} (h : Ev c f e m H (fun d H' => ∃ b, d = .bool b ∧ Q b H') X)
    (he : ∀ w, isTrue e f.env w = (do let v ← w; standAt e.pos; holding [v] (truthy v)) := by intro _; rfl) : Ts c f e m H Q X := .mk fun s S =>
  wpAny_isTrue_value (wpAny_mono (h s S) (fun v s₁ ⟨t₁, d, H₁, i₁, S₁, b, e, q₁⟩ => by
    subst e; obtain rfl : v = .bool b := i₁; exact wpAny_truthy_bool ⟨H₁, S₁, q₁⟩) fun _ _ x => x) (he _)
def Tp (c : Cx) (f : Fx) (e : Expr) (m : Loc) (H : AH) (P : Prop) : Prop := Ts c f e m H (fun b H' => H' = H ∧ (b = true ↔ P)) (fun _ _ => False)
theorem wp_execs_append {M : Model} {Γ : Ctx} {env : Env} {E : Value → Pos → Shared → Prop} : ∀ (a b : List Stmt) (Q : Flow → Pos → Shared → Prop) (p : Pos) (s : Shared),
    Sem.wp M Γ (execs (a ++ b) env) Q E p s = Sem.wp M Γ (execs a env) (fun fl p' s' => match fl with | .next => Sem.wp M Γ (execs b env) Q E p' s' | fl => Q fl p' s') E p s
  | [], b, Q, p, s => rfl
  | st :: a, b, Q, p, s => by
    rw [List.cons_append, execs_cons, execs_cons, Sem.wp_bind', Sem.wp_bind']
    congr 1
    funext fl p' s'
    cases fl <;> first | exact wp_execs_append a b Q p' s' | rfl
theorem wpAny_execs_of_append {M : Model} {A : Around} {env : Env} {a b : List Stmt} {Q : Flow → Shared → Prop} {E : Value → Shared → Prop} {s : Shared} (Γ : Ctx) (p : Pos) (hΓ : Γ.In A) (h : wpAny M A (execs (a ++ b) env) Q E s) :
    Sem.wp M Γ (execs a env) (fun fl p' s' => match fl with | .next => Sem.wp M Γ (execs b env) (fun x _ s' => Q x s') (fun e _ s' => E e s') p' s' | fl => Q fl s') (fun e _ s' => E e s') p s := by
  have := h Γ p hΓ
  rw [wp_execs_append] at this
  exact this
theorem Ex_if {t : Expr} {body orelse rest : List Stmt} {p : Pos} {Q : Ko} (h : Ts c f t m H (fun b H' => (b = true → Ex c f (body ++ rest) m H' Q) ∧ (b = false → Ex c f (orelse ++ rest) m H' Q)) (fun C H' => Q (.exc C) m H')) :
    Ex c f (.If t body orelse p :: rest) m H Q := .mk fun s S Γ pp hΓ => by
  rw [execs_cons, Sem.wp_bind', exec_If]
  rw [Sem.wp_bind', Sem.wp_cmd_standAt, Sem.wp_bind']
  refine Sem.wp_mono c.M Γ _ (fun b p₂ s₂ h₂ => ?_) (fun x _ s' h' => ?_) _ _ (h s S Γ _ hΓ)
  · refine e1a3 h₂ fun H' S' q₁ q₂ => ?_; clear h₂
    cases b with
    | true =>
      refine Sem.wp_mono c.M Γ _ (fun fl p₃ s₃ h₃ => ?_) (fun _ _ _ h' => h') _ _ (wpAny_execs_of_append Γ p₂ hΓ (q₁ rfl s₂ S'))
      cases fl <;> exact h₃
    | false =>
      refine Sem.wp_mono c.M Γ _ (fun fl p₃ s₃ h₃ => ?_) (fun _ _ _ h' => h') _ _ (wpAny_execs_of_append Γ p₂ hΓ (q₂ rfl s₂ S'))
      cases fl <;> exact h₃
  · exact Thr.ex h' fun _ _ z => z
theorem Ex_ifp {t : Expr} {body orelse rest : List Stmt} {p : Pos} {Q : Ko} {P : Prop} (h : Tp c f t m H P) (h1 : P → Ex c f (body ++ rest) m H Q) (h2 : ¬ P → Ex c f (orelse ++ rest) m H Q) : Ex c f (.If t body orelse p :: rest) m H Q :=
  Ex_if (Ts.mono h (fun b H' ⟨e, q⟩ => by subst e; exact ⟨fun z => h1 (q.mp z), fun z => h2 fun y => by rw [q.mpr y] at z; cases z⟩) fun _ _ z => z.elim)
theorem Ex_while (O : FrOk f) {t : Expr} {body rest : List Stmt} {p : Pos} {Q : Ko} (I : Nat → Loc → AH → Prop) (n : Nat) (h0 : I n m H)
    (turn : ∀ n m' H', I n m' H' → Ts c f t m' H' (fun b H'' => (b = true → Ex c f body m' H'' (fun o m₂ H₂ => match o with | .next => ∃ k, k < n ∧ I k m₂ H₂ | .cont => ∃ k, k < n ∧ I k m₂ H₂ | .brk => Ex c f rest m₂ H₂ Q | o => Q o m₂ H₂)) ∧
      (b = false → Ex c f rest m' H'' Q)) (fun C H'' => Q (.exc C) m' H'')) : Ex c f (.While t body [] p :: rest) m H Q := .mk fun s S => by
  refine wpAny_execs_cons (wpAny_While (codeAny_whileLoop (fun n s => ∃ m' H', St c f m' H' s ∧ I n m' H') (fun n s₁ z => ?_) n ⟨m, H, S, h0⟩))
  refine e2a2 z fun m₁ H₁ S₁ i₁ => ?_; clear z
  have thr : ∀ {Q' : Ko} {x : Value} {s' : Shared}, (∀ C m' H', Q' (.exc C) m' H' → Q (.exc C) m' H') → ExTh c f Q' x s' → notedBy c.M f.A f.env (fun e s' => cameBackBy c.M f.A f.env (ExTh c f Q) e s') x s' := fun k z => by
    refine e4a4 z fun C m' H' e rq30 S' F q => ?_; clear z; obtain rfl := rq30
    exact noted_ok O S' F fun s'' S'' F'' => cameBack_ok O S'' F'' fun s₃ S₃ F₃ => ⟨C, m', H', e, rfl, S₃, F₃, k C m' H' q⟩
  refine wpAny_mono (turn n m₁ H₁ i₁ s₁ S₁) (fun b s₂ z => ?_) fun x s' z => thr (Q' := Q) (fun _ _ _ y => y) (z.ex fun _ _ y => y)
  refine e1a3 z fun H₂ S₂ q₁ q₂ => ?_; clear z
  cases b with
  | true =>
    refine wpAny_mono (q₁ rfl s₂ S₂) (fun fl s₃ z => ?_) fun x s' z => thr (fun _ _ _ y => y) z
    refine e3a3 z fun o m₃ H₃ fi S₃ q₃ => ?_; clear z
    cases fl with
    | next => cases fi; refine e1a2 q₃ fun k hk i => ?_; clear q₃; exact ⟨k, hk, m₃, H₃, S₃, i⟩
    | cont => cases fi; refine e1a2 q₃ fun k hk i => ?_; clear q₃; exact ⟨k, hk, m₃, H₃, S₃, i⟩
    | brk => cases fi; exact q₃ s₃ S₃
    | ret v => refine e1a2 fi fun d rq31 i => ?_; clear fi; obtain rfl := rq31; exact ⟨_, m₃, H₃, ⟨d, rfl, i⟩, S₃, q₃⟩
  | false => exact wpAny_execs_nil (q₂ rfl s₂ S₂)
end
end Mine
set_option maxRecDepth 100000
set_option linter.unusedVariables false
namespace Mine
open PySem
abbrev Fx.kept (f : Fx) (kp : List (Addr × Obj)) : Fx := { f with keep := kp }
def ItrOk (c : Cx) (A : Around) (I : Addr) (ds : List V) (tr : List Addr) (H₁ : AH) (h : Heap) : Prop :=
  ∃ fp P St', Walks c.prog c.w A I fp [I] ds.length P St' ∧ St' 0 h ∧ (∀ i h, St' i h → ∃ o vs, h.get? I = some o ∧ o.data = .fields vs) ∧
    (∀ b ∈ fp, b = I ∨ b ∈ tr ∨ ∃ o, c.base.get? b = some o) ∧ (∀ b ∈ tr, ∃ x, H₁ b = some x) ∧
    (∀ i v d H' h, P i v → ds[i]? = some d → Rep c H' h → c.base.StaysIn h → (∀ b ∈ tr, H' b = H₁ b) → Is h d v)
structure EvIt (c : Cx) (f : Fx) (iter : Expr) (m : Loc) (H : AH) (Q : List V → List Addr → AH → Prop) (X : Value → AH → Prop) : Prop where
  mk ::
  run :
    ∀ s, St c f m H s → wpAny c.M f.A (eval iter f.env) (fun xv s₁ => wpAny c.M f.A (pyIter xv) (fun it s₂ => ∃ I ds tr H₁, it = .ref I ∧ Tk s.heap s₂.heap ∧ St c f m H₁ s₂ ∧ f.hE.get? I = none ∧ (∀ p ∈ f.keep, I ≠ p.1) ∧ ItrOk c f.A I ds tr H₁ s₂.heap ∧ Q ds tr H₁) (Thr c f m X) s₁) (Thr c f m X) s
instance {c : Cx} {f : Fx} {iter : Expr} {m : Loc} {H : AH} {Q : List V → List Addr → AH → Prop} {X : Value → AH → Prop} : CoeFun (EvIt c f iter m H Q X) (fun _ =>
    ∀ s, St c f m H s → wpAny c.M f.A (eval iter f.env) (fun xv s₁ => wpAny c.M f.A (pyIter xv) (fun it s₂ => ∃ I ds tr H₁, it = .ref I ∧ Tk s.heap s₂.heap ∧ St c f m H₁ s₂ ∧ f.hE.get? I = none ∧ (∀ p ∈ f.keep, I ≠ p.1) ∧ ItrOk c f.A I ds tr H₁ s₂.heap ∧ Q ds tr H₁) (Thr c f m X) s₁) (Thr c f m X) s) := ⟨EvIt.run⟩
section
variable {c : Cx} {f : Fx} {m : Loc} {H : AH}
theorem FrOk.kept (O : FrOk f) (kp : List (Addr × Obj)) : FrOk (f.kept kp) := ⟨O.frames, O.head, O.frame, O.kind⟩
theorem St.toKept {s : Shared} (S : St c f m H s) {kp : List (Addr × Obj)} (k : ∀ p ∈ kp, s.heap.get? p.1 = some p.2 ∧ ∃ vs, p.2.data = .fields vs) : St c (f.kept kp) m H s :=
  ⟨S.rep, S.base, S.bE, S.hb, S.off, S.dom, S.up, S.loc, S.newL, S.trL, S.cel, S.apart, S.ff, S.fh, S.big, k, S.gens, S.os⟩
theorem St.unKept {s : Shared} {I : Addr} {o : Obj} (S : St c (f.kept ((I, o) :: f.keep)) m H s) : St c f m H s ∧ s.heap.get? I = some o :=
  ⟨⟨S.rep, S.base, S.bE, S.hb, S.off, S.dom, S.up, S.loc, S.newL, S.trL, S.cel, S.apart, S.ff, S.fh, S.big, fun p hp => S.kp p (.tail _ hp), S.gens, S.os⟩, (S.kp _ (.head _)).1⟩
theorem Fly.unKept {e : Addr} {C : Value} {h : Heap} {I : Addr} {o : Obj} (F : Fly (f.kept ((I, o) :: f.keep)) e C h) : Fly f e C h := by
  obtain ⟨⟨n1, n2⟩, oe, vs, a1, a2, a3, a4, r⟩ := F
  refine ⟨⟨n1, fun p hp => n2 p (.tail _ hp)⟩, oe, vs, a1, a2, a3, a4, ?_⟩
  rcases r with r | ⟨T, oT, ts, fl, b1, ⟨b2, b3⟩, b4⟩
  · exact .inl r
  · exact .inr ⟨T, oT, ts, fl, b1, ⟨b2, fun p hp => b3 p (.tail _ hp)⟩, b4⟩
theorem fp_stay {fp : List Addr} {tr : List Addr} {I : Addr} {H₁ H₂ : AH} {h h' : Heap} (hfp : ∀ b ∈ fp, b = I ∨ b ∈ tr ∨ ∃ o, c.base.get? b = some o) (htr : ∀ b ∈ tr, ∃ x, H₁ b = some x)
    (R : Rep c H₁ h) (R' : Rep c H₂ h') (B : c.base.StaysIn h) (B' : c.base.StaysIn h') (e : ∀ b ∈ tr, H₂ b = H₁ b) (hI : ∀ o, h.get? I = some o → h'.get? I = some o) : ∀ b ∈ fp, ∀ o, h.get? b = some o → h'.get? b = some o := fun b hb o q => by
  rcases hfp b hb with rfl | h1 | ⟨o', h1⟩
  · exact hI o q
  · obtain ⟨x, hx⟩ := htr b h1
    have k1 := (R b x hx).1
    have k2 := (R' b x ((e b h1).trans hx)).1
    rw [q] at k1; rw [k1]; exact k2
  · have := B b o' h1; rw [q] at this; rw [this]; exact B' b o' h1
theorem ExTh.unKept {Q Q' : Ko} {x : Value} {s' : Shared} {I : Addr} {o : Obj} (h : ExTh c (f.kept ((I, o) :: f.keep)) Q x s') (k : ∀ C m H, Q (.exc C) m H → Q' (.exc C) m H) : ExTh c f Q' x s' :=
  let ⟨C, m', H', e, p, S, F, q⟩ := h; ⟨C, m', H', e, p, S.unKept.1, F.unKept, k C m' H' q⟩
def ForPost (c : Cx) (f : Fx) (rest : List Stmt) (Q : Ko) (J : Nat → Loc → AH → Prop) (i : Nat) (tr : List Addr) (H₁ : AH) : Ko := fun o m₂ H₂ => match o with
  | .next => J (i + 1) m₂ H₂ ∧ ∀ b ∈ tr, H₂ b = H₁ b
  | .cont => J (i + 1) m₂ H₂ ∧ ∀ b ∈ tr, H₂ b = H₁ b
  | .brk => Ex c f rest m₂ H₂ Q
  | .ret d => Q (.ret d) m₂ H₂
  | .exc C => Q (.exc C) m₂ H₂
theorem Ex_for (O : FrOk f) {x : Str} {p q : Pos} {iter : Expr} {body rest : List Stmt} {Q : Ko}
    (h : EvIt c f iter m H (fun ds tr H₁ => ∃ J : Nat → Loc → AH → Prop, J 0 m H₁ ∧
      (∀ i d m' H' kp, ds[i]? = some d → J i m' H' → (∀ b ∈ tr, H' b = H₁ b) → Ex c (f.kept kp) body (m'.set x d) H' (ForPost c f rest Q J i tr H₁)) ∧
      (∀ m' H', J ds.length m' H' → (∀ b ∈ tr, H' b = H₁ b) → Ex c f rest m' H' Q)) (fun C H₁ => Q (.exc C) m H₁))
    (hx : (f.env.kindOf x = some .local) ∨ (f.env.kindOf x = some .cell ∧ (f.env.cells.lookup x).isSome = true)) (hfn : f.fn = true := by rfl)
    (hs : ∀ x, foldedSetIterable iter f.env x = pure x := by intro _; rfl) : Ex c f (.For (.Name x p) iter body [] q :: rest) m H Q := .mk fun s S => by
  have thr : ∀ {Q' : Ko} {x : Value} {s' : Shared}, (∀ C m' H', Q' (.exc C) m' H' → Q (.exc C) m' H') → ExTh c f Q' x s' → notedBy c.M f.A f.env (fun e s' => cameBackBy c.M f.A f.env (ExTh c f Q) e s') x s' := fun k z => by
    refine e4a4 z fun C m' H' e rq32 S' F q => ?_; clear z; obtain rfl := rq32
    exact noted_ok O S' F fun s'' S'' F'' => cameBack_ok O S'' F'' fun s₃ S₃ F₃ => ⟨C, m', H', e, rfl, S₃, F₃, k C m' H' q⟩
  refine wpAny_execs_cons (wpAny_For (wpAny_mono (h s S) (fun xv s₁ z => wpAny_mono z (fun it s₂ z => ?_) fun x s' z => z.ex fun _ _ y => y) fun x s' z => z.ex fun _ _ y => y) hs)
  refine e4a7 z fun I ds tr H₁ rq33 _ S₂ hIn hIk rq34 rq35 => ?_; clear z; obtain rfl := rq33; obtain ⟨fp, P, St', W, st, hrec, hfp, htr, hit⟩ := rq34; refine e1a3 rq35 fun J j0 turn done => ?_; clear rq35
  refine codeAny_forLoop (fun n s' => ∃ i m' H', n + i = ds.length + 1 ∧ i ≤ ds.length ∧ St c f m' H' s' ∧ St' i s'.heap ∧ J i m' H' ∧ ∀ b ∈ tr, H' b = H₁ b) (fun n s₃ z => ?_) (ds.length + 1) ⟨0, m, H₁, rfl, Nat.zero_le _, S₂, st, j0, fun _ _ => rfl⟩
  refine e3a6 z fun i m₃ H₃ hn hle S₃ st₃ j₃ e₃ => ?_; clear z
  refine e2a2 (hrec i _ st₃) fun oI vI gI dI => ?_
  by_cases hlt : i < ds.length
  · refine W.item i _ _ _ hlt st₃ fun v h' tk hP st' kp => ?_
    obtain ⟨S₄, _⟩ := S₃.recd (s' := { s₃ with heap := h', toks := tk }) gI dI hIn hIk (fun b o hb e => kp b o (by simpa using hb) e) rfl rfl
    have hd : ds[i]? = some ds[i] := List.getElem?_eq_getElem hlt
    have iv := hit i v _ H₃ h' hP hd S₄.rep S₄.base e₃
    refine e2a2 (hrec (i + 1) _ st') fun oI' vI' gI' dI' => ?_
    have S₅ := S₄.toKept (kp := (I, oI') :: f.keep) fun p hp => by
      cases hp with
      | head => exact ⟨gI', vI', dI'⟩
      | tail _ hp => exact S₄.kp p hp
    refine wpAny_assign_Name (store_ok (f := f.kept ((I, oI') :: f.keep)) S₅ iv hx hfn O.kind fun s₅ S₆ _ _ => ?_)
    refine wpAny_mono (turn i ds[i] m₃ H₃ ((I, oI') :: f.keep) hd j₃ e₃ s₅ S₆) (fun fl s₆ z => ?_) fun x s' z => thr (Q' := Q) (fun _ _ _ y => y) (z.unKept fun _ _ _ y => y)
    refine e3a3 z fun o m₆ H₆ fi S₇ q₆ => ?_; clear z
    obtain ⟨S₈, gI₈⟩ := S₇.unKept
    have stay : (∀ b ∈ tr, H₆ b = H₁ b) → St' (i + 1) s₆.heap := fun e₆ => W.frame _ _ _ st' (fp_stay (H₁ := H₃) (H₂ := H₆) (tr := tr) hfp (fun b hb => by rw [e₃ b hb]; exact htr b hb) S₄.rep S₈.rep S₄.base S₈.base
      (fun b hb => (e₆ b hb).trans (e₃ b hb).symm) fun o q => by rw [gI'] at q; cases q; exact gI₈)
    cases fl with
    | next => cases fi; exact ⟨n - 1, by exact om5 hn hlt, i + 1, m₆, H₆, by exact om6 hn hlt, hlt, S₈, stay q₆.2, q₆.1, q₆.2⟩
    | cont => cases fi; exact ⟨n - 1, by exact om5 hn hlt, i + 1, m₆, H₆, by exact om6 hn hlt, hlt, S₈, stay q₆.2, q₆.1, q₆.2⟩
    | brk => cases fi; exact (show Ex c f rest m₆ H₆ Q from q₆).run s₆ S₈
    | ret v => refine e1a2 fi fun d rq36 iv => ?_; clear fi; obtain rfl := rq36; exact ⟨_, m₆, H₆, ⟨d, rfl, iv⟩, S₈, q₆⟩
  · obtain rfl : i = ds.length := by exact om7 hle hlt
    refine W.done _ _ _ st₃ fun h' tk kp => ?_
    obtain ⟨S₄, _⟩ := S₃.recd (s' := { s₃ with heap := h', toks := tk }) gI dI hIn hIk (fun b o hb e => kp b o (by simpa using hb) e) rfl rfl
    exact wpAny_execs_nil (done m₃ H₃ j₃ e₃ _ S₄)
end
end Mine
set_option maxRecDepth 100000
set_option linter.unusedVariables false
namespace Mine
open PySem
abbrev compF (f : Fx) (scope : Scope) (cl : List (Str × Addr)) (C : Addr) (hE : Heap) (H : AH) : Fx :=
  { A := f.A, env := compEnvC scope cl C f.env, frs := f.frs, hE := hE, HE := H, keep := [], fn := false }
def compM (m : Loc) (cl : List (Str × Addr)) (x : Str) (d : V) : Loc := fun y => if y = x then some d else if (cl.lookup y).isSome then m y else none
def CompT (c : Cx) (fC : Fx) (elt : Expr) (ifs : List Expr) (mC : Loc) (H : AH) (Qy : V → AH → Prop) (Qn : AH → Prop) : Prop := match ifs with
  | [] => Ev c fC elt mC H Qy (fun _ _ => False)
  | [t] => Ts c fC t mC H (fun b H' => (b = true → Ev c fC elt mC H' Qy (fun _ _ => False)) ∧ (b = false → Qn H')) (fun _ _ => False)
  | _ => False
section
variable {c : Cx} {f : Fx} {m : Loc} {H : AH}
theorem none_size (h : Heap) : h.get? h.objs.size = none := by
  cases q : h.get? h.objs.size with
  | none => rfl
  | some o => exact absurd (Heap.lt_size q) (Nat.lt_irrefl _)
theorem St.apartOf {s : Shared} (S : St c f m H s) {a : Addr} (e : s.heap.get? a = none) : H a = none ∧ f.hE.get? a = none ∧ a ≠ f.env.locals ∧ (∀ x b, f.env.cells.lookup x = some b → b ≠ a) ∧ a ∉ f.fs ∧ (∀ p ∈ f.keep, a ≠ p.1) := by
  refine ⟨?_, S.old e, fun q => ?_, fun x b hb q => ?_, fun q => ?_, fun p hp q => ?_⟩
  · cases z : H a with
    | none => rfl
    | some y => refine e1a2 ((S.rep a y z).obj) fun o' g _ => ?_; rw [e] at g; cases g
  · refine e1a2 (S.loc) fun mv rq37 _ => ?_; obtain ⟨o, _, _, g, _⟩ := rq37; rw [← q, e] at g; cases g
  · refine e0a4 (S.cel x b hb) fun _ _ _ rq38 => ?_; refine e2a2 rq38 fun ov o g _ => ?_; clear rq38; rw [q, e] at g; cases g
  · obtain ⟨_, o, g, _⟩ := S.ff.mem q; rw [e] at g; cases g
  · have := (S.kp p hp).1; rw [← q, e] at this; cases this
theorem St.track {s : Shared} (S : St c f m H s) {a : Addr} {x : Cell} (hH : H a = none) (hnew : f.hE.get? a = none) (hL : a ≠ f.env.locals) (hcl : ∀ x b, f.env.cells.lookup x = some b → b ≠ a)
    (hfs : a ∉ f.fs) (hbig : cStatics < a) (hx : CellIs c s.heap a x) : St c f m (H.set a x) s := by
  have hS : ∀ b, b ≠ a → (H.set a x) b = H b := fun b q => if_neg q
  refine ⟨fun b y e => ?_, S.base, S.bE, fun b o e => ?_, S.off, fun b o e q => ?_, fun b q => ?_, S.loc, S.newL, ?_, fun y b e => ?_, S.apart, S.ff, fun b q => ?_, fun b y e => ?_, S.kp, S.gens, S.os⟩
  · by_cases q : b = a
    · subst q; rw [AH.set, if_pos rfl] at e; cases e; exact hx
    · rw [hS b q] at e; exact S.rep b y e
  · rw [hS b (fun q => by have := S.bE b o e; rw [q, hnew] at this; cases this)]; exact S.hb b o e
  · rw [hS b (fun z => by rw [z, hnew] at e; cases e)]; exact S.dom b o e q
  · by_cases z : b = a
    · subst z; rw [AH.set, if_pos rfl]; exact fun w => nomatch w
    · rw [hS b z]; exact S.up b q
  · rw [hS _ (Ne.symm hL)]; exact S.trL
  · obtain ⟨p, q⟩ := S.cel y b e
    exact ⟨by rw [hS b (hcl y b e)]; exact p, q⟩
  · rw [hS b (fun z => hfs (z ▸ q))]; exact S.fh b q
  · by_cases q : b = a
    · exact q ▸ hbig
    · rw [hS b q] at e; exact S.big b y e
theorem St.comp {s : Shared} (S : St c f m H s) {scope : Scope} {cl : List (Str × Addr)} {C : Addr} {mv : Str → Option Value} {x : Str} {v : Value} {d : V}
    (hcl : ∀ y a, cl.lookup y = some a → f.env.cells.lookup y = some a ∧ f.env.kindOf y = some .cell ∧ (relabel scope f.env).names.lookup y = some .cell) (hx : (relabel scope f.env).names.lookup x = some .local)
    (hn : s.heap.Ns C mv) (hv : mv x = some v) (i : Is s.heap d v) (hC : H C = none) (hCc : ∀ y a, f.env.cells.lookup y = some a → a ≠ C) : St c (compF f scope cl C s.heap H) (compM m cl x d) H s := by
  refine e1a2 (S.loc) fun mvo no ko => ?_
  refine ⟨S.rep, S.base, S.base, S.hb, fun a o e q => ⟨fun _ => e, fun _ => ⟨o.slots, e⟩⟩, fun a o e q => q, fun a q => q, ⟨mv, hn, fun y d' e => ?_⟩, (fun z => nomatch z), hC, fun y a e => ?_, fun y z a ey ez => ?_, S.ff, S.fh, S.big, (fun p hp => nomatch hp), S.gens, S.os⟩
  · by_cases q : y = x
    · subst q
      rw [compM, if_pos rfl] at e; cases e
      exact .inl ⟨hx, v, hv, i⟩
    · rw [compM, if_neg q] at e
      cases z : cl.lookup y with
      | none => rw [z] at e; cases e
      | some a =>
        rw [z] at e
        refine e0a3 (hcl y a z) fun k1 k2 k3 => ?_
        rcases ko y d' (by simpa using e) with ⟨e1, _⟩ | ⟨_, a', v', p, r, u⟩
        · rw [k2] at e1; cases e1
        · rw [k1] at p; cases p
          exact .inr ⟨.inl k3, a, v', z, r, u⟩
  · refine e0a3 (hcl y a e) fun k1 k2 k3 => ?_
    refine e0a4 (S.cel y a k1) fun p q r z => ?_
    exact ⟨p, hCc y a k1, (fun w => nomatch w), z⟩
  · exact S.apart y z a (hcl y a ey).1 (hcl z a ez).1
theorem St.compLft {s s' : Shared} {H' : AH} {m' : Loc} {scope : Scope} {cl : List (Str × Addr)} {C : Addr} (S : St c (compF f scope cl C s.heap H) m' H' s') : Lft c f.frs H s H' s' :=
  ⟨S.rep, S.off, S.dom, S.up, S.big, S.gens, S.os⟩
theorem tests_one {env : Env} {t : Expr} {A : Around} {Q : Bool → Shared → Prop} {E : Value → Shared → Prop} {s : Shared} (h : wpAny c.M A (isTrue t env (eval t env)) Q E s) :
    wpAny c.M A (forIn [t] true fun c r => if r = true then do let ok ← isTrue c env (eval c env); pure (ForInStep.yield ok) else pure (ForInStep.yield r)) Q E s := wpAny_tests_one h
theorem comp_core {x : Str} {px pos : Pos} {iter elt : Expr} {ifs : List Expr} {scope : Scope} {cl : List (Str × Addr)} {I : Addr} {ds : List V} {tr : List Addr} {H₁ : AH} {s₂ : Shared} {E : Value → Shared → Prop} {RR : Value → Addr → Result → Shared → Prop}
    (S₂ : St c f m H₁ s₂) (hIn : f.hE.get? I = none) (hIk : ∀ p ∈ f.keep, I ≠ p.1) (hI : ItrOk c f.A I ds tr H₁ s₂.heap) (hsz : ds.length ≤ sizeLine) (hbg : cStatics < s₂.heap.objs.size) (J : Nat → List V → AH → Prop) (j0 : J 0 [] H₁)
    (hcell : ∀ y ∈ scope.names, y.2 ≠ .cell) (hkind : scope.kind = .function) (hx : scope.names.lookup x = some .local)
    (hcl : ∀ y a, cl.lookup y = some a → f.env.cells.lookup y = some a ∧ f.env.kindOf y = some .cell ∧ (relabel scope f.env).names.lookup y = some .cell)
    (turn : ∀ i d acc H' C hE, ds[i]? = some d → J i acc H' → (∀ b ∈ tr, H' b = H₁ b) →
      CompT c (compF f scope cl C hE H') elt ifs (compM m cl x d) H' (fun e H'' => J (i + 1) (acc ++ [e]) H'' ∧ ∀ b ∈ tr, H'' b = H₁ b) (fun H'' => J (i + 1) acc H'' ∧ ∀ b ∈ tr, H'' b = H₁ b))
    (done : ∀ D C s' acc vs H' mv, cStatics < D → St c f m H' s' → Tk s₂.heap s'.heap → PlainL s'.heap D vs.toArray → IsAll s'.heap acc vs → s'.heap.Ns C mv → H' D = none → H' C = none → s₂.heap.get? D = none → s₂.heap.get? C = none → D ≠ C → J ds.length acc H' → (∀ b ∈ tr, H' b = H₁ b) →
      RR (.ref D) C (.ok .next) s') :
    wpAny c.M f.A (newList []) (fun acc s₃ => wpAny c.M f.A (newFunctionEnv scope f.env.globals cl [] f.env.qual none .none (some f.env)) (fun cenv s₄ =>
      codeAny c.M f.A (.compStart (.ListComp elt [⟨.Name x px, iter, ifs, 0⟩] scope pos) 0 (.ref I) acc { cenv with scope := relabel scope f.env }) (RR acc cenv.locals) s₄) E s₃) E s₂ := by
  refine e3a6 hI fun fp P St' W st hrec hfp htr hit => ?_; clear hI
  refine wpAny_newObj_type (wpAny_newFunctionEnv hcell (by intro y hy; simp at hy) (fun h₁ hns₁ hsb₁ => ?_) hkind)
  dsimp only at hns₁ hsb₁ ⊢
  generalize hH2 : s₂.heap.push { cls := .type "list", dict := none, data := .seq ([] : List Value).toArray } = H2 at hns₁ hsb₁ ⊢
  generalize hDd : s₂.heap.objs.size = D
  generalize hCd : H2.objs.size = C at hns₁ hsb₁ ⊢
  have hC : C = D + 1 := by rw [← hCd, ← hH2, Heap.size_push, hDd]
  have hDC : D ≠ C := by exact om8 hC
  have hfree : ∀ a, D ≤ a → s₂.heap.get? a = none := fun a ha => by
    cases e : s₂.heap.get? a with
    | none => rfl
    | some o' => exact absurd (Heap.lt_size e) (Nat.not_lt.mpr (hDd ▸ ha))
  have hD0 := hfree D (Nat.le_refl _)
  have hC0 := hfree C (by exact om9 hC)
  refine e0a6 (S₂.apartOf hD0) fun aD1 aD2 aD3 aD4 aD5 aD6 => ?_
  refine e0a6 (S₂.apartOf hC0) fun aC1 aC2 aC3 aC4 aC5 aC6 => ?_
  refine e2a2 (hrec 0 _ st) fun oI₀ vI₀ gI₀ dI₀ => ?_
  have hDI : D ≠ I := fun q => by rw [q, gI₀] at hD0; cases hD0
  have hCI : C ≠ I := fun q => by rw [q, gI₀] at hC0; cases hC0
  have grow : Grow s₂.heap h₁ := fun b o e => by
    have : b < D := hDd ▸ Heap.lt_size e
    exact hsb₁.extBut b o (fun (q : b = C) => by rw [q, hC] at this; exact absurd this (Nat.not_lt.mpr (Nat.le_succ D))) (Heap.get?_push_of_some _ (hH2 ▸ Heap.get?_push_of_some _ e))
  have hacc : PlainL h₁ D ([] : List Value).toArray := ⟨_, 0, hsb₁.extBut _ _ hDC (Heap.get?_push_of_some _ (hH2 ▸ hDd ▸ Heap.get?_push_size _ rfl)), rfl, rfl, rfl⟩
  have loop : ∀ s₃ : Shared, s₃ = { s₂ with heap := h₁, toks := s₂.toks + ([] : List (Str × Value)).length } →
      codeAny c.M f.A (.compLoop (.ListComp elt [⟨.Name x px, iter, ifs, 0⟩] scope pos) 0 (.ref I) (.ref D) (compEnvC scope cl C f.env)) (RR (.ref D) C) s₃ := by
    rintro s₃ rfl
    have S₃ := S₂.grow (s' := { s₂ with heap := h₁, toks := s₂.toks + ([] : List (Str × Value)).length }) grow rfl rfl
    refine codeAny_compLoop_tests (fun n s' => ∃ i acc H' vs mv, n + i = ds.length + 1 ∧ i ≤ ds.length ∧ St c f m H' s' ∧ Tk s₂.heap s'.heap ∧ St' i s'.heap ∧ PlainL s'.heap D vs.toArray ∧ IsAll s'.heap acc vs ∧ s'.heap.Ns C mv ∧ H' D = none ∧ H' C = none ∧ vs.length ≤ i ∧ J i acc H' ∧ ∀ b ∈ tr, H' b = H₁ b)
      (fun n s' z => ?_) (ds.length + 1) ⟨0, [], H₁, [], _, rfl, Nat.zero_le _, S₃, grow.tk, W.frame _ _ _ st fun b _ o e => grow b o e, hacc, isAll_nil _, hns₁, aD1, aC1, Nat.le_refl _, j0, fun _ _ => rfl⟩
    refine e5a13 z fun i acc H' vs mv hn hle S' tk' st' pl' ia' ns' D' C' hvl j' e' => ?_; clear z
    refine e2a2 (hrec i _ st') fun oI vI gI dI => ?_
    have hIH : H' I = none := by
      cases z : H' I with
      | none => rfl
      | some y => refine e1a4 ((S'.rep I y z).obj) fun o' g _ nf _ => ?_; rw [gI] at g; cases g; exact absurd dI (nf _)
    have hIfs : I ∉ f.fs := fun q => by obtain ⟨_, o, g, nf⟩ := S'.ff.mem q; rw [gI] at g; cases g; exact nf _ dI
    by_cases hlt : i < ds.length
    · refine W.item i _ _ _ hlt st' fun v h' tk hP st₄ kp => ?_
      have ext₄ : Heap.ExtBut I s'.heap h' := fun b o hb e => kp b o (by simpa using hb) e
      obtain ⟨S₄, t₄⟩ := S'.recd (s' := { s' with heap := h', toks := tk }) gI dI hIn hIk ext₄ rfl rfl
      have hd : ds[i]? = some ds[i] := List.getElem?_eq_getElem hlt
      have iv := hit i v _ H' h' hP hd S₄.rep S₄.base e'
      have hx' := lookup_relabel_local (env := f.env) hx
      refine wpAny_assign_Name (wpAny_storeName_local (env := compEnvC scope cl C f.env) hx' (ns'.extBut ext₄ hCI) (fun h₅ ns₅ sb₅ => ?_) (by simp [compEnvC, relabel, hkind]))
      refine e3a3 (ns'.extBut ext₄ hCI) fun oC esC epC gC dC _ => ?_
      obtain ⟨S₅, t₅⟩ := S₄.other (s' := { s' with heap := h₅, toks := tk + 1 }) C' aC2 aC3 aC4 aC5 aC6 (fun o vs n e cl' dt => by
        have : oC = o := Option.some.inj (gC.symm.trans e)
        subst this; rw [dC] at dt; cases dt) sb₅.extBut rfl rfl
      have iv₅ := iv.tk t₅
      have S₆ := S₅.comp (scope := scope) (cl := cl) (x := x) (d := ds[i]) (v := v) hcl hx' ns₅ (if_pos rfl) iv₅ C' aC4
      have plD₅ : PlainL h₅ D vs.toArray := (pl'.extBut ext₄ hDI).extBut sb₅.extBut hDC
      have iaD₅ : IsAll h₅ acc vs := (ia'.tk t₄).tk t₅
      refine e2a2 (hrec (i + 1) _ st₄) fun oI' vI' gI' dI' => ?_
      have gI₅ : h₅.get? I = some oI' := sb₅.extBut I oI' (Ne.symm hCI) gI'
      have tk₅ : Tk s₂.heap h₅ := tk'.trans (t₄.trans t₅)
      -- after the turn's work
      have back : ∀ {H'' : AH} {s₇ : Shared}, Lft c f.frs H' { s' with heap := h₅, toks := tk + 1 } H'' s₇ → (∀ b ∈ tr, H'' b = H₁ b) → St c f m H'' s₇ ∧ Tk s₂.heap s₇.heap ∧ St' (i + 1) s₇.heap ∧ PlainL s₇.heap D vs.toArray ∧ IsAll s₇.heap acc vs ∧ (∃ mv, s₇.heap.Ns C mv) ∧ H'' D = none ∧ H'' C = none ∧ s₇.heap.get? I = some oI' := fun L e'' => by
        obtain ⟨S₇, t₇⟩ := S₅.back L
        have un : ∀ a o, h₅.get? a = some o → H' a = none → a ∉ f.fs → _ := fun a o e q n => (L.off a o e q).1 n
        refine e2a2 plD₅ fun oD nD gD rD => ?_; clear plD₅
        refine e3a2 ns₅ fun oC' es' ep' gC' rC' => ?_; clear ns₅
        have gI₇ := un I oI' gI₅ hIH hIfs
        refine ⟨S₇, tk₅.trans t₇, ?_, ⟨oD, nD, un D oD gD D' aD5, rD⟩, iaD₅.tk t₇, ⟨_, oC', es', ep', un C oC' gC' C' aC5, rC'⟩, L.dom D oD gD D', L.dom C oC' gC' C', gI₇⟩
        exact W.frame _ _ _ st₄ (fp_stay (H₁ := H') (tr := tr) hfp (fun b hb => by rw [e' b hb]; exact htr b hb) S₄.rep S₇.rep S₄.base S₇.base (fun b hb => (e'' b hb).trans (e' b hb).symm) fun o q => by rw [gI'] at q; cases q; exact gI₇)
      have ended : ∀ {y : Value} {e : V} {H'' : AH} {s₇ : Shared}, Lft c f.frs H' { s' with heap := h₅, toks := tk + 1 } H'' s₇ → Is s₇.heap e y → J (i + 1) (acc ++ [e]) H'' → (∀ b ∈ tr, H'' b = H₁ b) →
          wpAny c.M f.A (call (.builtin "list.append") [.ref D, y]) (fun _ s₅ => ∃ k, k < n ∧ ∃ i acc H' vs mv, k + i = ds.length + 1 ∧ i ≤ ds.length ∧ St c f m H' s₅ ∧ Tk s₂.heap s₅.heap ∧ St' i s₅.heap ∧ PlainL s₅.heap D vs.toArray ∧ IsAll s₅.heap acc vs ∧ s₅.heap.Ns C mv ∧ H' D = none ∧ H' C = none ∧ vs.length ≤ i ∧ J i acc H' ∧ ∀ b ∈ tr, H' b = H₁ b)
            (notedBy c.M f.A (compEnvC scope cl C f.env) fun e s' => RR (.ref D) C (.error e) s') s₇ := fun {y e H'' s₇} L iy jj ee => by
        refine e0a9 (back L ee) fun S₇ t₇ st₇ pl₇ ia₇ rq39 D₇ C₇ gI₇ => ?_; obtain ⟨mv₇, ns₇⟩ := rq39
        refine list_append_plainL pl₇ (fun h₈ pl₈ sb₈ => ?_) (by rw [List.size_toArray]; exact om10 hsz hvl hlt)
        refine e2a4 pl₇ fun oD nD gD cD ddD dD => ?_; clear pl₇
        obtain ⟨S₈, t₈⟩ := S₇.other (s' := { s₇ with heap := h₈ }) D₇ aD2 aD3 aD4 aD5 aD6 (fun o vs n e cl' dt => by rw [gD] at e; cases e; rw [cD] at cl'; exact absurd cl' (by decide)) sb₈.extBut rfl rfl
        refine ⟨n - 1, by exact om5 hn hlt, i + 1, acc ++ [e], H'', vs ++ [y], mv₇, by exact om6 hn hlt, hlt, S₈, t₇.trans t₈, ?_, by simpa using pl₈, (ia₇.append (isAll_one iy)).tk t₈, ns₇.extBut sb₈.extBut (Ne.symm hDC), D₇, C₇, by simp; exact om11 hvl, jj, ee⟩
        exact W.frame _ _ _ st₇ (fp_stay (H₁ := H'') (tr := tr) hfp (fun b hb => by rw [ee b hb]; exact htr b hb) S₇.rep S₈.rep S₇.base S₈.base (fun b hb => rfl) fun o q => sb₈.extBut I o (Ne.symm hDI) q)
      have T := turn i ds[i] acc H' C h₅ hd j' e'
      match ifs, T with
      | [], T =>
        refine wpAny_tests_nil ?_
        rw [if_pos rfl]
        refine wpAny_mono (Ev.run T _ S₆) (fun y s₇ z => ?_) fun _ _ z => ?_
        · obtain ⟨_, e, H'', iy, S₇, jj, ee⟩ := z
          exact ended S₇.compLft iy jj ee
        · refine e3a4 z fun _ _ _ _ _ _ rq40 => ?_; clear z; have z := rq40; clear rq40; exact z.elim
      | [t], T =>
        refine tests_one (wpAny_mono (Ts.run T _ S₆) (fun b s₇ z => ?_) fun _ _ z => ?_)
        · refine e1a3 z fun H'' S₇ q1 q2 => ?_; clear z
          cases b with
          | true =>
            rw [if_pos rfl]
            refine wpAny_mono (q1 rfl s₇ S₇) (fun y s₈ z => ?_) fun _ _ z => ?_
            · obtain ⟨_, e, H₃, iy, S₈, jj, ee⟩ := z
              exact ended S₈.compLft iy jj ee
            · refine e3a4 z fun _ _ _ _ _ _ rq41 => ?_; clear z; have z := rq41; clear rq41; exact z.elim
          | false =>
            rw [if_neg (by decide)]
            obtain ⟨jj, ee⟩ := q2 rfl
            refine e0a9 (back S₇.compLft ee) fun S₈ t₈ st₈ pl₈ ia₈ rq42 D₈ C₈ _ => ?_; obtain ⟨mv₈, ns₈⟩ := rq42
            exact ⟨n - 1, by exact om5 hn hlt, i + 1, acc, H'', vs, mv₈, by exact om6 hn hlt, hlt, S₈, t₈, st₈, pl₈, ia₈, ns₈, D₈, C₈, by exact om12 hvl, jj, ee⟩
        · refine e3a4 z fun _ _ _ _ _ _ rq43 => ?_; clear z; have z := rq43; clear rq43; exact z.elim
      | _ :: _ :: _, T => exact T.elim
    · obtain rfl : i = ds.length := by exact om7 hle hlt
      refine W.done _ _ _ st' fun h' tk kp => ?_
      have ext₄ : Heap.ExtBut I s'.heap h' := fun b o hb e => kp b o (by simpa using hb) e
      obtain ⟨S₄, t₄⟩ := S'.recd (s' := { s' with heap := h', toks := tk }) gI dI hIn hIk ext₄ rfl rfl
      exact done D C _ acc vs H' mv (hDd ▸ hbg) S₄ (tk'.trans t₄) (pl'.extBut ext₄ hDI) (ia'.tk t₄) (ns'.extBut ext₄ hCI) D' C' hD0 hC0 hDC j' e'
  exact codeAny_compStart_list (loop _ rfl) (W.self 0 _ _ _ (W.frame _ _ _ st fun b _ o e => grow b o e) (loop _ rfl))
end
end Mine
set_option maxRecDepth 100000
set_option linter.unusedVariables false
namespace Mine
open PySem
def ListAt (H : AH) (a : Addr) (ds : List V) : Prop := ∃ o, H a = some ⟨o, .list ds⟩
def DictIs (H : AH) (a : Addr) (kvs : List (Int × V)) : Prop := ∃ o, H a = some ⟨o, .dict kvs⟩
section
variable {c : Cx} {f : Fx} {m : Loc} {H : AH} {X : Value → AH → Prop}
theorem AH.set_other (H : AH) {a b : Addr} (x : Cell) (h : b ≠ a) : (H.set a x) b = H b := if_neg h
theorem St.sizeBig {s : Shared} (K : CxOk c) (S : St c f m H s) : cStatics < s.heap.objs.size := by
  refine e1a2 (K.lim) fun mc rq44 _ => ?_; obtain ⟨o, _, _, g, _⟩ := rq44
  exact Heap.lt_size (S.base _ _ g)
theorem Rep.list {a : Addr} {o : Obj} {ds : List V} {h : Heap} (R : Rep c H h) (e : H a = some ⟨o, .list ds⟩) : ∃ vs n, h.get? a = some o ∧ o.cls = .type "list" ∧ o.dict = none ∧ o.data = .seq vs.toArray n ∧ IsAll h ds vs := by
  obtain ⟨g, vs, ⟨o', n, g', r1, r2, r3⟩, i⟩ := R a _ e
  rw [g'] at g; cases g
  exact ⟨vs, n, g', r1, r2, r3, i⟩
theorem Rep.plain {a : Addr} {ds : List V} {h : Heap} (R : Rep c H h) (e : ListAt H a ds) : ∃ vs, PlainL h a vs.toArray ∧ IsAll h ds vs := by
  obtain ⟨o, e⟩ := e
  refine e2a5 (R.list e) fun vs n g r1 r2 r3 i => ?_
  exact ⟨vs, ⟨o, n, g, r1, r2, r3⟩, i⟩
theorem Rep.dict {a : Addr} {o : Obj} {kvs : List (Int × V)} {h : Heap} (R : Rep c H h) (e : H a = some ⟨o, .dict kvs⟩) : ∃ kv es ep, h.get? a = some o ∧ o.ExactDict ∧ o.data = .dict es ep ∧ KeysOf (intKind c.prog c.w) es ∧ Pairs (intKind c.prog c.w) es.toList kv ∧ (kv.map (·.1)).Nodup ∧
    kv.map (·.1) = kvs.map (·.1) ∧ IsAll h (kvs.map (·.2)) (kv.map (·.2)) := by
  obtain ⟨g, kv, ⟨o', es, ep, g', r1, r2, r3, r4, r5⟩, p, i⟩ := R a _ e
  rw [g'] at g; cases g
  exact ⟨kv, es, ep, g', r1, r2, r3, r4, r5, p, i⟩
theorem Rep.dictOf {a : Addr} {kvs : List (Int × V)} {h : Heap} (R : Rep c H h) (e : DictIs H a kvs) : ∃ kv : List (Int × Value), h.DictOf (intKind c.prog c.w) a kv ∧ kv.map (·.1) = kvs.map (·.1) ∧ IsAll h (kvs.map (·.2)) (kv.map (·.2)) := by
  obtain ⟨o, e⟩ := e
  refine e3a8 (R.dict e) fun kv es ep g r1 r2 r3 r4 r5 p i => ?_
  exact ⟨kv, ⟨o, es, ep, g, r1, r2, r3, r4, r5⟩, p, i⟩
theorem notSys {s : Shared} (S : St c f m H s) {a : Addr} {x : Cell} (e : H a = some x) : (a == sysModules) = false := by
  have := S.big a x e
  exact beq_eq_false_iff_ne.mpr fun q => by rw [q] at this; exact absurd this (by decide)
theorem EvIt_list {iter : Expr} {Q : List V → List Addr → AH → Prop} (hh : f.A.handled = none) (h : Ev c f iter m H (fun d H₁ => ∃ a ds, d = .ref a ∧ ListAt H₁ a ds ∧ Q ds [a] H₁) X) : EvIt c f iter m H Q X := .mk fun s S => by
  refine wpAny_mono (h s S) (fun v s₁ z => ?_) fun _ _ x => x
  obtain ⟨t₁, d, H₁, i₁, S₁, a, ds, rfl, ⟨o, ha⟩, q⟩ := z
  obtain rfl : v = .ref a := i₁
  refine e2a5 (S₁.rep.list ha) fun vs n g c1 c2 c3 ia => ?_
  have hl : s₁.heap.IsList a vs.toArray := ⟨o, g, c1, n, c3⟩
  have hI := none_size s₁.heap
  refine e0a6 (S₁.apartOf hI) fun _ b2 _ _ _ b6 => ?_
  have hne : a ≠ s₁.heap.objs.size := Nat.ne_of_lt (Heap.lt_size g)
  refine wpAny_pyIter_list hl ⟨_, ds, [a], H₁, rfl, t₁.trans (Grow.push _ _).tk, S₁.grow (Grow.push _ _) rfl rfl, b2, b6, ?_, q⟩
  have W := Walks.list (prog := c.prog) (w := c.w) hh s₁.heap.objs.size a hne vs.toArray
  have hsz : vs.toArray.size = ds.length := by rw [List.size_toArray]; exact ia.length
  rw [hsz] at W
  refine ⟨_, _, _, W, ⟨⟨_, Heap.get?_push_size _ rfl, rfl, rfl⟩, hl.push _⟩, fun i h st => ?_, fun b hb => ?_, fun b hb => ?_, fun i v d H' h hP hd R B e => ?_⟩
  · obtain ⟨⟨o, g, _, d⟩, _⟩ := st; exact ⟨o, _, g, d⟩
  · simp only [List.mem_cons, List.not_mem_nil, or_false] at hb
    rcases hb with rfl | rfl
    · exact .inl rfl
    · exact .inr (.inl (.head _))
  · simp only [List.mem_cons, List.not_mem_nil, or_false] at hb; subst hb; exact ⟨_, ha⟩
  · refine e2a5 (R.list ((e a (.head _)).trans ha)) fun vs' n' g' _ _ c3' ia' => ?_
    rw [c3] at c3'
    injection c3' with hv _
    have : vs = vs' := by simpa using hv
    subst this
    refine e1a2 (ia'.get hd) fun v' e1 e2 => ?_
    have : vs[i]? = some v := by simpa using hP
    rw [this] at e1; cases e1; exact e2
theorem EvIt_dict {iter : Expr} {Q : List V → List Addr → AH → Prop} (hh : f.A.handled = none) (h : Ev c f iter m H (fun d H₁ => ∃ a kvs, d = .ref a ∧ DictIs H₁ a kvs ∧ Q (kvs.map fun p => .int p.1) [a] H₁) X) : EvIt c f iter m H Q X := .mk fun s S => by
  refine wpAny_mono (h s S) (fun v s₁ z => ?_) fun _ _ x => x
  obtain ⟨t₁, d, H₁, i₁, S₁, a, kvs, rfl, ⟨o, ha⟩, q⟩ := z
  obtain rfl : v = .ref a := i₁
  refine e3a8 (S₁.rep.dict ha) fun kv es ep g c1 c2 c3 c4 c5 p ia => ?_
  have hm : s₁.heap.DictAt (intKind c.prog c.w) a kv ep := ⟨o, es, g, c1, c2, c3, c4, c5⟩
  have hI := none_size s₁.heap
  refine e0a6 (S₁.apartOf hI) fun _ b2 _ _ _ b6 => ?_
  have hne : a ≠ s₁.heap.objs.size := Nat.ne_of_lt (Heap.lt_size g)
  have hlen : kv.length = (kvs.map fun p => V.int p.1).length := by have := congrArg List.length p; simpa using this
  refine wpAny_pyIter_dict (notSys S₁ ha) hm ⟨_, kvs.map fun p => .int p.1, [a], H₁, rfl, t₁.trans (Grow.push _ _).tk, S₁.grow (Grow.push _ _) rfl rfl, b2, b6, ?_, q⟩
  have W := Walks.dictKeys (knd := intKind c.prog c.w) hh s₁.heap.objs.size a hne kv ep
  have W' := W
  rw [hlen] at W'
  refine ⟨_, _, _, W', ⟨⟨_, Heap.get?_push_size _ rfl, rfl, (by rw [← hlen]; rfl)⟩, hm.push _⟩, fun i h st => ?_, fun b hb => ?_, fun b hb => ?_, fun i v d H' h hP hd R B e => ?_⟩
  · obtain ⟨⟨o, g, _, d⟩, _⟩ := st; exact ⟨o, _, g, d⟩
  · simp only [List.mem_cons, List.not_mem_nil, or_false] at hb
    rcases hb with rfl | rfl
    · exact .inl rfl
    · exact .inr (.inl (.head _))
  · simp only [List.mem_cons, List.not_mem_nil, or_false] at hb; subst hb; exact ⟨_, ha⟩
  · refine e2a2 hP fun k x hk hv => ?_; clear hP
    have h1 : (kv.map (·.1))[i]? = some k := by rw [List.getElem?_map, hk]; rfl
    rw [p, List.getElem?_map] at h1
    rw [List.getElem?_map] at hd
    cases hq : kvs[i]? with
    | none => rw [hq] at hd; cases hd
    | some pr =>
      rw [hq] at hd h1
      cases hd
      cases h1
      obtain ⟨t, rfl⟩ := Value.isInt_shape hv
      simp only [Is]
      exact ⟨t, rfl⟩
theorem intsAre_length : ∀ {vs : List Value} {ns : List Int}, PyProof.Rows.IntsAre vs ns → vs.length = ns.length
  | _, _, .nil => rfl
  | _, _, .cons _ _ h => by simp [intsAre_length h]
theorem intsAre_get : ∀ {vs : List Value} {ns : List Int} {i : Nat} {k : Int}, PyProof.Rows.IntsAre vs ns → ns[i]? = some k → ∃ t, vs[i]? = some (.int k t)
  | _, _, _, _, .nil, e => by simp at e
  | _, _, 0, _, .cons n t h, e => by simp at e; subst e; exact ⟨t, rfl⟩
  | _, _, i + 1, _, .cons n t h, e => by simpa using intsAre_get h (by simpa using e)
theorem ints_size (a : Int) (n : Nat) : ((List.range n).map fun i : Nat => V.int (a + i)).length = n := by simp
theorem it_range {s₁ : Shared} {s₀ : Heap} {a b : Int} {t u v : Tok} {r : Addr} {Q : List V → List Addr → AH → Prop} (hh : f.A.handled = none) (S₁ : St c f m H s₁) (tk : Tk s₀ s₁.heap) (hr : IsRange s₁.heap r a b 1 t u v)
    (ha : -(2 ^ 62) ≤ a) (ha' : a < 2 ^ 62) (hb : -(2 ^ 62) ≤ b) (hb' : b < 2 ^ 62) (q : Q ((List.range (b - a).toNat).map fun i : Nat => .int (a + i)) [] H) {E : Value → Shared → Prop} :
    wpAny c.M f.A (pyIter (.ref r)) (fun it s₂ => ∃ I ds tr H₁, it = .ref I ∧ Tk s₀ s₂.heap ∧ St c f m H₁ s₂ ∧ f.hE.get? I = none ∧ (∀ p ∈ f.keep, I ≠ p.1) ∧ ItrOk c f.A I ds tr H₁ s₂.heap ∧ Q ds tr H₁) E s₁ := by
  have hI := none_size s₁.heap
  refine e0a6 (S₁.apartOf hI) fun _ b2 _ _ _ b6 => ?_
  refine wpAny_pyIter_range hr (small_one ha ha' hb hb') ⟨_, _, [], H, rfl, tk.trans (Grow.push _ _).tk, S₁.grow (Grow.push _ _) rfl rfl, b2, b6, ?_, q⟩
  have W := Walks.range (prog := c.prog) (w := c.w) hh s₁.heap.objs.size a 1 (b - a).toNat
  rw [← ints_size a (b - a).toNat] at W
  refine ⟨_, _, _, W, ?_, fun i h st => ⟨_, _, st, rfl⟩, fun b hb => .inl (by simpa using hb), fun b hb => (nomatch hb), fun i v d H' h hP hd R B e => ?_⟩
  · rw [ints_size]
    have h1 : Builtin.Range.rangeSize a b 1 = ((b - a).toNat : Int) - ((0 : Nat) : Int) := by rw [rangeSize_one]; split <;> omega
    have h2 : a + ((0 : Nat) : Int) * 1 = a := by simp
    show (s₁.heap.push _).get? _ = _
    rw [Heap.get?_push_size _ rfl, h1, h2]
  · obtain ⟨t, rfl⟩ := hP
    rw [List.getElem?_map] at hd
    cases hq : (List.range (b - a).toNat)[i]? with
    | none => rw [hq] at hd; cases hd
    | some k =>
      rw [hq] at hd; cases hd
      have : k = i := by
        rw [List.getElem?_eq_some_iff] at hq
        obtain ⟨_, hq⟩ := hq
        simpa using hq.symm
      subst this
      simp only [Is]
      exact ⟨t, by rw [Int.mul_one]⟩
theorem EvIt_range1 {x : Str} {p₁ p : Pos} {e : Expr} {Q : List V → List Addr → AH → Prop} (hh : f.A.handled = none)
    (h : Ev c f (.Name x p₁) m H (fun d H' => d = .raw (.type "range") ∧ Ev c f e m H' (fun d H₁ => ∃ n : Int, d = .int n ∧ n < 2 ^ 62 ∧ -(2 ^ 62) ≤ n ∧ Q ((List.range n.toNat).map fun i : Nat => .int i) [] H₁) X) X)
    (he : starEach [e] f.env = [(false, eval e f.env)] := by rfl) : EvIt c f (.Call (.Name x p₁) [e] [] p) m H Q X := .mk fun s S => by
  refine PyProof.Rows.Call_ (wpAny_mono (h s S) (fun v s₁ z => ?_) fun _ _ x => x)
  obtain ⟨t₁, d, H₁, i₁, S₁, rfl, q₁⟩ := z
  obtain rfl : v = .type "range" := i₁
  refine PyProof.Rows.callWith_type1 (PyProof.Rows.args_cons (wpAny_mono (q₁ s₁ S₁) (fun v s₂ z => ?_) fun _ _ x => x) he) he rfl
  obtain ⟨t₂, d, H₂, i₂, S₂, n, rfl, hn, hn', q₂⟩ := z
  simp only [Is] at i₂
  obtain ⟨t, rfl⟩ := i₂
  refine PyProof.Rows.args_nil (call_range_1 ?_)
  have S₃ := S₂.grow (s' := { s₂ with heap := s₂.heap.push { cls := .type "range", data := .fields #[.int 0 s₂.toks, .int n t, .int 1 (s₂.toks + 1)] }, toks := s₂.toks + 1 + 1 }) (Grow.push _ _) rfl rfl
  refine it_range (a := 0) (b := n) hh S₃ (t₁.trans (t₂.trans (Grow.push _ _).tk)) (IsRange.new ..) (by decide) (by decide) hn' hn ?_
  rw [Int.sub_zero]
  have : ((List.range n.toNat).map fun i : Nat => V.int (0 + (i : Int))) = (List.range n.toNat).map fun i : Nat => .int i := by simp
  rw [this]; exact q₂
end
end Mine
set_option maxRecDepth 100000
set_option linter.unusedVariables false
namespace Mine
open PySem
section
variable {c : Cx} {f : Fx} {m : Loc} {H : AH} {X : Value → AH → Prop}
def CompOk (c : Cx) (f : Fx) (m : Loc) (scope : Scope) (cl : List (Str × Addr)) (x : Str) (elt : Expr) (ifs : List Expr) (Q : V → AH → Prop) (ds : List V) (tr : List Addr) (H₁ : AH) : Prop :=
  ds.length ≤ sizeLine ∧ ∃ J : Nat → List V → AH → Prop, J 0 [] H₁ ∧
    (∀ i d acc H' C hE, ds[i]? = some d → J i acc H' → (∀ b ∈ tr, H' b = H₁ b) →
      CompT c (compF f scope cl C hE H') elt ifs (compM m cl x d) H' (fun e H'' => J (i + 1) (acc ++ [e]) H'' ∧ ∀ b ∈ tr, H'' b = H₁ b) (fun H'' => J (i + 1) acc H'' ∧ ∀ b ∈ tr, H'' b = H₁ b)) ∧
    (∀ acc H' a o, J ds.length acc H' → (∀ b ∈ tr, H' b = H₁ b) → H' a = none → Q (.ref a) (H'.set a ⟨o, .list acc⟩))
theorem Ev_comp {x : Str} {px pos : Pos} {iter elt : Expr} {ifs : List Expr} {scope : Scope} {cl : List (Str × Addr)} {Q : V → AH → Prop} (K : CxOk c)
    (h : EvIt c f iter m H (CompOk c f m scope cl x elt ifs Q) X) (hclos : closureFor scope f.env = pure cl)
    (hcell : ∀ y ∈ scope.names, y.2 ≠ .cell) (hkind : scope.kind = .function) (hnames : ∀ y ∈ scope.names, y.2 = .local → scope.names.lookup y.1 = some .local) (hx : scope.names.lookup x = some .local)
    (hcl : ∀ y a, cl.lookup y = some a → f.env.cells.lookup y = some a ∧ f.env.kindOf y = some .cell ∧ (relabel scope f.env).names.lookup y = some .cell)
    (hs : ∀ x, foldedSetIterable iter f.env x = pure x := by intro _; rfl) : Ev c f (.ListComp elt [⟨.Name x px, iter, ifs, 0⟩] scope pos) m H Q X := .mk fun s S => by
  rw [eval_ListComp]
  refine wpAny_comprehension_free (use := none) rfl hs hclos hkind hnames (wpAny_mono (h s S) (fun xv s₁ z => wpAny_mono z (fun it s₂ z => ?_) fun _ _ e => e) fun _ _ e => e)
  refine e4a8 z fun I ds tr H₁ rq45 t₂ S₂ hIn hIk hI hsz rq46 => ?_; clear z; obtain rfl := rq45; refine e1a3 rq46 fun J j0 turn fin => ?_; clear rq46
  refine comp_core (RR := fun acc C => compPost c.M f.A (Thr c f m X) none (Good c f m Q s) acc C) S₂ hIn hIk hI hsz (S₂.sizeBig K) J j0 hcell hkind hx hcl turn ?_
  intro D C s' acc vs H' mv hb S' t' pl ia ns D' C' hD hC hDC jj ee
  refine e0a6 (S₂.apartOf hD) fun _ aD2 aD3 aD4 aD5 aD6 => ?_
  refine e0a6 (S₂.apartOf hC) fun _ aC2 aC3 aC4 aC5 aC6 => ?_
  refine ⟨mv, ns, fun h' sb => ?_⟩
  refine e3a3 ns fun oC esC epC gC dC _ => ?_; clear ns
  obtain ⟨S₃, t₃⟩ := S'.other (s' := { s' with heap := h' }) C' aC2 aC3 aC4 aC5 aC6 (fun o vs n e cl' dt => by rw [gC] at e; cases e; rw [dC] at dt; cases dt) sb.extBut rfl rfl
  refine e2a2 (pl.extBut sb.extBut hDC) fun oD nD gD r => ?_
  exact ⟨t₂.trans (t'.trans t₃), .ref D, _, rfl, S₃.track (x := ⟨oD, .list acc⟩) D' aD2 aD3 aD4 aD5 hb ⟨gD, vs, ⟨oD, nD, gD, r⟩, ia.tk t₃⟩, fin acc H' D oD jj ee D'⟩
theorem Ex_assign_comp {x y : Str} {px py pos q : Pos} {iter elt : Expr} {ifs : List Expr} {scope : Scope} {cl : List (Str × Addr)} {rest : List Stmt} {Q : Ko} (K : CxOk c)
    (h : EvIt c f iter m H (CompOk c f m scope cl x elt ifs (fun d H' => Ex c f rest (m.set y d) H' Q)) (fun C H' => Q (.exc C) m H'))
    (hsw : swapsWith (.ListComp elt [⟨.Name x px, iter, ifs, 0⟩] scope pos) (some (.Name y py)) q.line f.env = pure true) (hclos : closureFor scope f.env = pure cl)
    (hcell : ∀ y ∈ scope.names, y.2 ≠ .cell) (hkind : scope.kind = .function) (hnames : ∀ y ∈ scope.names, y.2 = .local → scope.names.lookup y.1 = some .local) (hx : scope.names.lookup x = some .local)
    (hcl : ∀ y a, cl.lookup y = some a → f.env.cells.lookup y = some a ∧ f.env.kindOf y = some .cell ∧ (relabel scope f.env).names.lookup y = some .cell)
    (hy : (f.env.kindOf y = some .local) ∨ (f.env.kindOf y = some .cell ∧ (f.env.cells.lookup y).isSome = true)) (hfn : f.fn = true := by rfl) (hk : f.env.scope.kind = .function := by rfl)
    (hs : ∀ x, foldedSetIterable iter f.env x = pure x := by intro _; rfl) : Ex c f (.Assign [.Name y py] (.ListComp elt [⟨.Name x px, iter, ifs, 0⟩] scope pos) q :: rest) m H Q := .mk fun s S => by
  refine wpAny_execs_cons ?_
  rw [exec_Assign_Name_used _ _ _ _ hsw]
  refine wpAny_bind (wpAny_standAt (wpAny_bind ?_))
  show wpAny c.M f.A (do let _ ← comprehension (.ListComp elt [⟨.Name x px, iter, ifs, 0⟩] scope pos) scope f.env _ (newList []) false (eval iter f.env) (some (assign (.Name y py) f.env))) _ _ s
  refine wpAny_bind (wpAny_mono (wpAny_comprehension_free (use := some (assign (.Name y py) f.env)) (Q := fun _ s' => ∃ H' D, St c f (m.set y (.ref D)) H' s' ∧ Ex c f rest (m.set y (.ref D)) H' Q) rfl hs hclos hkind hnames
    (wpAny_mono (h s S) (fun xv s₁ z => wpAny_mono z (fun it s₂ z => ?_) fun x s' z => z.ex fun _ _ y => y) fun x s' z => z.ex fun _ _ y => y)) (fun _ s' z => ?_) fun _ _ e => e)
  · refine e4a8 z fun I ds tr H₁ rq47 t₂ S₂ hIn hIk hI hsz rq48 => ?_; clear z; obtain rfl := rq47; refine e1a3 rq48 fun J j0 turn fin => ?_; clear rq48
    refine comp_core (RR := fun acc C => compPost c.M f.A (ExTh c f Q) (some (assign (.Name y py) f.env)) (fun _ s' => ∃ H' D, St c f (m.set y (.ref D)) H' s' ∧ Ex c f rest (m.set y (.ref D)) H' Q) acc C) S₂ hIn hIk hI hsz (S₂.sizeBig K) J j0 hcell hkind hx hcl turn ?_
    intro D C s' acc vs H' mv hb S' t' pl ia ns D' C' hD hC hDC jj ee
    refine e0a6 (S₂.apartOf hD) fun _ aD2 aD3 aD4 aD5 aD6 => ?_
    refine e0a6 (S₂.apartOf hC) fun _ aC2 aC3 aC4 aC5 aC6 => ?_
    refine e2a2 pl fun oD nD gD r => ?_; clear pl
    refine e3a3 (id ns) fun oC esC epC gC dC nsr => ?_
    have S₃ := S'.track (x := ⟨oD, .list acc⟩) D' aD2 aD3 aD4 aD5 hb ⟨gD, vs, ⟨oD, nD, gD, r⟩, ia⟩
    -- the store, with the comprehension's own names standing by
    show wpAny c.M f.A (assign (.Name y py) f.env (.ref D)) _ _ _
    have HC : (H'.set D ⟨oD, .list acc⟩) C = none := (AH.set_other H' _ (Ne.symm hDC)).trans C'
    refine wpAny_assign_Name (store_ok S₃ (d := .ref D) rfl hy hfn hk fun s'' S'' _ kp => ?_)
    have gC'' := kp C oC aC3 (fun x a e q => aC4 x a e q.symm) gC
    refine ⟨mv, ⟨oC, esC, epC, gC'', dC, nsr⟩, fun h' sb => ?_⟩
    obtain ⟨S₅, _⟩ := S''.other (s' := { s'' with heap := h' }) HC aC2 aC3 aC4 aC5 aC6 (fun o vs n e cl' dt => by rw [gC''] at e; cases e; rw [dC] at dt; cases dt) sb.extBut rfl rfl
    exact ⟨_, D, S₅, fin acc H' D oD jj ee D'⟩
  · refine e2a2 z fun H' D S' e => ?_; clear z
    exact wpAny_pure (wpAny_pure (e s' S'))
end
end Mine
set_option maxRecDepth 100000
set_option linter.unusedVariables false
namespace Mine
open PySem PyProof.Rows
section
variable {c : Cx} {f : Fx} {m : Loc} {H : AH} {X : Value → AH → Prop} {Q : V → AH → Prop}
theorem Ev_callB {x : Str} {p₁ p : Pos} {e : Expr} {es : List Expr} {id : String}
    (h : Ev c f (.Name x p₁) m H (fun d H' => d = .raw (.builtin id) ∧ Evs c f (e :: es) p m H' (fun ds H'' => OpN c f (fun vs => call (.builtin id) vs) ds m H'' Q X) X) X)
    (he : starEach (e :: es) f.env = (false, eval e f.env) :: starEach es f.env := by rfl) (hp : (backTo p (starEach es f.env)).any (·.1) = false := by rfl) : Ev c f (.Call (.Name x p₁) (e :: es) [] p) m H Q X := .mk fun s S => by
  refine Call_ (wpAny_mono (h s S) (fun v s₁ z => ?_) fun _ _ x => x)
  obtain ⟨t₁, d, H₁, i₁, S₁, rfl, q₁⟩ := z
  obtain rfl : v = .builtin id := i₁
  refine callWith_builtin1 (wpAny_mono (q₁ s₁ S₁) (fun vs s₂ z => ?_) fun _ _ x => x) he hp
  obtain ⟨t₂, ds, H₂, i₂, S₂, q₂⟩ := z
  exact wpAny_mono (q₂ s₂ vs S₂ i₂) (fun v s₃ ⟨t₃, r⟩ => ⟨t₁.trans (t₂.trans t₃), r⟩) fun _ _ x => x
theorem Ev_callT {x : Str} {p₁ p : Pos} {e : Expr} {es : List Expr} {T : String}
    (h : Ev c f (.Name x p₁) m H (fun d H' => d = .raw (.type T) ∧ Evs c f (e :: es) p m H' (fun ds H'' => OpN c f (fun vs => call (.type T) vs) ds m H'' Q X) X) X)
    (he : starEach (e :: es) f.env = (false, eval e f.env) :: starEach es f.env := by rfl) (hp : (backTo p (starEach es f.env)).any (·.1) = false := by rfl) : Ev c f (.Call (.Name x p₁) (e :: es) [] p) m H Q X := .mk fun s S => by
  refine Call_ (wpAny_mono (h s S) (fun v s₁ z => ?_) fun _ _ x => x)
  obtain ⟨t₁, d, H₁, i₁, S₁, rfl, q₁⟩ := z
  obtain rfl : v = .type T := i₁
  refine callWith_type1 (wpAny_mono (q₁ s₁ S₁) (fun vs s₂ z => ?_) fun _ _ x => x) he hp
  obtain ⟨t₂, ds, H₂, i₂, S₂, q₂⟩ := z
  exact wpAny_mono (q₂ s₂ vs S₂ i₂) (fun v s₃ ⟨t₃, r⟩ => ⟨t₁.trans (t₂.trans t₃), r⟩) fun _ _ x => x
def Pes (c : Cx) (f : Fx) (es : List Expr) (m : Loc) (H : AH) (ds : List V) : Prop := ∀ p, Evs c f es p m H (fun ds' H' => ds' = ds ∧ H' = H) (fun _ _ => False)
theorem Evs.mono {p : Pos} {es : List Expr} {Q Q' : List V → AH → Prop} {X' : Value → AH → Prop} (h : Evs c f es p m H Q X) (k : ∀ d H, Q d H → Q' d H) (kx : ∀ C H, X C H → X' C H) : Evs c f es p m H Q' X' :=
  .mk fun s S => wpAny_mono (h s S) (fun _ _ ⟨t, d, H', i, S', q⟩ => ⟨t, d, H', i, S', k _ _ q⟩) fun _ _ g => g.mono kx
theorem Pes.evs {p : Pos} {es : List Expr} {ds : List V} {Q : List V → AH → Prop} (h : Pes c f es m H ds) (q : Q ds H) : Evs c f es p m H Q X :=
  Evs.mono (h p) (fun _ _ ⟨a, b⟩ => by subst a; subst b; exact q) fun _ _ z => z.elim
theorem Pes_nil : Pes c f [] m H [] := fun p => Evs_nil ⟨rfl, rfl⟩
theorem Pes_cons {e : Expr} {es : List Expr} {d : V} {ds : List V} (h : Pe c f e m H d) (hs : Pes c f es m H ds) (he : starEach (e :: es) f.env = (false, eval e f.env) :: starEach es f.env := by rfl) : Pes c f (e :: es) m H (d :: ds) := fun p =>
  Evs_cons (h.ev (hs.evs ⟨rfl, rfl⟩)) he
theorem Pe_var {x : Str} {p : Pos} {d : V} (hx : m x = some d) (hk : f.env.scope.kind = .function := by rfl) (hd : (x == ("__debug__" : Str)) = false := by decide)
    (hn : (x == ("__classdict__" : Str)) = false := by decide) : Pe c f (.Name x p) m H d := Ev_var hx ⟨rfl, rfl⟩ hk hd hn
theorem Pe_glob {x : Str} {p : Pos} {v : Value} (K : CxOk c) (hx : GN c x v) (hg : f.env.globals = mainGlobals := by rfl) (hb : f.env.builtins = builtinsNs := by rfl)
    (hk : f.env.scope.kind = .function := by rfl) (hn : f.env.kindOf x = some .globalImplicit := by rfl) (hd : (x == ("__debug__" : Str)) = false := by decide) : Pe c f (.Name x p) m H (.raw v) := Ev_glob K hx ⟨rfl, rfl⟩ hg hb hk hn hd
theorem Pe_int {i : Int} {k : Nat} {p : Pos} : Pe c f (.Constant (.int i) k p) m H (.int i) := Ev_int ⟨rfl, rfl⟩
theorem Pe_str {x : Str} {k : Nat} {p : Pos} : Pe c f (.Constant (.str x) k p) m H (.str x) := Ev_str ⟨rfl, rfl⟩
theorem Pe_none {k : Nat} {p : Pos} : Pe c f (.Constant .none k p) m H .none := Ev_none ⟨rfl, rfl⟩
theorem Pe_bool {b : Bool} {k : Nat} {p : Pos} : Pe c f (.Constant (.bool b) k p) m H (.bool b) := Ev_bool ⟨rfl, rfl⟩
structure B2 (c : Cx) (f : Fx) (H : AH) (t : Value → Value → Sem Value) (d₁ d₂ d : V) : Prop where
  mk ::
  run :
   ∀ m s v₁ v₂, St c f m H s → Is s.heap d₁ v₁ → Is s.heap d₂ v₂ → Yield c f.A (t v₁ v₂) s d
instance {c : Cx} {f : Fx} {H : AH} {t : Value → Value → Sem Value} {d₁ d₂ d : V} : CoeFun (B2 c f H t d₁ d₂ d) (fun _ =>
   ∀ m s v₁ v₂, St c f m H s → Is s.heap d₁ v₁ → Is s.heap d₂ v₂ → Yield c f.A (t v₁ v₂) s d) := ⟨B2.run⟩
theorem B2.op {t : Value → Value → Sem Value} {d₁ d₂ d : V} (h : B2 c f H t d₁ d₂ d) (q : Q d H) : Op2 c f t d₁ d₂ m H Q X := .mk fun s v₁ v₂ S i₁ i₂ => (h m s v₁ v₂ S i₁ i₂).good S q
structure BN (c : Cx) (f : Fx) (H : AH) (t : List Value → Sem Value) (ds : List V) (d : V) : Prop where
  mk ::
  run :
   ∀ m s vs, St c f m H s → IsAll s.heap ds vs → Yield c f.A (t vs) s d
instance {c : Cx} {f : Fx} {H : AH} {t : List Value → Sem Value} {ds : List V} {d : V} : CoeFun (BN c f H t ds d) (fun _ =>
   ∀ m s vs, St c f m H s → IsAll s.heap ds vs → Yield c f.A (t vs) s d) := ⟨BN.run⟩
theorem BN.op {t : List Value → Sem Value} {ds : List V} {d : V} (h : BN c f H t ds d) (q : Q d H) : OpN c f t ds m H Q X := .mk fun s vs S i => (h m s vs S i).good S q
theorem Pe_bin {l r : Expr} {op : Operator} {p : Pos} {d₁ d₂ d : V} (hl : Pe c f l m H d₁) (hr : Pe c f r m H d₂) (h : B2 c f H (binaryOp op) d₁ d₂ d) : Pe c f (.BinOp l op r p) m H d :=
  Ev_bin (hl.ev (hr.ev (h.op ⟨rfl, rfl⟩)))
theorem Pe_cmp {l r : Expr} {op : CmpOp} {p : Pos} {d₁ d₂ d : V} (hl : Pe c f l m H d₁) (hr : Pe c f r m H d₂) (h : B2 c f H (compareOp op) d₁ d₂ d) (hm : behindInMarks op r = false := by with_unfolding_all rfl) : Pe c f (.Compare l [op] [r] p) m H d :=
  Ev_cmp (hl.ev (hr.ev (h.op ⟨rfl, rfl⟩))) hm
theorem Tp_cmp {l r : Expr} {op : CmpOp} {p : Pos} {d₁ d₂ : V} {b : Bool} {P : Prop} (hl : Pe c f l m H d₁) (hr : Pe c f r m H d₂) (h : B2 c f H (compareOp op) d₁ d₂ (.bool b)) (hP : b = true ↔ P) (hm : behindInMarks op r = false := by with_unfolding_all rfl) :
    Tp c f (.Compare l [op] [r] p) m H P := Ts_cmp (hl.ev (hr.ev (h.op ⟨b, rfl, rfl, hP⟩))) hm
theorem Pe_callB {x : Str} {p₁ p : Pos} {e : Expr} {es : List Expr} {id : String} {ds : List V} {d : V} (hx : Pe c f (.Name x p₁) m H (.raw (.builtin id))) (hs : Pes c f (e :: es) m H ds) (h : BN c f H (fun vs => call (.builtin id) vs) ds d)
    (he : starEach (e :: es) f.env = (false, eval e f.env) :: starEach es f.env := by rfl) (hp : (backTo p (starEach es f.env)).any (·.1) = false := by rfl) : Pe c f (.Call (.Name x p₁) (e :: es) [] p) m H d :=
  Ev_callB (hx.ev ⟨rfl, hs.evs (h.op ⟨rfl, rfl⟩)⟩) he hp
theorem Pe_call {x : Str} {p₁ p : Pos} {e : Expr} {es : List Expr} {k : Nat} {fa : Addr} {o : Obj} {fd : FuncData} {ds : List V} {d : V} (ho : c.base.get? fa = some o) (hd : o.data = .func fd) (R : Room k f.A) (hf : f.A.frames = some f.frs)
    (hx : Pe c f (.Name x p₁) m H (.ref fa)) (hs : Pes c f (e :: es) m H ds) (h : Fn c k (.ref fa) ds H (fun d' H' => d' = d ∧ H' = H) (fun _ _ => False))
    (he : starEach (e :: es) f.env = (false, eval e f.env) :: starEach es f.env := by rfl) : Pe c f (.Call (.Name x p₁) (e :: es) [] p) m H d :=
  Ev_call ho hd R hf (hx.ev ⟨rfl, hs.evs h⟩) he
-- ints
theorem is_int {h : Heap} {i : Int} {v : Value} (x : Is h (.int i) v) : ∃ t, v = .int i t := by simpa only [Is] using x
theorem is_str {h : Heap} {i : Str} {v : Value} (x : Is h (.str i) v) : ∃ t, v = .str i t := by simpa only [Is] using x
theorem is_raw {h : Heap} {u v : Value} (x : Is h (.raw u) v) : v = u := by simpa only [Is] using x
theorem mk_int {h : Heap} {i : Int} {t : Tok} : Is h (.int i) (.int i t) := by simp only [Is]; exact ⟨t, rfl⟩
theorem mk_str {h : Heap} {i : Str} {t : Tok} : Is h (.str i) (.str i t) := by simp only [Is]; exact ⟨t, rfl⟩
theorem mk_raw {h : Heap} {u : Value} : Is h (.raw u) u := by simp only [Is]
theorem B_add {a b : Int} : B2 c f H (binaryOp .Add) (.int a) (.int b) (.int (a + b)) := .mk fun m s v₁ v₂ S i₁ i₂ => by
  obtain ⟨t, rfl⟩ := is_int i₁; obtain ⟨u, rfl⟩ := is_int i₂
  exact PyProof.Rows.add_int ⟨Grow.refl _, rfl, rfl, mk_int⟩
theorem B_sub {a b : Int} : B2 c f H (binaryOp .Sub) (.int a) (.int b) (.int (a - b)) := .mk fun m s v₁ v₂ S i₁ i₂ => by
  obtain ⟨t, rfl⟩ := is_int i₁; obtain ⟨u, rfl⟩ := is_int i₂
  exact PyProof.Rows.sub_int ⟨Grow.refl _, rfl, rfl, mk_int⟩
theorem B_mul {a b : Int} (hm : IntMulOk a b) : B2 c f H (binaryOp .Mult) (.int a) (.int b) (.int (a * b)) := .mk fun m s v₁ v₂ S i₁ i₂ => by
  obtain ⟨t, rfl⟩ := is_int i₁; obtain ⟨u, rfl⟩ := is_int i₂
  exact PyProof.Rows.mul_int ⟨Grow.refl _, rfl, rfl, mk_int⟩ hm
theorem B_div {a b : Int} (hb : 0 < b) (hb2 : b < 1073741824) : B2 c f H (binaryOp .FloorDiv) (.int a) (.int b) (.int (a / b)) := .mk fun m s v₁ v₂ S i₁ i₂ => by
  obtain ⟨t, rfl⟩ := is_int i₁; obtain ⟨u, rfl⟩ := is_int i₂
  refine PyProof.Rows.floordiv_int (by exact om13 hb) ?_ (.inl (PyProof.noPylong_small (by omega)))
  rw [Int.fdiv_eq_ediv_of_nonneg _ (by exact om14 hb)]
  exact ⟨Grow.refl _, rfl, rfl, mk_int⟩
theorem B_mod {a b : Int} (hb : 0 < b) : B2 c f H (binaryOp .Mod) (.int a) (.int b) (.int (a % b)) := .mk fun m s v₁ v₂ S i₁ i₂ => by
  obtain ⟨t, rfl⟩ := is_int i₁; obtain ⟨u, rfl⟩ := is_int i₂
  refine PyProof.Rows.mod_int (by exact om13 hb) ?_
  rw [Int.fmod_eq_emod_of_nonneg _ (by exact om14 hb)]
  exact ⟨Grow.refl _, rfl, rfl, mk_int⟩
theorem B_pow {a n : Int} (hn : 0 ≤ n) (hn2 : n ≤ 1000000) (ha : a.natAbs < 2 ^ 64) : B2 c f H (binaryOp .Pow) (.int a) (.int n) (.int (a ^ n.toNat)) := .mk fun m s v₁ v₂ S i₁ i₂ => by
  obtain ⟨t, rfl⟩ := is_int i₁; obtain ⟨u, rfl⟩ := is_int i₂
  exact PyProof.Rows.pow_int_small hn hn2 ha ⟨Grow.refl _, rfl, rfl, mk_int⟩
theorem Pe_neg {e : Expr} {p : Pos} {a : Int} (h : Pe c f e m H (.int a)) : Pe c f (.UnaryOp .USub e p) m H (.int (-a)) := .mk fun s S => by
  show wpAny c.M f.A (do let v ← eval e f.env; standAt p; holding [v] (unaryOp .USub v)) _ _ s
  refine wpAny_bind (wpAny_mono (h s S) (fun v s₁ z => ?_) fun _ _ x => x)
  obtain ⟨t, d, H', i, S₁, rfl, rfl⟩ := z
  obtain ⟨u, rfl⟩ := is_int i
  exact wpAny_bind (wpAny_standAt (wpAny_holding (PyProof.Rows.neg_int ⟨t, .int (-a), H', mk_int, S₁.grow (s' := { s₁ with toks := s₁.toks + 1 }) (Grow.refl _) rfl rfl, rfl, rfl⟩)))
theorem B_lt {a b : Int} : B2 c f H (compareOp .Lt) (.int a) (.int b) (.bool (decide (a < b))) := .mk fun m s v₁ v₂ S i₁ i₂ => by
  obtain ⟨t, rfl⟩ := is_int i₁; obtain ⟨u, rfl⟩ := is_int i₂
  exact PyProof.Rows.lt_int ⟨Grow.refl _, rfl, rfl, mk_raw⟩
theorem B_le {a b : Int} : B2 c f H (compareOp .LtE) (.int a) (.int b) (.bool (decide (a ≤ b))) := .mk fun m s v₁ v₂ S i₁ i₂ => by
  obtain ⟨t, rfl⟩ := is_int i₁; obtain ⟨u, rfl⟩ := is_int i₂
  exact PyProof.Rows.le_int ⟨Grow.refl _, rfl, rfl, mk_raw⟩
theorem B_gt {a b : Int} : B2 c f H (compareOp .Gt) (.int a) (.int b) (.bool (decide (b < a))) := .mk fun m s v₁ v₂ S i₁ i₂ => by
  obtain ⟨t, rfl⟩ := is_int i₁; obtain ⟨u, rfl⟩ := is_int i₂
  exact PyProof.Rows.gt_int ⟨Grow.refl _, rfl, rfl, mk_raw⟩
theorem B_eq {a b : Int} : B2 c f H (compareOp .Eq) (.int a) (.int b) (.bool (a == b)) := .mk fun m s v₁ v₂ S i₁ i₂ => by
  obtain ⟨t, rfl⟩ := is_int i₁; obtain ⟨u, rfl⟩ := is_int i₂
  exact PyProof.Rows.eq_int ⟨Grow.refl _, rfl, rfl, mk_raw⟩
theorem B_ne {a b : Int} : B2 c f H (compareOp .NotEq) (.int a) (.int b) (.bool (a != b)) := .mk fun m s v₁ v₂ S i₁ i₂ => by
  obtain ⟨t, rfl⟩ := is_int i₁; obtain ⟨u, rfl⟩ := is_int i₂
  exact PyProof.Rows.ne_int ⟨Grow.refl _, rfl, rfl, mk_raw⟩
theorem B_eqs {x y : Str} : B2 c f H (compareOp .Eq) (.str x) (.str y) (.bool (x == y)) := .mk fun m s v₁ v₂ S i₁ i₂ => by
  obtain ⟨t, rfl⟩ := is_str i₁; obtain ⟨u, rfl⟩ := is_str i₂
  exact PyProof.Rows.eq_str ⟨Grow.refl _, rfl, rfl, mk_raw⟩
theorem B_nes {x y : Str} : B2 c f H (compareOp .NotEq) (.str x) (.str y) (.bool (x != y)) := .mk fun m s v₁ v₂ S i₁ i₂ => by
  obtain ⟨t, rfl⟩ := is_str i₁; obtain ⟨u, rfl⟩ := is_str i₂
  exact PyProof.Rows.ne_str ⟨Grow.refl _, rfl, rfl, mk_raw⟩
theorem B_cat {x y : Str} (hsz : x.length + y.length ≤ sizeLine) : B2 c f H (binaryOp .Add) (.str x) (.str y) (.str (x ++ y)) := .mk fun m s v₁ v₂ S i₁ i₂ => by
  obtain ⟨t, rfl⟩ := is_str i₁; obtain ⟨u, rfl⟩ := is_str i₂
  exact PyProof.Rows.add_str (fun t' tk => ⟨Grow.refl _, rfl, rfl, mk_str⟩) hsz
theorem isNone_iff {h : Heap} {d : V} {v : Value} (i : Is h d v) : (v == .none) = true ↔ d = .none := by
  rw [beq_iff_eq]
  cases d with
  | int i' => obtain ⟨t, rfl⟩ := is_int i; exact ⟨(fun e => nomatch e), (fun e => nomatch e)⟩
  | str i' => obtain ⟨t, rfl⟩ := is_str i; exact ⟨(fun e => nomatch e), (fun e => nomatch e)⟩
  | tup ds => simp only [Is] at i; refine e2a2 i fun a vs rq49 _ => ?_; clear i; obtain rfl := rq49; exact ⟨(fun e => nomatch e), (fun e => nomatch e)⟩
  | raw u => obtain rfl := is_raw i; exact ⟨fun e => by rw [e], fun e => by injection e⟩
theorem Tp_isNotNone {l : Expr} {p p₂ : Pos} {k : Nat} {d : V} (hl : Pe c f l m H d) : Tp c f (.Compare l [.IsNot] [.Constant .none k p₂] p) m H (d ≠ .none) :=
  Ts_cmp (hl.ev (Pe_none.ev <| .mk fun s v₁ v₂ S i₁ i₂ => by
    obtain rfl := is_raw i₂
    refine isNot_none ⟨Tk.refl _, _, H, mk_raw, S, _, rfl, rfl, ?_⟩
    rw [ne_eq, ← isNone_iff i₁]; simp))
-- tests
theorem Tp_not {e : Expr} {p : Pos} {P : Prop} (h : Tp c f e m H P) : Tp c f (.UnaryOp .Not e p) m H (¬ P) :=
  Ts_not (Ts.mono h (fun b H' ⟨e, q⟩ => ⟨e, by cases b <;> simp_all⟩) fun _ _ z => z)
theorem Tp_val {e : Expr} {b : Bool} {P : Prop} (h : Pe c f e m H (.bool b)) (hP : b = true ↔ P) (he : ∀ w, isTrue e f.env w = (do let v ← w; standAt e.pos; holding [v] (truthy v)) := by intro _; rfl) : Tp c f e m H P :=
  Ts_val (h.ev ⟨b, rfl, rfl, hP⟩) he
end
end Mine
set_option maxRecDepth 100000
set_option linter.unusedVariables false
namespace Mine
open PySem PyProof.Rows PySem.Builtin
section
variable {c : Cx} {f : Fx} {m : Loc} {H : AH} {X : Value → AH → Prop} {Q : V → AH → Prop}
structure G2 (c : Cx) (f : Fx) (H : AH) (o i d : V) : Prop where
  mk ::
  run :
   ∀ m s vo vi, St c f m H s → Is s.heap o vo → Is s.heap i vi → ∃ T id, s.TypeIs vo T ∧ typeLookup (.type T) "__getitem__" = pure (some (.builtin id)) ∧ Yield c f.A (getItem vo vi) s d
instance {c : Cx} {f : Fx} {H : AH} {o i d : V} : CoeFun (G2 c f H o i d) (fun _ =>
   ∀ m s vo vi, St c f m H s → Is s.heap o vo → Is s.heap i vi → ∃ T id, s.TypeIs vo T ∧ typeLookup (.type T) "__getitem__" = pure (some (.builtin id)) ∧ Yield c f.A (getItem vo vi) s d) := ⟨G2.run⟩
theorem Pe_sub {value slice : Expr} {p : Pos} {o i d : V} (hv : Pe c f value m H o) (hi : Pe c f slice m H i) (h : G2 c f H o i d)
    (hs : ∀ o i, ∃ ops, subscripted slice false o i = operate ops (getItem o i) := by intro o i; exact ⟨_, rfl⟩) : Pe c f (.Subscript value slice p) m H d := .mk fun s S => by
  refine Subscript_ (wpAny_mono (hv s S) (fun vo s₁ z => ?_) fun _ _ x => x)
  obtain ⟨t₁, d₁, H₁, i₁, S₁, rfl, rfl⟩ := z
  refine wpAny_mono (hi s₁ S₁) (fun vi s₂ z => ?_) fun _ _ x => x
  obtain ⟨t₂, d₂, H₂, i₂, S₂, rfl, rfl⟩ := z
  refine e2a3 (h m s₂ vo vi S₂ (i₁.tk t₂) i₂) fun T id hT hl y => ?_
  obtain ⟨ops, e⟩ := hs vo vi
  refine tail_any hT hl (wpAny_mono y (fun v s₃ z => ?_) fun _ _ x => x.elim) e
  refine e0a4 z fun g hg ho i => ?_; clear z
  exact ⟨t₁.trans (t₂.trans g.tk), d, _, i, S₂.grow g hg ho, rfl, rfl⟩
abbrev V.s (l : List Nat) : V := .str ⟨l.toArray⟩
theorem V.s_of (x : Str) : V.str x = V.s x.cps.toList := by cases x; simp
theorem Pe_strc {x : Str} {k : Nat} {p : Pos} : Pe c f (.Constant (.str x) k p) m H (.s x.cps.toList) := V.s_of x ▸ Pe_str
theorem mk_length (l : List Nat) : Str.length ⟨l.toArray⟩ = l.length := by simp [Str.length]
theorem item_mk {l : List Nat} {i : Int} {ch : Nat} {j : Nat} (hj : seqIndex? i l.length = some j) (hc : l[j]? = some ch) : Txt.item ⟨l.toArray⟩ i = ⟨[ch].toArray⟩ ∧ (Txt.charAt ⟨l.toArray⟩ i).isSome = true := by
  have : Txt.charAt ⟨l.toArray⟩ i = some ch := by
    unfold Txt.charAt; rw [mk_length, hj]; simpa using hc
  exact ⟨by unfold Txt.item; rw [this]; rfl, by rw [this]; rfl⟩
theorem seqIndex_pos {i : Int} {n : Nat} (h0 : 0 ≤ i) (h1 : i < n) : seqIndex? i n = some i.toNat := by
  have : ¬ i < 0 := by exact om15 h0
  simp [seqIndex?, this, h0, h1]
theorem seqIndex_neg {i : Int} {n : Nat} (h0 : i < 0) (h1 : 0 ≤ i + n) : seqIndex? i n = some (i + n).toNat := by
  have : i + n < n := by exact om16 h0
  simp [seqIndex?, h0, h1, this]
theorem fits_of {i : Int} (h : -9223372036854775808 ≤ i ∧ i < 9223372036854775808) : fitsSsize i = true := by
  unfold fitsSsize; simp; exact om17 h
theorem G_str {l : List Nat} {i : Int} {j ch : Nat} (hj : seqIndex? i l.length = some j) (hc : l[j]? = some ch) (hf : -9223372036854775808 ≤ i ∧ i < 9223372036854775808) : G2 c f H (.s l) (.int i) (.s [ch]) := .mk fun m s vo vi S io ii => by
  obtain ⟨t, rfl⟩ := is_str io; obtain ⟨u, rfl⟩ := is_int ii
  obtain ⟨e, e'⟩ := item_mk hj hc
  refine e2a3 (SB.item (prog := c.prog) (w := c.w) (A := f.A) (E := fun _ _ => False) (s := s) (t := t) (u := u) (x := ⟨l.toArray⟩) (i := i) (Q := fun v s' => Grow s.heap s'.heap ∧ s'.gens = s.gens ∧ s'.os = s.os ∧ Is s'.heap (.s [ch]) v) (fits_of hf) e' (by rw [e]; exact ⟨Grow.refl _, rfl, rfl, mk_str⟩)) fun T id hl hT h => ?_
  exact ⟨T, id, hT, hl, h⟩
theorem G_tup {ds : List V} {i : Int} {j : Nat} {d : V} (hj : seqIndex? i ds.length = some j) (hd : ds[j]? = some d) (hf : -9223372036854775808 ≤ i ∧ i < 9223372036854775808) : G2 c f H (.tup ds) (.int i) d := .mk fun m s vo vi S io ii => by
  simp only [Is] at io; refine e2a3 io fun a vs rq50 rq51 ia => ?_; clear io; obtain rfl := rq50; obtain ⟨o, n, g, cl, dt⟩ := rq51; obtain ⟨u, rfl⟩ := is_int ii
  refine e1a2 (ia.get hd) fun v hv iv => ?_
  have ht : IsTup s.heap a vs.toArray := ⟨o, g, cl, n, dt⟩
  exact ⟨"tuple", _, ht.typeIs, slot_tuple_getitem.lookup, getItem_tuple ht (by omega) (by omega) (by rw [List.size_toArray, ia.length]; exact hj) (by simpa using hv) ⟨Grow.refl _, rfl, rfl, iv⟩⟩
theorem pick_take {l : List Nat} : ∀ (n a : Nat), a + n ≤ l.length → ((List.range n).map (fun k => a + k)).filterMap (l[·]?) = (l.take (a + n)).drop a
  | 0, a, h => by simp
  | n + 1, a, h => by
    have ih := pick_take (l := l) n (a + 1) (by exact om18 h)
    have ha : a < (l.take (a + (n + 1))).length := by simp; exact om19 h
    rw [List.drop_eq_getElem_cons ha, List.range_succ_eq_map, List.map_cons, List.filterMap_cons]
    have e : l[a + 0]? = some l[a] := by rw [Nat.add_zero]; exact List.getElem?_eq_getElem (by exact om20 h)
    rw [e]
    simp only [List.map_map, List.getElem_take]
    refine congrArg _ ?_
    rw [show a + (n + 1) = a + 1 + n by exact om21, ← ih]
    refine congrArg _ (List.map_congr_left fun k _ => ?_)
    simp only [Function.comp]; omega
theorem congrTwo {α β γ : Type} {f : α → β → γ} {a a' : α} {b b' : β} (h : a = a') (k : b = b') : f a b = f a' b' := by rw [h, k]
theorem slice_clip {i : Int} {n : Nat} (h : 0 ≤ i) : max 0 (min i (n : Int)) = ((min i.toNat n : Nat) : Int) := by exact om22
theorem slice_sr (p q : Nat) : sliceRange (p : Int) (q : Int) 1 = (List.range (q - p)).map (fun k => p + k) := by
  unfold sliceRange
  simp only [show (1 : Int) > 0 by decide, if_true]
  refine congrTwo (funext fun k => by exact om23) (congrArg _ ?_)
  split <;> omega
theorem slice_mk {l : List Nat} {lo hi : Option Int} {a b : Nat} (hlo : (lo = none ∧ a = 0) ∨ ∃ i, lo = some i ∧ 0 ≤ i ∧ a = i.toNat) (hhi : (hi = none ∧ b = l.length) ∨ ∃ j, hi = some j ∧ 0 ≤ j ∧ b = j.toNat) :
    Txt.slice ⟨l.toArray⟩ lo hi = ⟨((l.take b).drop a).toArray⟩ := by
  have key : Str.strSliceIndices lo hi 1 l.length = (List.range (min b l.length - min a l.length)).map (fun k => min a l.length + k) := by
    rw [← slice_sr]
    unfold Str.strSliceIndices
    rcases hlo with ⟨rfl, rfl⟩ | ⟨i, rfl, h0, rfl⟩ <;> rcases hhi with ⟨rfl, rfl⟩ | ⟨j, rfl, h0', rfl⟩ <;> simp only [show (1 : Int) > 0 by decide, if_true]
    · rw [Nat.zero_min, Nat.min_self]; rfl
    · rw [if_neg (Int.not_lt.mpr h0'), slice_clip h0', Nat.zero_min]; rfl
    · rw [if_neg (Int.not_lt.mpr h0), slice_clip h0, Nat.min_self]
    · rw [if_neg (Int.not_lt.mpr h0), slice_clip h0, if_neg (Int.not_lt.mpr h0'), slice_clip h0']
  clear hlo hhi
  unfold Txt.slice
  rw [mk_length, key]
  have e2 : (l.take b).drop a = (l.take (min b l.length)).drop (min a l.length) := by
    by_cases hb : b ≤ l.length
    · by_cases ha : a ≤ l.length
      · rw [Nat.min_eq_left hb, Nat.min_eq_left ha]
      · rw [Nat.min_eq_left hb, Nat.min_eq_right (by exact om24 ha), List.drop_of_length_le (by simp; exact om25 ha), List.drop_of_length_le (by simp; exact om26)]
    · rw [Nat.min_eq_right (by exact om24 hb : l.length ≤ b), List.take_of_length_le (by exact om24 hb), List.take_of_length_le (Nat.le_refl _)]
      by_cases ha : a ≤ l.length
      · rw [Nat.min_eq_left ha]
      · rw [Nat.min_eq_right (by exact om24 ha), List.drop_of_length_le (by exact om24 ha), List.drop_of_length_le (by exact om27)]
  rw [e2]
  by_cases hab : min a l.length ≤ min b l.length
  · have hp := pick_take (l := l) (min b l.length - min a l.length) (min a l.length) (by exact om28)
    rw [show min a l.length + (min b l.length - min a l.length) = min b l.length by exact om29 hab] at hp
    split
    · rename_i hc
      simp only [beq_self_eq_true, Bool.true_and, List.length_map, List.length_range, beq_iff_eq] at hc
      rw [show min a l.length = 0 by exact om30 hc, show min b l.length = l.length by exact om31 hc]
      simp
    · rw [← hp]
      simp
  · have h0 : min b l.length - min a l.length = 0 := by exact om32 hab
    rw [h0]
    have hr : List.drop (min a l.length) (List.take (min b l.length) l) = [] := List.drop_of_length_le (by simp; exact om33 hab)
    rw [hr]
    split
    · rename_i hc
      simp only [beq_self_eq_true, Bool.true_and, List.length_map, List.length_range, beq_iff_eq] at hc
      have : l = [] := List.length_eq_zero_iff.mp hc.symm
      rw [this]
    · rfl
theorem keptGrow {h₀ : Heap} : KeptH (Grow h₀) := fun h ob g => g.trans (Grow.push h ob)
theorem Pe_slice_ss {value lo hi : Expr} {p p' : Pos} {l : List Nat} {i j : Int} (hv : Pe c f value m H (.s l)) (hlo : Pe c f lo m H (.int i)) (hhi : Pe c f hi m H (.int j)) (hi0 : 0 ≤ i) (hj0 : 0 ≤ j) (hsz : l.length ≤ sizeLine) :
    Pe c f (.Subscript value (.Slice (some lo) (some hi) none p) p') m H (.s ((l.take j.toNat).drop i.toNat)) := .mk fun s S => by
  refine Subscript_ (wpAny_mono (hv s S) (fun vo s₁ z => ?_) fun _ _ x => x)
  obtain ⟨t₁, d₁, H₁, i₁, S₁, rfl, rfl⟩ := z
  obtain ⟨t, rfl⟩ := is_str i₁
  refine wpAny_Slice (wpAny_mono (hlo s₁ S₁) (fun vi s₂ z => ?_) fun _ _ x => x)
  obtain ⟨t₂, d₂, H₂, i₂, S₂, rfl, rfl⟩ := z
  obtain ⟨u, rfl⟩ := is_int i₂
  refine wpAny_mono (hhi s₂ S₂) (fun vj s₃ z => ?_) fun _ _ x => x
  obtain ⟨t₃, d₃, H₃, i₃, S₃, rfl, rfl⟩ := z
  obtain ⟨u', rfl⟩ := is_int i₃
  refine wpAny_pure ?_
  obtain ⟨T, id, hl, hT, h⟩ := SBH.sliceItem_ss (prog := c.prog) (w := c.w) (A := f.A) (E := Thr c f m fun _ _ => False) (s := s₃) (P := Grow s₃.heap) (t := t) (x := ⟨l.toArray⟩) (i := i) (ui := u) (j := j) (uj := u') (Q := Good c f m (fun d' H' => d' = .s ((l.take j.toNat).drop i.toNat) ∧ H' = _) s) keptGrow (Grow.refl _)
    (fun h' t' k g => by rw [slice_mk (.inr ⟨i, rfl, hi0, rfl⟩) (.inr ⟨j, rfl, hj0, rfl⟩)]; exact ⟨t₁.trans (t₂.trans (t₃.trans g.tk)), _, _, mk_str, S₃.grow (s' := { s₃ with heap := h', toks := k }) g rfl rfl, rfl, rfl⟩) (by rw [mk_length]; exact hsz)
  exact tail_any hT hl h rfl
theorem Pe_slice_ns {value hi : Expr} {p p' : Pos} {l : List Nat} {j : Int} (hv : Pe c f value m H (.s l)) (hhi : Pe c f hi m H (.int j)) (hj0 : 0 ≤ j) (hsz : l.length ≤ sizeLine) :
    Pe c f (.Subscript value (.Slice none (some hi) none p) p') m H (.s (l.take j.toNat)) := .mk fun s S => by
  refine Subscript_ (wpAny_mono (hv s S) (fun vo s₁ z => ?_) fun _ _ x => x)
  obtain ⟨t₁, d₁, H₁, i₁, S₁, rfl, rfl⟩ := z
  obtain ⟨t, rfl⟩ := is_str i₁
  refine wpAny_Slice (wpAny_pure ?_)
  refine wpAny_mono (hhi s₁ S₁) (fun vj s₃ z => ?_) fun _ _ x => x
  obtain ⟨t₃, d₃, H₃, i₃, S₃, rfl, rfl⟩ := z
  obtain ⟨u', rfl⟩ := is_int i₃
  refine wpAny_pure ?_
  obtain ⟨T, id, hl, hT, h⟩ := SBH.sliceItem_ns (prog := c.prog) (w := c.w) (A := f.A) (E := Thr c f m fun _ _ => False) (s := s₃) (P := Grow s₃.heap) (t := t) (x := ⟨l.toArray⟩) (j := j) (uj := u') (Q := Good c f m (fun d' H' => d' = .s (l.take j.toNat) ∧ H' = _) s) keptGrow (Grow.refl _)
    (fun h' t' k g => by rw [slice_mk (.inl ⟨rfl, rfl⟩) (.inr ⟨j, rfl, hj0, rfl⟩)]; exact ⟨t₁.trans (t₃.trans g.tk), _, _, mk_str, S₃.grow (s' := { s₃ with heap := h', toks := k }) g rfl rfl, rfl, rfl⟩) (by rw [mk_length]; exact hsz)
  exact tail_any hT hl h rfl
theorem Pe_slice_sn {value lo : Expr} {p p' : Pos} {l : List Nat} {i : Int} (hv : Pe c f value m H (.s l)) (hlo : Pe c f lo m H (.int i)) (hi0 : 0 ≤ i) (hsz : l.length ≤ sizeLine) :
    Pe c f (.Subscript value (.Slice (some lo) none none p) p') m H (.s (l.drop i.toNat)) := .mk fun s S => by
  refine Subscript_ (wpAny_mono (hv s S) (fun vo s₁ z => ?_) fun _ _ x => x)
  obtain ⟨t₁, d₁, H₁, i₁, S₁, rfl, rfl⟩ := z
  obtain ⟨t, rfl⟩ := is_str i₁
  refine wpAny_Slice (wpAny_mono (hlo s₁ S₁) (fun vi s₂ z => ?_) fun _ _ x => x)
  obtain ⟨t₂, d₂, H₂, i₂, S₂, rfl, rfl⟩ := z
  obtain ⟨u, rfl⟩ := is_int i₂
  refine wpAny_pure (wpAny_pure ?_)
  obtain ⟨T, id, hl, hT, h⟩ := SBH.sliceItem_sn (prog := c.prog) (w := c.w) (A := f.A) (E := Thr c f m fun _ _ => False) (s := s₂) (P := Grow s₂.heap) (t := t) (x := ⟨l.toArray⟩) (i := i) (ui := u) (Q := Good c f m (fun d' H' => d' = .s (l.drop i.toNat) ∧ H' = _) s) keptGrow (Grow.refl _)
    (fun h' t' k g => by rw [slice_mk (.inr ⟨i, rfl, hi0, rfl⟩) (.inl ⟨rfl, rfl⟩), List.take_of_length_le (Nat.le_refl _)]; exact ⟨t₁.trans (t₂.trans g.tk), _, _, mk_str, S₂.grow (s' := { s₂ with heap := h', toks := k }) g rfl rfl, rfl, rfl⟩) (by rw [mk_length]; exact hsz)
  exact tail_any hT hl h rfl
-- len
theorem L_str {l : List Nat} (hsz : l.length ≤ sizeLine) : BN c f H (fun vs => call (.builtin "len") vs) [.s l] (.int l.length) := .mk fun m s vs S ia => by
  simp only [IsAll] at ia; refine e2a3 ia fun v r rq52 i rq53 => ?_; clear ia; obtain rfl := rq52; obtain rfl := rq53
  obtain ⟨t, rfl⟩ := is_str i
  have hl : l.length < 2 ^ 63 := Nat.lt_of_le_of_lt hsz (by decide)
  refine PyProof.Rows.len_str (by rw [mk_length]; omega) ?_
  rw [mk_length]; exact ⟨Grow.refl _, rfl, rfl, mk_int⟩
theorem I_int {i : Int} : BN c f H (fun vs => call (.builtin "isinstance") vs) [.int i, .raw (.type "int")] (.bool true) := .mk fun m s vs S ia => by
  simp only [IsAll] at ia; refine e2a3 ia fun v r rq54 i rq55 => ?_; clear ia; obtain rfl := rq54; refine e2a3 rq55 fun v' r' rq56 i' rq57 => ?_; clear rq55; obtain rfl := rq56; obtain rfl := rq57
  obtain ⟨t, rfl⟩ := is_int i; obtain rfl := is_raw i'
  exact IsiPair.int_int ⟨Grow.refl _, rfl, rfl, mk_raw⟩
theorem I_int_bool {i : Int} : BN c f H (fun vs => call (.builtin "isinstance") vs) [.int i, .raw (.type "bool")] (.bool false) := .mk fun m s vs S ia => by
  simp only [IsAll] at ia; refine e2a3 ia fun v r rq58 i rq59 => ?_; clear ia; obtain rfl := rq58; refine e2a3 rq59 fun v' r' rq60 i' rq61 => ?_; clear rq59; obtain rfl := rq60; obtain rfl := rq61
  obtain ⟨t, rfl⟩ := is_int i; obtain rfl := is_raw i'
  exact IsiPair.int_bool ⟨Grow.refl _, rfl, rfl, mk_raw⟩
theorem Ev_tuple {es : List Expr} {k : Nat} {p : Pos} (h : Evs c f es p m H (fun ds H' => ds.length ≤ sizeLine ∧ Q (.tup ds) H') X) : Ev c f (.Tuple es k p) m H Q X := .mk fun s S => by
  refine wpAny_Tuple (wpAny_mono (h s S) (fun vs s₁ z => ?_) fun _ _ x => x)
  obtain ⟨t, ds, H', ia, S₁, hl, q⟩ := z
  have g : Grow s₁.heap (s₁.heap.push { cls := .type "tuple", data := .seq vs.toArray }) := Grow.push _ _
  refine ⟨by rw [ia.length]; exact hl, t.trans g.tk, .tup ds, H', ?_, S₁.grow (s' := { s₁ with heap := s₁.heap.push { cls := .type "tuple", data := .seq vs.toArray } }) g rfl rfl, q⟩
  simp only [Is]
  exact ⟨_, vs, rfl, ⟨_, _, Heap.get?_push_size _ rfl, rfl, rfl⟩, ia.tk g.tk⟩
theorem Pe_tuple {es : List Expr} {k : Nat} {p : Pos} {ds : List V} (h : Pes c f es m H ds) (hl : ds.length ≤ sizeLine) : Pe c f (.Tuple es k p) m H (.tup ds) := Ev_tuple (h.evs ⟨hl, rfl, rfl⟩)
end
end Mine
set_option maxRecDepth 100000
set_option linter.unusedVariables false
namespace Mine
open PySem PyProof.Rows PySem.Builtin
def Ext (H H'' : AH) : Prop := ∀ a, H a ≠ none → H'' a = H a
theorem Ext.refl (H : AH) : Ext H H := fun _ _ => rfl
theorem Ext.trans {H H' H'' : AH} (x : Ext H H') (y : Ext H' H'') : Ext H H'' := fun a n => (y a (by rw [x a n]; exact n)).trans (x a n)
theorem Ext.set {H H' : AH} {a : Addr} {x : Cell} (e : Ext H H') (n : H' a = none) : Ext H (H'.set a x) := fun b nb => by
  have : b ≠ a := fun q => by subst q; rw [e b nb] at n; exact nb n
  rw [AH.set, if_neg this]; exact e b nb
theorem set_same (H : AH) (a : Addr) (x : Cell) : (H.set a x) a = some x := if_pos rfl
theorem set_ne (H : AH) {a b : Addr} (x : Cell) (n : b ≠ a) : (H.set a x) b = H b := if_neg n
section
variable {c : Cx} {f : Fx} {m : Loc} {H : AH} {X : Value → AH → Prop} {Q : V → AH → Prop}
theorem Ext.rep {H'' : AH} {h : Heap} (e : Ext H H'') (r : Rep c H'' h) : Rep c H h := fun a x q => r a x (by rw [e a (by rw [q]; exact fun z => nomatch z)]; exact q)
theorem St.forget {s s' : Shared} {m' : Loc} {H'' : AH} (S : St c f m H s) (S' : St c f m' H'' s') (e : Ext H H'') : St c f m' H s' where
  rep := e.rep S'.rep
  base := S'.base
  bE := S'.bE
  hb := S.hb
  off := S'.off
  dom := S.dom
  up := S.up
  loc := S'.loc
  newL := S'.newL
  trL := S.trL
  cel := fun x a q => ⟨(S.cel x a q).1, (S'.cel x a q).2⟩
  apart := S'.apart
  ff := S'.ff
  fh := S.fh
  big := S.big
  kp := S'.kp
  gens := S'.gens
  os := S'.os
theorem Pe.of_ext {e : Expr} {d : V} (h : Ev c f e m H (fun d' H' => d' = d ∧ Ext H H') (fun _ _ => False)) : Pe c f e m H d := .mk fun s S =>
  wpAny_mono (h s S) (fun v s' ⟨t, d', H', i, S', e, x⟩ => ⟨t, d', H, i, S.forget S' x, e, rfl⟩) fun _ _ ⟨_, _, _, _, _, _, z⟩ => z.elim
theorem Fn.of_ext {k : Nat} {fv : Value} {args : List V} (h : Fn c k fv args H (fun d H' => Ext H H' ∧ Q d H) (fun C H' => Ext H H' ∧ X C H)) : Fn c k fv args H Q X := .mk fun A frs s vs R hf E ia => by
  have lf : ∀ {H' : AH} {s' : Shared}, Ext H H' → Lft c frs H s H' s' → Lft c frs H s H s' := fun x L => ⟨x.rep L.rep, L.off, fun _ _ _ q => q, fun _ q => q, E.big, L.gens, L.os⟩
  refine codeAny_mono (h A frs s vs R hf E ia) fun r s' z => ?_
  refine e1a2 z fun H' L rq62 => ?_; clear z; have z := rq62; clear rq62
  match r, z with
  | .ok (.ret v), ⟨d, i, x, q⟩ => exact ⟨H, lf x L, d, i, q⟩
  | .error y, ⟨C, e, e1, g, x, q⟩ => exact ⟨H, lf x L, C, e, e1, g, q⟩
theorem Fn.mono {k : Nat} {fv : Value} {args : List V} {Q' : V → AH → Prop} {X' : Value → AH → Prop} (h : Fn c k fv args H Q X) (hq : ∀ d H', Q d H' → Q' d H') (hx : ∀ C H', X C H' → X' C H') : Fn c k fv args H Q' X' := .mk fun A frs s vs R hf E ia => by
  refine codeAny_mono (h A frs s vs R hf E ia) fun r s' z => ?_
  refine e1a2 z fun H' L rq63 => ?_; clear z; have z := rq63; clear rq63
  match r, z with
  | .ok (.ret v), ⟨d, i, q⟩ => exact ⟨H', L, d, i, hq _ _ q⟩
  | .error y, ⟨C, e, e1, g, q⟩ => exact ⟨H', L, C, e, e1, g, hx _ _ q⟩
def Has (c : Cx) (H : AH) (d : V) (T : String) : Prop := ∀ (f : Fx) (m : Loc) (s : Shared) (v : Value), St c f m H s → Is s.heap d v → s.TypeIs v T ∧ ∀ a, v = .ref a → ∃ ob, s.heap.get? a = some ob ∧ ob.dict = none
theorem has_str {x : Str} : Has c H (.str x) "str" := fun f m s v S i => by
  obtain ⟨t, rfl⟩ := is_str i
  exact ⟨typeIs_str _ _ _, fun a e => nomatch e⟩
theorem has_list {a : Addr} {o : Obj} {ds : List V} (h : H a = some ⟨o, .list ds⟩) : Has c H (.ref a) "list" := fun f m s v S i => by
  obtain rfl := is_raw i
  refine e1a2 ((S.rep a _ h).2) fun vs rq64 _ => ?_; obtain ⟨o', n, g, cl, dn, dt⟩ := rq64
  exact ⟨⟨o', g, cl⟩, fun b e => by cases e; exact ⟨o', g, dn⟩⟩
theorem Ev_meth {o e : Expr} {es : List Expr} {name : Str} {ap p : Pos} {T id : String} (pa : PlainAttrs T) (slot : Slot T name id)
    (h : Ev c f o m H (fun d H' => Has c H' d T ∧ Evs c f (e :: es) p m H' (fun ds H'' => OpN c f (fun vs => call (.builtin id) vs) (d :: ds) m H'' Q X) X) X)
    (hty : typeOf (.builtin id) = pure (.type "method_descriptor") := by rfl) (hbase : attributeBase o name f.env (eval o f.env) = eval o f.env := by rfl)
    (hfew : ((backTo p (starEach (e :: es) f.env)).all (fun x => !x.1) && (backToKw p (keywordEach [] f.env)).all (fun x => x.1.isSome) && decide ((e :: es).length + ([] : List Keyword).length + (if ([] : List Keyword).isEmpty then 0 else 1) < 30)) = true := by rfl)
    (hline : (ap.endLine == p.line) = true := by rfl) (he : starEach (e :: es) f.env = (false, eval e f.env) :: starEach es f.env := by rfl) (hp : (backTo p (starEach es f.env)).any (·.1) = false := by rfl) :
    Ev c f (.Call (.Attribute o name ap) (e :: es) [] p) m H Q X := .mk fun s S => by
  refine wpAny_Call_method_lateS hbase hfew hline (wpAny_mono (h s S) (fun v s₁ z => ?_) fun _ _ x => x)
  obtain ⟨t₁, d, H₁, i₁, S₁, hh, q₁⟩ := z
  obtain ⟨hT, hd⟩ := hh f m s₁ v S₁ i₁
  refine ⟨T, id, pa, slot, hty, hT, hd, callWith_method1 (wpAny_mono (q₁ s₁ S₁) (fun vs s₂ z => ?_) fun _ _ x => x) he hp⟩
  obtain ⟨t₂, ds, H₂, i₂, S₂, q₂⟩ := z
  exact wpAny_mono (q₂ s₂ (v :: vs) S₂ (isAll_cons (i₁.tk t₂) i₂)) (fun v s₃ ⟨t₃, r⟩ => ⟨t₁.trans (t₂.trans t₃), r⟩) fun _ _ x => x
theorem Ev_meth0 {o : Expr} {name : Str} {ap p : Pos} {T id : String} (pa : PlainAttrs T) (slot : Slot T name id)
    (h : Ev c f o m H (fun d H' => Has c H' d T ∧ OpN c f (fun vs => call (.builtin id) vs) [d] m H' Q X) X)
    (hty : typeOf (.builtin id) = pure (.type "method_descriptor") := by rfl) (hbase : attributeBase o name f.env (eval o f.env) = eval o f.env := by rfl)
    (hline : (ap.endLine == p.line) = true := by rfl) : Ev c f (.Call (.Attribute o name ap) [] [] p) m H Q X := .mk fun s S => by
  refine wpAny_Call_method_lateS hbase rfl hline (wpAny_mono (h s S) (fun v s₁ z => ?_) fun _ _ x => x)
  obtain ⟨t₁, d, H₁, i₁, S₁, hh, q₁⟩ := z
  obtain ⟨hT, hd⟩ := hh f m s₁ v S₁ i₁
  refine ⟨T, id, pa, slot, hty, hT, hd, callWith_method0 ?_⟩
  exact wpAny_mono (q₁ s₁ [v] S₁ (isAll_one i₁)) (fun v s₃ ⟨t₃, r⟩ => ⟨t₁.trans t₃, r⟩) fun _ _ x => x
-- join by the empty text
theorem strsAre_of {h : Heap} : ∀ {ls : List (List Nat)} {vs : List Value}, IsAll h (ls.map V.s) vs → StrsAre vs (ls.map fun l => ⟨l.toArray⟩)
  | [], vs, i => by simp only [List.map_nil, IsAll] at i; subst i; exact .nil
  | l :: ls, vs, i => by
    simp only [List.map_cons, IsAll] at i
    refine e2a3 i fun v r rq65 j k => ?_; clear i; obtain rfl := rq65
    obtain ⟨t, rfl⟩ := is_str j
    exact .cons _ _ (strsAre_of k)
theorem join_fold : ∀ (ls : List (List Nat)) (acc : Array Nat), (ls.map fun l => (⟨l.toArray⟩ : Str)).foldl (fun acc p => acc ++ (Str.ofString "").cps ++ p.cps) acc = acc ++ ls.flatten.toArray
  | [], acc => by simp
  | l :: ls, acc => by
    rw [List.map_cons, List.foldl_cons, join_fold ls]
    have : (Str.ofString "").cps = #[] := by decide
    rw [this]; simp
theorem join_mk (ls : List (List Nat)) : Txt.join (Str.ofString "") (ls.map fun l => ⟨l.toArray⟩) = ⟨ls.flatten.toArray⟩ := by
  unfold Txt.join Str.glued
  cases ls with
  | nil => rfl
  | cons l ls =>
    rw [List.map_cons, List.drop_succ_cons, List.drop_zero, join_fold]
    simp
theorem J_join {a : Addr} {o : Obj} {ls : List (List Nat)} (h : H a = some ⟨o, .list (ls.map V.s)⟩) (hsz : ls.flatten.length ≤ 16777216) : BN c f H (fun vs => call (.builtin "str.join") vs) [.str (Str.ofString ""), .ref a] (.s ls.flatten) := .mk fun m s vs S ia => by
  simp only [IsAll] at ia; refine e2a3 ia fun v r rq66 i rq67 => ?_; clear ia; obtain rfl := rq66; refine e2a3 rq67 fun v' r' rq68 i' rq69 => ?_; clear rq67; obtain rfl := rq68; obtain rfl := rq69
  obtain ⟨t, rfl⟩ := is_str i; obtain rfl := is_raw i'
  refine e1a2 ((S.rep a _ h).2) fun us rq70 ja => ?_; obtain ⟨o', n, g, cl, dn, dt⟩ := rq70
  refine join_list (ys := ls.map fun l => ⟨l.toArray⟩) ⟨o', g, cl, n, dt⟩ (by simpa using strsAre_of ja) ?_ fun t' k => ?_
  · have e0 : (Str.ofString "").length = 0 := by decide
    rw [e0, Nat.mul_zero, Nat.add_zero, List.map_map]
    have : (ls.map ((fun x => Str.length x) ∘ fun l => (⟨l.toArray⟩ : Str))).sum = ls.flatten.length := by
      rw [List.length_flatten]; refine congrArg _ (List.map_congr_left fun l _ => ?_); exact mk_length l
    rw [this]; exact hsz
  · rw [join_mk]; exact ⟨Grow.refl _, rfl, rfl, mk_str⟩
-- equality
structure EqA (n : Nat) (d₁ d₂ : V) (b : Bool) : Prop where
  eq : ∀ (A : Around) (s : Shared) (v₁ v₂ : Value), A.units + 4 * n < cLine → Is s.heap d₁ v₁ → Is s.heap d₂ v₂ → SeqAt.EqAt A s v₁ v₂ b
  same : ∀ (h : Heap) (v : Value), Is h d₁ v → Is h d₂ v → b = true
theorem EqA.int (a b : Int) : EqA 0 (.int a) (.int b) (a == b) where
  eq := fun A s v₁ v₂ u i j => by obtain ⟨t, rfl⟩ := is_int i; obtain ⟨t', rfl⟩ := is_int j; exact SeqAt.EqAt.int_int _ _ _ _
  same := fun h v i j => by obtain ⟨t, rfl⟩ := is_int i; obtain ⟨t', e⟩ := is_int j; cases e; simp
theorem EqA.str (a b : Str) : EqA 0 (.str a) (.str b) (a == b) where
  eq := fun A s v₁ v₂ u i j => by obtain ⟨t, rfl⟩ := is_str i; obtain ⟨t', rfl⟩ := is_str j; exact SeqAt.EqAt.str_str _ _ _ _
  same := fun h v i j => by obtain ⟨t, rfl⟩ := is_str i; obtain ⟨t', e⟩ := is_str j; cases e; simp
theorem EqA.none : EqA 0 .none .none true where
  eq := fun A s v₁ v₂ u i j => by obtain rfl := is_raw i; obtain rfl := is_raw j; exact SeqAt.EqAt.same _
  same := fun h v i j => rfl
theorem IsAll.at {h : Heap} {ds : List V} {vs : List Value} (x : IsAll h ds vs) {j : Nat} (hj : j < vs.length) : ∃ d, ds[j]? = some d ∧ Is h d vs[j] := by
  have hj' : j < ds.length := by rw [← x.length]; exact hj
  refine e1a2 (x.get (List.getElem?_eq_getElem hj')) fun v hv i => ?_
  rw [List.getElem?_eq_getElem hj] at hv
  cases hv
  exact ⟨ds[j], List.getElem?_eq_getElem hj', i⟩
theorem in1_units (A : Around) : A.in1.units ≤ A.units + 4 := by show A.units + 1 ≤ A.units + 4; exact om34
end
end Mine
set_option maxRecDepth 100000
set_option linter.unusedVariables false
namespace Mine
open PySem PyProof.Rows PySem.Builtin PySem.W
theorem glue {prog : Program} {w : World} {s₁ : Shared} {mg mb : Str → Option Value} {fa sc : Addr} (F : Fn ⟨prog, w, s₁.heap, mg, mb, s₁.os⟩ 40 (.ref fa) [.ref sc] (fun _ => none) (fun d _ => d = .bool true) (fun _ _ => False)) (hg : s₁.gens = #[]) :
    wpAny (model prog w) callerA (call (.ref fa) [.ref sc]) (fun v s' => v = .bool true ∧ OldK s₁.heap s'.heap ∧ s'.os = s₁.os ∧ AllBare s'.gens) (fun _ _ => False) s₁ := by
  have E : Ent ⟨prog, w, s₁.heap, mg, mb, s₁.os⟩ [] (fun _ => none) s₁ := ⟨(fun a x e => nomatch e), fun b o e => e, fun b o e => rfl, trivial, fun a h => rfl, fun a x e => (nomatch e), hg, rfl⟩
  have := F callerA [] s₁ [.ref sc] ⟨rfl, by decide, by decide⟩ rfl E (isAll_one mk_raw)
  refine wpAny_call (codeAny_mono this fun r s' z => ?_)
  refine e1a2 z fun H' L rq71 => ?_; clear z; have z := rq71; clear rq71
  have keep : ∀ b o, s₁.heap.get? b = some o → s'.heap.get? b = some o := fun b o e => (L.off b o e rfl).1 (fun h => nomatch h)
  cases r with
  | error x => refine e2a3 z fun C e _ g q => ?_; clear z; exact q.elim
  | ok fl => cases fl with
    | ret v =>
      refine e1a2 z fun d i q => ?_; clear z
      have q : d = .bool true := q
      subst q
      exact ⟨is_raw i, .of_keep keep, L.os, .of_eq L.gens⟩
    | _ => exact z.elim
end Mine
set_option maxRecDepth 100000
set_option linter.unusedVariables false
namespace Mine
open PySem PyProof.Rows PySem.Builtin PySem.W
section
variable {c : Cx} {f : Fx} {m : Loc} {H : AH} {X : Value → AH → Prop} {Q : V → AH → Prop}
structure Lw (c : Cx) (K : Frag) (sc : Addr) (ns : List Int) : Prop where
  ok : CxOk c
  kx : K.In c.base
  hb : ∀ x : Str, x ≠ "__name__" → c.mb x = bootBuiltins x
  sl : ∃ vs, c.base.IsList sc vs.toArray ∧ IntsAre vs ns
  few : ns.length ≤ 63
variable {K : Frag} {sc : Addr} {ns : List Int}
theorem Lw.glob (W : Lw c K sc ns) {x : Str} {v : Value} (e : nsIn K mainGlobals x = some (some v)) : GN c x v := .inl (mg_of W.kx W.ok.g e)
theorem Lw.blt (W : Lw c K sc ns) {x : Str} {v : Value} (e : nsIn K mainGlobals x = some none) (hx : x ≠ "__name__") (hv : bootBuiltins x = some v) : GN c x v := .inr ⟨mg_none_of W.kx W.ok.g e, (W.hb x hx).trans hv⟩
theorem L_base (W : Lw c K sc ns) : BN c f H (fun vs => call (.builtin "len") vs) [.ref sc] (.int ns.length) := .mk fun m s vs S ia => by
  simp only [IsAll] at ia; refine e2a3 ia fun v r rq72 i rq73 => ?_; clear ia; obtain rfl := rq72; obtain rfl := rq73
  obtain rfl := is_raw i
  refine e1a2 (W.sl) fun us hl hi => ?_
  have e := intsAre_length hi
  have := W.few
  refine Calls.call_len_list (items := us.toArray) (let ⟨o, a, r⟩ := hl; ⟨o, S.base _ _ a, r⟩) (by rw [List.size_toArray]; omega) ?_
  rw [List.size_toArray, e]; exact ⟨Grow.refl _, rfl, rfl, mk_int⟩
theorem G_base (W : Lw c K sc ns) {k : Int} (h0 : 0 ≤ k) (h1 : k < ns.length) : G2 c f H (.ref sc) (.int k) (.int (ns.getD k.toNat 0)) := .mk fun m s vo vi S io ii => by
  obtain rfl := is_raw io; obtain ⟨u, rfl⟩ := is_int ii
  refine e1a2 (W.sl) fun us hl hi => ?_
  have e := intsAre_length hi
  have := W.few
  have hl' : s.heap.IsList sc us.toArray := let ⟨o, a, r⟩ := hl; ⟨o, S.base _ _ a, r⟩
  have hk : k.toNat < ns.length := by exact om35 h0 h1
  obtain ⟨t, ht⟩ := intsAre_get hi (List.getElem?_eq_getElem hk)
  refine ⟨"list", _, hl'.typeIs, slot_list_getitem.lookup, wpAny_getItem_list (x := .int ns[k.toNat] t) hl' h0 (by omega) (by simpa using ht) ⟨Grow.refl _, rfl, rfl, ?_⟩⟩
  rw [List.getD_eq_getElem?_getD, List.getElem?_eq_getElem hk]; exact mk_int
def cellAt (ns : List Int) (k : Int) : Int := if k < ns.length then ns.getD k.toNat 0 else 0
end
theorem len_cons {vs : List Value} {n : Nat} (h : vs.length = n + 1) : ∃ v r, vs = v :: r ∧ r.length = n := by
  cases vs with
  | nil => cases h
  | cons v r => exact ⟨v, r, rfl, Nat.succ.inj h⟩
theorem bind1 {fd : FuncData} {x : Str} {args : List V} (h : args.length = 1) (e : ∀ v, bindArgs fd ⟨[v], []⟩ = pure [(x, v)]) : ∀ vs : List Value, vs.length = args.length → bindArgs fd ⟨vs, []⟩ = pure ([x].zip vs) := fun vs hv => by
  have l0 := hv.trans h
  clear hv
  refine e2a2 (len_cons l0) fun v r1 rq74 l1 => ?_; obtain rfl := rq74
  obtain rfl := List.eq_nil_of_length_eq_zero l1
  exact e v
theorem bind2 {fd : FuncData} {x y : Str} {args : List V} (h : args.length = 2) (e : ∀ v w, bindArgs fd ⟨[v, w], []⟩ = pure [(x, v), (y, w)]) : ∀ vs : List Value, vs.length = args.length → bindArgs fd ⟨vs, []⟩ = pure ([x, y].zip vs) := fun vs hv => by
  have l0 := hv.trans h
  clear hv
  refine e2a2 (len_cons l0) fun v r1 rq75 l1 => ?_; obtain rfl := rq75
  refine e2a2 (len_cons l1) fun w r2 rq76 l2 => ?_; obtain rfl := rq76
  obtain rfl := List.eq_nil_of_length_eq_zero l2
  exact e v w
theorem bind3 {fd : FuncData} {x y z : Str} {args : List V} (h : args.length = 3) (e : ∀ v w u, bindArgs fd ⟨[v, w, u], []⟩ = pure [(x, v), (y, w), (z, u)]) : ∀ vs : List Value, vs.length = args.length → bindArgs fd ⟨vs, []⟩ = pure ([x, y, z].zip vs) := fun vs hv => by
  have l0 := hv.trans h
  clear hv
  refine e2a2 (len_cons l0) fun v r1 rq77 l1 => ?_; obtain rfl := rq77
  refine e2a2 (len_cons l1) fun w r2 rq78 l2 => ?_; obtain rfl := rq78
  refine e2a2 (len_cons l2) fun u r3 rq79 l3 => ?_; obtain rfl := rq79
  obtain rfl := List.eq_nil_of_length_eq_zero l3
  exact e v w u
end Mine
set_option maxRecDepth 100000
set_option linter.unusedVariables false
namespace Mine
open PySem PyProof.Rows PySem.Builtin PySem.W
theorem mem1 {α : Type} {p : α → Prop} {a : α} (h : p a) : ∀ x ∈ [a], p x := fun x hx => by
  rw [List.mem_singleton] at hx; subst hx; exact h
theorem mem2 {α : Type} {p : α → Prop} {a b : α} (h : p a) (h2 : p b) : ∀ x ∈ [a, b], p x := fun x hx => by
  rcases List.mem_cons.mp hx with rfl | hx; exact h; exact mem1 h2 x hx
theorem mem3 {α : Type} {p : α → Prop} {a b d : α} (h : p a) (h2 : p b) (h3 : p d) : ∀ x ∈ [a, b, d], p x := fun x hx => by
  rcases List.mem_cons.mp hx with rfl | hx; exact h; exact mem2 h2 h3 x hx
theorem mem4 {α : Type} {p : α → Prop} {a b d e : α} (h : p a) (h2 : p b) (h3 : p d) (h4 : p e) : ∀ x ∈ [a, b, d, e], p x := fun x hx => by
  rcases List.mem_cons.mp hx with rfl | hx; exact h; exact mem3 h2 h3 h4 x hx
section
variable {c : Cx} {f : Fx} {m : Loc} {H : AH} {X : Value → AH → Prop} {Q : V → AH → Prop}
theorem B_cats {l r : List Nat} (h : l.length + r.length ≤ sizeLine) : B2 c f H (binaryOp .Add) (.s l) (.s r) (.s (l ++ r)) := by
  have := B_cat (c := c) (f := f) (H := H) (x := ⟨l.toArray⟩) (y := ⟨r.toArray⟩) (by rw [mk_length, mk_length]; exact h)
  have e : (⟨l.toArray⟩ : Str) ++ (⟨r.toArray⟩ : Str) = ⟨(l ++ r).toArray⟩ := by
    show Str.mk (l.toArray ++ r.toArray) = _
    simp
  rw [e] at this; exact this
theorem beq_mk {l r : List Nat} : ((⟨l.toArray⟩ : Str) == ⟨r.toArray⟩) = decide (l = r) := by
  rw [Bool.eq_iff_iff, beq_iff_eq, decide_eq_true_iff]
  constructor
  · intro e; injection e with e; simpa using e
  · intro e; rw [e]
theorem B_eqss {l r : List Nat} : B2 c f H (compareOp .Eq) (.s l) (.s r) (.bool (decide (l = r))) := by
  have := B_eqs (c := c) (f := f) (H := H) (x := ⟨l.toArray⟩) (y := ⟨r.toArray⟩)
  rw [beq_mk] at this; exact this
theorem B_ness {l r : List Nat} : B2 c f H (compareOp .NotEq) (.s l) (.s r) (.bool (!decide (l = r))) := by
  have := B_nes (c := c) (f := f) (H := H) (x := ⟨l.toArray⟩) (y := ⟨r.toArray⟩)
  rw [bne, beq_mk] at this; exact this
theorem CompOk_map {scope : Scope} {cl : List (Str × Addr)} {x : Str} {elt : Expr} {ds : List V} {tr : List Addr} {H₁ : AH} (g : List V) (hl : g.length = ds.length) (hsz : ds.length ≤ sizeLine)
    (he : ∀ (i : Nat) d C hE, ds[i]? = some d → ∃ e, g[i]? = some e ∧ Pe c (compF f scope cl C hE H₁) elt (compM m cl x d) H₁ e) (fin : ∀ a o, H₁ a = none → Q (.ref a) (H₁.set a ⟨o, .list g⟩)) :
    CompOk c f m scope cl x elt [] Q ds tr H₁ := by
  refine ⟨hsz, fun i acc H' => H' = H₁ ∧ acc = g.take i, ⟨rfl, by simp⟩, ?_, ?_⟩
  · rintro i d acc H' C hE hd ⟨rfl, rfl⟩ ht
    refine e1a2 (he i d C hE hd) fun e ge p => ?_
    refine p.ev ⟨⟨rfl, ?_⟩, ht⟩
    rw [List.take_add_one, ge]; rfl
  · rintro acc H' a o ⟨rfl, rfl⟩ _ ha
    rw [← hl, List.take_length]
    exact fin a o ha
end
end Mine
set_option maxRecDepth 100000
set_option linter.unusedVariables false
namespace Mine
open PySem PyProof.Rows PySem.Builtin PySem.W
theorem cl0 {p : Str → Addr → Prop} : ∀ y a, ([] : List (Str × Addr)).lookup y = some a → p y a := fun y a e => nomatch e
theorem clN {p : Str → Addr → Prop} {x : Str} {a0 : Addr} {l : List (Str × Addr)} (h : p x a0) (r : ∀ y a, l.lookup y = some a → p y a) : ∀ y a, ((x, a0) :: l).lookup y = some a → p y a := fun y a e => by
  rw [List.lookup_cons] at e
  cases q : y == x with
  | true => rw [q] at e; cases e; rw [beq_iff_eq] at q; subst q; exact h
  | false => rw [q] at e; exact r y a e
theorem map_item {α β : Type} {g : α → β} {l : List α} {i : Nat} {d : β} (h : (l.map g)[i]? = some d) : ∃ a, l[i]? = some a ∧ d = g a := by
  rw [List.getElem?_map] at h
  cases q : l[i]? with
  | none => rw [q] at h; cases h
  | some a => rw [q] at h; cases h; exact ⟨a, rfl, rfl⟩
theorem range_item {n i k : Nat} (h : (List.range n)[i]? = some k) : i < n ∧ k = i := by
  have := List.getElem?_eq_some_iff.mp h
  obtain ⟨a, b⟩ := this
  simp at a b
  exact ⟨a, b.symm⟩
theorem map_item' {α β : Type} {g : α → β} {l : List α} {i : Nat} {a : α} (h : l[i]? = some a) : (l.map g)[i]? = some (g a) := by rw [List.getElem?_map, h]; rfl
theorem flat1 {α : Type} (g : α → Nat) (l : List α) : (l.map fun k => [g k]).flatten = l.map g := by
  induction l with
  | nil => rfl
  | cons a l ih => simp [ih]
theorem mul_small {a b : Int} (h : a.natAbs < 2 ^ 60) : IntMulOk a b := .of_left (by
  unfold Builtin.Int.intBits
  split
  · exact om36
  · rename_i h0
    have h0 : a.natAbs ≠ 0 := by simpa using h0
    have := (Nat.log2_lt h0).mpr h
    exact om37 this)
end Mine
set_option maxRecDepth 100000
set_option linter.unusedVariables false
namespace Mine
open PySem PyProof.Rows PySem.Builtin PySem.W
section
variable {c : Cx} {f : Fx} {m : Loc} {H : AH} {X : Value → AH → Prop} {Q : V → AH → Prop}
def Tpo (c : Cx) (f : Fx) (es : List Expr) (m : Loc) (H : AH) (P : Prop) : Prop := Tl c f .Or es m H (fun b H' => H' = H ∧ (b = true ↔ P)) (fun _ _ => False)
def Tpa (c : Cx) (f : Fx) (es : List Expr) (m : Loc) (H : AH) (P : Prop) : Prop := Tl c f .And es m H (fun b H' => H' = H ∧ (b = true ↔ P)) (fun _ _ => False)
theorem Tl.mono {op : BoolOp} {es : List Expr} {Q Q' : Bool → AH → Prop} {X' : Value → AH → Prop} (h : Tl c f op es m H Q X) (k : ∀ b H, Q b H → Q' b H) (kx : ∀ C H, X C H → X' C H) : Tl c f op es m H Q' X' :=
  .mk fun s S => wpAny_mono (h s S) (fun _ _ ⟨H', S', q⟩ => ⟨H', S', k _ _ q⟩) fun _ _ g => g.mono kx
theorem Tpo_nil : Tpo c f [] m H False := Tl_or_nil ⟨rfl, by simp⟩
theorem Tpa_nil : Tpa c f [] m H True := Tl_and_nil ⟨rfl, by simp⟩
theorem Tpo_cons {e : Expr} {es : List Expr} {P R : Prop} (h : Tp c f e m H P) (h2 : ¬ P → Tpo c f es m H R) : Tpo c f (e :: es) m H (P ∨ R) :=
  Tl_or (Ts.mono h (fun x H' ⟨e, q⟩ => by
    subst e
    refine ⟨fun z => Tl.mono (h2 (fun r => by rw [q.mpr r] at z; cases z)) (fun y H'' ⟨e', q'⟩ => ⟨e', ?_⟩) fun _ _ z => z, fun z => ⟨rfl, by simp only [true_iff]; exact .inl (q.mp z)⟩⟩
    rw [q']; subst z; simp only [Bool.false_eq_true, false_iff] at q
    exact ⟨.inr, fun r => r.elim (fun z => (q z).elim) id⟩) fun _ _ z => z)
theorem Tpa_cons {e : Expr} {es : List Expr} {P R : Prop} (h : Tp c f e m H P) (h2 : P → Tpa c f es m H R) : Tpa c f (e :: es) m H (P ∧ R) :=
  Tl_and (Ts.mono h (fun x H' ⟨e, q⟩ => by
    subst e
    refine ⟨fun z => Tl.mono (h2 (q.mp z)) (fun y H'' ⟨e', q'⟩ => ⟨e', ?_⟩) fun _ _ z => z, fun z => ⟨rfl, by subst z; simp only [Bool.false_eq_true, false_iff] at q ⊢; exact fun r => q r.1⟩⟩
    rw [q']
    exact ⟨fun r => ⟨q.mp z, r⟩, fun r => r.2⟩) fun _ _ z => z)
theorem Tp_or {es : List Expr} {p : Pos} {P : Prop} (h : Tpo c f es m H P) : Tp c f (.BoolOp .Or es p) m H P := Ts_bool h
theorem Tp_and {es : List Expr} {p : Pos} {P : Prop} (h : Tpa c f es m H P) : Tp c f (.BoolOp .And es p) m H P := Ts_bool h
def Pb (c : Cx) (f : Fx) (e : Expr) (m : Loc) (H : AH) (P : Prop) : Prop := Ev c f e m H (fun d H' => H' = H ∧ ∃ b, d = .bool b ∧ (b = true ↔ P)) (fun _ _ => False)
instance {c : Cx} {f : Fx} {e : Expr} {m : Loc} {H : AH} {P : Prop} : CoeFun (Pb c f e m H P) (fun _ => ∀ s, St c f m H s → wpAny c.M f.A (eval e f.env) (Good c f m (fun d H' => H' = H ∧ ∃ b, d = .bool b ∧ (b = true ↔ P)) s) (Thr c f m (fun _ _ => False)) s) := ⟨fun h => Ev.run h⟩
theorem Pb.ev {e : Expr} {P : Prop} (h : Pb c f e m H P) (q : ∀ b : Bool, (b = true ↔ P) → Q (.bool b) H) : Ev c f e m H Q X :=
  Ev.mono h (fun _ _ ⟨a, b, e, r⟩ => by subst a; subst e; exact q b r) fun _ _ z => z.elim
theorem Pe.pb {e : Expr} {b : Bool} {P : Prop} (h : Pe c f e m H (.bool b)) (k : b = true ↔ P) : Pb c f e m H P := Pe.ev h ⟨rfl, b, rfl, k⟩
theorem Pb.pe {e : Expr} {P : Prop} {b : Bool} (h : Pb c f e m H P) (k : b = true ↔ P) : Pe c f e m H (.bool b) := Pb.ev h fun b' r => ⟨by rw [Bool.eq_iff_iff.mpr (r.trans k.symm)], rfl⟩
theorem Pb_not {e : Expr} {p : Pos} {P : Prop} (h : Pb c f e m H P) : Pb c f (.UnaryOp .Not e p) m H (¬ P) := .mk fun s S => by
  rw [arm_eval_UnaryOp]
  refine wpAny_bind (wpAny_mono (h s S) (fun v s₁ z => ?_) fun _ _ x => x)
  obtain ⟨t, d, H', i, S₁, rfl, b, rfl, r⟩ := z
  obtain rfl := is_raw i
  refine wpAny_bind (wpAny_standAt (wpAny_holding (wpAny_holding ?_)))
  refine wpAny_bind (wpAny_pure ?_)
  exact wpAny_pure ⟨t, .bool (!b), _, mk_raw, S₁, rfl, _, rfl, by cases b <;> simp_all⟩
theorem Pb_and1 {e : Expr} {p : Pos} {op : BoolOp} {P : Prop} (h : Pb c f e m H P) : Pb c f (.BoolOp op [e] p) m H P := .mk fun s S => BoolOp_one (h s S)
theorem Pb_and {e e₂ : Expr} {es : List Expr} {p : Pos} {P R : Prop} (h : Pb c f e m H P) (h2 : P → Pb c f (.BoolOp .And (e₂ :: es) p) m H R) : Pb c f (.BoolOp .And (e :: e₂ :: es) p) m H (P ∧ R) := .mk fun s S => by
  refine BoolOp_and (wpAny_mono (h s S) (fun v s₁ z => ?_) fun _ _ x => x)
  obtain ⟨t, d, H', i, S₁, rfl, b, rfl, r⟩ := z
  obtain rfl := is_raw i
  refine wpAny_pure ?_
  cases b with
  | true =>
    rw [if_pos rfl]
    refine wpAny_mono (h2 (r.mp rfl) s₁ S₁) (fun v s₂ z => ?_) fun _ _ x => x
    obtain ⟨t', d, H', i, S₂, e, b, e', r'⟩ := z
    exact ⟨t.trans t', d, H', i, S₂, e, b, e', r'.trans ⟨fun q => ⟨r.mp rfl, q⟩, fun q => q.2⟩⟩
  | false =>
    rw [if_neg (by decide)]
    exact ⟨t, _, _, mk_raw, S₁, rfl, false, rfl, by simp only [Bool.false_eq_true, false_iff] at r ⊢; exact fun q => r q.1⟩
end
end Mine
set_option maxRecDepth 100000
set_option linter.unusedVariables false
namespace Mine
open PySem PyProof.Rows PySem.Builtin PySem.W
theorem Loc.set_set (m : Loc) (x : Str) (a b : V) : (m.set x a).set x b = m.set x b := funext fun y => by unfold Loc.set; split <;> rfl
section
variable {c : Cx} {f : Fx} {m : Loc} {H : AH} {X : Value → AH → Prop}
theorem Ex_if_set {x : Str} {t e : Expr} {p q p' : Pos} {rest : List Stmt} {Q : Ko} {P : Prop} {d0 d1 : V} (h : Tp c f t (m.set x d0) H P) (he : P → Pe c f e (m.set x d0) H d1) (k : ∀ d, (P ∧ d = d1) ∨ (¬ P ∧ d = d0) → Ex c f rest (m.set x d) H Q)
    (hx : (f.env.kindOf x = some .local) ∨ (f.env.kindOf x = some .cell ∧ (f.env.cells.lookup x).isSome = true)) (hfn : f.fn = true := by rfl) (hk : f.env.scope.kind = .function := by rfl) (hsw : swapsWith e (some (.Name x p)) q.line f.env = pure false := by rfl) :
    Ex c f (.If t [.Assign [.Name x p] e q] [] p' :: rest) (m.set x d0) H Q :=
  Ex_ifp h (fun r => Ex_assign ((he r).ev (by rw [Loc.set_set]; exact k _ (.inl ⟨r, rfl⟩))) hx hfn hk hsw) (fun r => k _ (.inr ⟨r, rfl⟩))
theorem Pe_B1 {x : Str} {p₁ p : Pos} {e : Expr} {id : String} {d d' : V} (K : CxOk c) (g : GN c x (.builtin id)) (h1 : Pe c f e m H d) (h : BN c f H (fun vs => call (.builtin id) vs) [d] d') (hg : f.env.globals = mainGlobals := by rfl) (hb : f.env.builtins = builtinsNs := by rfl)
    (hk : f.env.scope.kind = .function := by rfl) (hn : f.env.kindOf x = some .globalImplicit := by rfl) (hd : (x == ("__debug__" : Str)) = false := by decide) (he : starEach [e] f.env = (false, eval e f.env) :: starEach [] f.env := by rfl) : Pe c f (.Call (.Name x p₁) [e] [] p) m H d' :=
  Pe_callB (Pe_glob K g hg hb hk hn hd) (Pes_cons h1 Pes_nil he) h he rfl
theorem Pe_B2 {x : Str} {p₁ p : Pos} {e e₂ : Expr} {id : String} {d d₂ d' : V} (K : CxOk c) (g : GN c x (.builtin id)) (h1 : Pe c f e m H d) (h2 : Pe c f e₂ m H d₂) (h : BN c f H (fun vs => call (.builtin id) vs) [d, d₂] d') (hg : f.env.globals = mainGlobals := by rfl) (hb : f.env.builtins = builtinsNs := by rfl)
    (hk : f.env.scope.kind = .function := by rfl) (hn : f.env.kindOf x = some .globalImplicit := by rfl) (hd : (x == ("__debug__" : Str)) = false := by decide) (he : starEach [e, e₂] f.env = (false, eval e f.env) :: starEach [e₂] f.env := by rfl) (he2 : starEach [e₂] f.env = (false, eval e₂ f.env) :: starEach [] f.env := by rfl)
    (hp : (backTo p (starEach [e₂] f.env)).any (·.1) = false := by rfl) : Pe c f (.Call (.Name x p₁) [e, e₂] [] p) m H d' :=
  Pe_callB (Pe_glob K g hg hb hk hn hd) (Pes_cons h1 (Pes_cons h2 Pes_nil he2) he) h he hp
theorem Pb_isi {x t : Str} {p₁ p p₂ : Pos} {e : Expr} {T : String} {d : V} {b : Bool} (K : CxOk c) (g : GN c x (.builtin "isinstance")) (gT : GN c t (.type T)) (h1 : Pe c f e m H d) (h : BN c f H (fun vs => call (.builtin "isinstance") vs) [d, .raw (.type T)] (.bool b)) (hg : f.env.globals = mainGlobals := by rfl) (hb : f.env.builtins = builtinsNs := by rfl)
    (hk : f.env.scope.kind = .function := by rfl) (hn : f.env.kindOf x = some .globalImplicit := by rfl) (hnt : f.env.kindOf t = some .globalImplicit := by rfl) (hd : (x == ("__debug__" : Str)) = false := by decide) (hdt : (t == ("__debug__" : Str)) = false := by decide) (he : starEach [e, .Name t p₂] f.env = (false, eval e f.env) :: starEach [.Name t p₂] f.env := by rfl) (he2 : starEach [.Name t p₂] f.env = (false, eval (.Name t p₂) f.env) :: starEach [] f.env := by rfl)
    (hp : (backTo p (starEach [.Name t p₂] f.env)).any (·.1) = false := by rfl) : Pb c f (.Call (.Name x p₁) [e, .Name t p₂] [] p) m H (b = true) :=
  (Pe_B2 K g h1 (Pe_glob K gT hg hb hk hnt hdt) h hg hb hk hn hd he he2 hp).pb Iff.rfl
theorem Pe_F1 {x : Str} {p₁ p : Pos} {e : Expr} {fa : Addr} {o : Obj} {fd : FuncData} {k : Nat} {d d' : V} (K : CxOk c) (g : GN c x (.ref fa)) (ho : c.base.get? fa = some o) (hfd : o.data = .func fd) (R : Room k f.A) (hf : f.A.frames = some f.frs) (h1 : Pe c f e m H d) (h : Fn c k (.ref fa) [d] H (fun d'' H' => d'' = d' ∧ H' = H) (fun _ _ => False)) (hg : f.env.globals = mainGlobals := by rfl) (hb : f.env.builtins = builtinsNs := by rfl)
    (hk : f.env.scope.kind = .function := by rfl) (hn : f.env.kindOf x = some .globalImplicit := by rfl) (hd : (x == ("__debug__" : Str)) = false := by decide) (he : starEach [e] f.env = (false, eval e f.env) :: starEach [] f.env := by rfl) : Pe c f (.Call (.Name x p₁) [e] [] p) m H d' :=
  Pe_call ho hfd R hf (Pe_glob K g hg hb hk hn hd) (Pes_cons h1 Pes_nil he) h he
theorem Pe_F2 {x : Str} {p₁ p : Pos} {e e₂ : Expr} {fa : Addr} {o : Obj} {fd : FuncData} {k : Nat} {d d₂ d' : V} (K : CxOk c) (g : GN c x (.ref fa)) (ho : c.base.get? fa = some o) (hfd : o.data = .func fd) (R : Room k f.A) (hf : f.A.frames = some f.frs) (h1 : Pe c f e m H d) (h2 : Pe c f e₂ m H d₂) (h : Fn c k (.ref fa) [d, d₂] H (fun d'' H' => d'' = d' ∧ H' = H) (fun _ _ => False)) (hg : f.env.globals = mainGlobals := by rfl) (hb : f.env.builtins = builtinsNs := by rfl)
    (hk : f.env.scope.kind = .function := by rfl) (hn : f.env.kindOf x = some .globalImplicit := by rfl) (hd : (x == ("__debug__" : Str)) = false := by decide) (he : starEach [e, e₂] f.env = (false, eval e f.env) :: starEach [e₂] f.env := by rfl) (he2 : starEach [e₂] f.env = (false, eval e₂ f.env) :: starEach [] f.env := by rfl) : Pe c f (.Call (.Name x p₁) [e, e₂] [] p) m H d' :=
  Pe_call ho hfd R hf (Pe_glob K g hg hb hk hn hd) (Pes_cons h1 (Pes_cons h2 Pes_nil he2) he) h he
end
theorem three_fits (a b d : V) : [a, b, d].length ≤ sizeLine := by show 3 ≤ sizeLine; decide
theorem bt_isinstance : bootBuiltins (Str.ofString "isinstance") = some (.builtin "isinstance") := by decide +kernel
theorem bt_len : bootBuiltins (Str.ofString "len") = some (.builtin "len") := by decide +kernel
theorem bt_range : bootBuiltins (Str.ofString "range") = some (.type "range") := by decide +kernel
theorem bt_int : bootBuiltins (Str.ofString "int") = some (.type "int") := by decide +kernel
theorem bt_bool : bootBuiltins (Str.ofString "bool") = some (.type "bool") := by decide +kernel
theorem bt_list : bootBuiltins (Str.ofString "list") = some (.type "list") := by decide +kernel
theorem bt_max : bootBuiltins (Str.ofString "max") = some (.builtin "max") := by decide +kernel
theorem bt_min : bootBuiltins (Str.ofString "min") = some (.builtin "min") := by decide +kernel
theorem bt_sorted : bootBuiltins (Str.ofString "sorted") = some (.builtin "sorted") := by decide +kernel
theorem bt_ValueError : bootBuiltins (Str.ofString "ValueError") = some (.type "ValueError") := by decide +kernel
end Mine
set_option maxRecDepth 100000
set_option linter.unusedVariables false
namespace Mine
open PySem PyProof.Rows PySem.Builtin PySem.W
section
variable {c : Cx} {f : Fx} {m : Loc} {H : AH} {X : Value → AH → Prop} {Q : V → AH → Prop}
theorem Ex.mono {sts : List Stmt} {Q Q' : Ko} (h : Ex c f sts m H Q) (k : ∀ o m' H', Q o m' H' → Q' o m' H') : Ex c f sts m H Q' :=
  .mk fun s S => wpAny_mono (h s S) (fun _ _ ⟨o, m', H', a, b, q⟩ => ⟨o, m', H', a, b, k _ _ _ q⟩) fun _ _ ⟨C, m', H', e, a, b, d, q⟩ => ⟨C, m', H', e, a, b, d, k _ _ _ q⟩
theorem Ex_whilep (O : FrOk f) {σ : Type} {t : Expr} {body rest : List Stmt} {p : Pos} {Q : Ko} (S : σ → Loc) (μ : σ → Nat) (I : σ → Prop) (P : σ → Prop) (x0 : σ) (h0 : I x0) (hm : m = S x0)
    (ht : ∀ x, I x → Tp c f t (S x) H (P x))
    (hb : ∀ x, I x → P x → Ex c f body (S x) H (fun o m' H' => o = .next ∧ H' = H ∧ ∃ y, I y ∧ μ y < μ x ∧ m' = S y))
    (hr : ∀ x, I x → ¬ P x → Ex c f rest (S x) H Q) : Ex c f (.While t body [] p :: rest) m H Q := by
  refine Ex_while O (fun n m' H' => H' = H ∧ ∃ x, I x ∧ μ x = n ∧ m' = S x) (μ x0) ⟨rfl, x0, h0, rfl, hm⟩ fun n m' H' z => ?_
  obtain ⟨rfl, x, hx, hn, rfl⟩ := z
  refine Ts.mono (ht x hx) (fun b H'' ⟨e, q⟩ => ?_) fun _ _ z => z.elim
  subst e
  refine ⟨fun hb' => Ex.mono (hb x hx (q.mp hb')) fun o m₂ H₂ z => ?_, fun hb' => hr x hx fun r => by rw [q.mpr r] at hb'; cases hb'⟩
  refine e0a3 z fun rq80 rq81 rq82 => ?_; clear z; obtain rfl := rq80; obtain rfl := rq81; refine e1a3 rq82 fun y hy hlt rq83 => ?_; clear rq82; obtain rfl := rq83
  exact ⟨μ y, hn ▸ hlt, rfl, y, hy, rfl, rfl⟩
theorem Ex_while1 (O : FrOk f) {σ : Type} {t : Expr} {body rest : List Stmt} {p : Pos} {Q : Ko} {x : Str} {d0 : V} (g : σ → V) (μ : σ → Nat) (I : σ → Prop) (P : σ → Prop) (x0 : σ) (h0 : I x0) (hm : d0 = g x0)
    (ht : ∀ y, I y → Tp c f t (m.set x (g y)) H (P y))
    (hb : ∀ y, I y → P y → Ex c f body (m.set x (g y)) H (fun o m' H' => o = .next ∧ H' = H ∧ ∃ z, I z ∧ μ z < μ y ∧ m' = m.set x (g z)))
    (hr : ∀ y, I y → ¬ P y → Ex c f rest (m.set x (g y)) H Q) : Ex c f (.While t body [] p :: rest) (m.set x d0) H Q :=
  Ex_whilep O (fun y => m.set x (g y)) μ I P x0 h0 (by rw [hm]) ht hb hr
theorem Ev_F1 {x : Str} {p₁ p : Pos} {e : Expr} {fa : Addr} {o : Obj} {fd : FuncData} {k : Nat} {d : V} (K : CxOk c) (g : GN c x (.ref fa)) (ho : c.base.get? fa = some o) (hfd : o.data = .func fd) (R : Room k f.A) (hf : f.A.frames = some f.frs) (h1 : Pe c f e m H d) (h : Fn c k (.ref fa) [d] H Q X) (hg : f.env.globals = mainGlobals := by rfl) (hb : f.env.builtins = builtinsNs := by rfl)
    (hk : f.env.scope.kind = .function := by rfl) (hn : f.env.kindOf x = some .globalImplicit := by rfl) (hd : (x == ("__debug__" : Str)) = false := by decide) (he : starEach [e] f.env = (false, eval e f.env) :: starEach [] f.env := by rfl) : Ev c f (.Call (.Name x p₁) [e] [] p) m H Q X :=
  Ev_call ho hfd R hf ((Pe_glob K g hg hb hk hn hd).ev ⟨rfl, (Pes_cons h1 Pes_nil he).evs h⟩) he
theorem Ev_F2 {x : Str} {p₁ p : Pos} {e e₂ : Expr} {fa : Addr} {o : Obj} {fd : FuncData} {k : Nat} {d d₂ : V} (K : CxOk c) (g : GN c x (.ref fa)) (ho : c.base.get? fa = some o) (hfd : o.data = .func fd) (R : Room k f.A) (hf : f.A.frames = some f.frs) (h1 : Pe c f e m H d) (h2 : Pe c f e₂ m H d₂) (h : Fn c k (.ref fa) [d, d₂] H Q X) (hg : f.env.globals = mainGlobals := by rfl) (hb : f.env.builtins = builtinsNs := by rfl)
    (hk : f.env.scope.kind = .function := by rfl) (hn : f.env.kindOf x = some .globalImplicit := by rfl) (hd : (x == ("__debug__" : Str)) = false := by decide) (he : starEach [e, e₂] f.env = (false, eval e f.env) :: starEach [e₂] f.env := by rfl) (he2 : starEach [e₂] f.env = (false, eval e₂ f.env) :: starEach [] f.env := by rfl) : Ev c f (.Call (.Name x p₁) [e, e₂] [] p) m H Q X :=
  Ev_call ho hfd R hf ((Pe_glob K g hg hb hk hn hd).ev ⟨rfl, (Pes_cons h1 (Pes_cons h2 Pes_nil he2) he).evs h⟩) he
theorem Pe_F3 {x : Str} {p₁ p : Pos} {e e₂ e₃ : Expr} {fa : Addr} {o : Obj} {fd : FuncData} {k : Nat} {d d₂ d₃ d' : V} (K : CxOk c) (g : GN c x (.ref fa)) (ho : c.base.get? fa = some o) (hfd : o.data = .func fd) (R : Room k f.A) (hf : f.A.frames = some f.frs) (h1 : Pe c f e m H d) (h2 : Pe c f e₂ m H d₂) (h3 : Pe c f e₃ m H d₃) (h : Fn c k (.ref fa) [d, d₂, d₃] H (fun d'' H' => d'' = d' ∧ H' = H) (fun _ _ => False)) (hg : f.env.globals = mainGlobals := by rfl) (hb : f.env.builtins = builtinsNs := by rfl)
    (hk : f.env.scope.kind = .function := by rfl) (hn : f.env.kindOf x = some .globalImplicit := by rfl) (hd : (x == ("__debug__" : Str)) = false := by decide) (he : starEach [e, e₂, e₃] f.env = (false, eval e f.env) :: starEach [e₂, e₃] f.env := by rfl) (he2 : starEach [e₂, e₃] f.env = (false, eval e₂ f.env) :: starEach [e₃] f.env := by rfl) (he3 : starEach [e₃] f.env = (false, eval e₃ f.env) :: starEach [] f.env := by rfl) : Pe c f (.Call (.Name x p₁) [e, e₂, e₃] [] p) m H d' :=
  Pe_call ho hfd R hf (Pe_glob K g hg hb hk hn hd) (Pes_cons h1 (Pes_cons h2 (Pes_cons h3 Pes_nil he3) he2) he) h he
theorem M_min {a b : Int} (hh : f.A.handled = none) : BN c f H (fun vs => call (.builtin "min") vs) [.int a, .int b] (.int (min a b)) := .mk fun m s vs S ia => by
  simp only [IsAll] at ia; refine e2a3 ia fun v r rq84 i rq85 => ?_; clear ia; obtain rfl := rq84; refine e2a3 rq85 fun v' r' rq86 i' rq87 => ?_; clear rq85; obtain rfl := rq86; obtain rfl := rq87
  obtain ⟨t, rfl⟩ := is_int i; obtain ⟨t', rfl⟩ := is_int i'
  refine min_two_ints hh fun h' tk g => ⟨g, rfl, rfl, ?_⟩
  split
  · rw [Int.min_eq_right (by exact om38 (by assumption))]; exact mk_int
  · rw [Int.min_eq_left (by exact om39 (by assumption))]; exact mk_int
theorem M_max {a b : Int} (hh : f.A.handled = none) : BN c f H (fun vs => call (.builtin "max") vs) [.int a, .int b] (.int (max a b)) := .mk fun m s vs S ia => by
  simp only [IsAll] at ia; refine e2a3 ia fun v r rq88 i rq89 => ?_; clear ia; obtain rfl := rq88; refine e2a3 rq89 fun v' r' rq90 i' rq91 => ?_; clear rq89; obtain rfl := rq90; obtain rfl := rq91
  obtain ⟨t, rfl⟩ := is_int i; obtain ⟨t', rfl⟩ := is_int i'
  refine max_two_ints hh fun h' tk g => ⟨g, rfl, rfl, ?_⟩
  split
  · rw [Int.max_eq_right (by exact om38 (by assumption))]; exact mk_int
  · rw [Int.max_eq_left (by exact om39 (by assumption))]; exact mk_int
end
end Mine
set_option maxRecDepth 100000
set_option linter.unusedVariables false
namespace Mine
open PySem PyProof.Rows PySem.Builtin PySem.W
section
variable {c : Cx} {f : Fx} {m : Loc} {H : AH} {X : Value → AH → Prop} {Q : V → AH → Prop}
theorem Ex1_if {t : Expr} {body orelse : List Stmt} {p : Pos} {Q : Ko} (h : Ts c f t m H (fun b H' => (b = true → Ex c f body m H' Q) ∧ (b = false → Ex c f orelse m H' Q)) (fun C H' => Q (.exc C) m H')) : Ex1 c f (.If t body orelse p) m H Q := .mk fun s S =>
  wpAny_If (wpAny_mono (h s S) (fun b s₂ z => by
    refine e1a3 z fun H' S' q₁ q₂ => ?_; clear z
    cases b with
    | true => rw [if_pos rfl]; exact q₁ rfl s₂ S'
    | false => rw [if_neg (by decide)]; exact q₂ rfl s₂ S') fun _ _ z => z.ex fun _ _ y => y)
theorem Ex_ifj {t : Expr} {body orelse rest : List Stmt} {p : Pos} {Q : Ko} {P : Prop} (I : Loc → AH → Prop) (h : Tp c f t m H P)
    (h1 : P → Ex c f body m H (fun o m' H' => o = .next ∧ I m' H')) (h2 : ¬ P → Ex c f orelse m H (fun o m' H' => o = .next ∧ I m' H')) (k : ∀ m' H', I m' H' → Ex c f rest m' H' Q) : Ex c f (.If t body orelse p :: rest) m H Q :=
  Ex_seq (Ex1_if (Ts.mono h (fun b H' ⟨e, q⟩ => by
    subst e
    refine ⟨fun z => Ex.mono (h1 (q.mp z)) fun o m' H' z => ?_, fun z => Ex.mono (h2 fun y => by rw [q.mpr y] at z; cases z) fun o m' H' z => ?_⟩
    · obtain ⟨rfl, i⟩ := z; exact k _ _ i
    · obtain ⟨rfl, i⟩ := z; exact k _ _ i) fun _ _ z => z.elim))
end
end Mine
set_option maxRecDepth 100000
set_option linter.unusedVariables false
namespace Mine
open PySem PyProof.Rows PySem.Builtin PySem.W
def dget (kvs : List (Int × V)) (k : Int) : Option V := (kvs.find? fun kv => kv.1 = k).map (·.2)
def dset (kvs : List (Int × V)) (k : Int) (d : V) : List (Int × V) := if kvs.any (fun kv => kv.1 = k) then kvs.map (fun kv => if kv.1 = k then (kv.1, d) else kv) else kvs ++ [(k, d)]
theorem dget_is {h : Heap} {k : Int} : ∀ {kvs : List (Int × V)} {kv : List (Int × Value)}, kv.map (·.1) = kvs.map (·.1) → IsAll h (kvs.map (·.2)) (kv.map (·.2)) → (dget kvs k = none ∧ valueAt kv k = none) ∨ ∃ d v, dget kvs k = some d ∧ valueAt kv k = some v ∧ Is h d v
  | [], [], _, _ => .inl ⟨rfl, rfl⟩
  | [], x :: r, e, _ => by simp at e
  | x :: r, [], e, _ => by simp at e
  | (a, d) :: r, (b, v) :: r', e, i => by
    simp only [List.map_cons, List.cons.injEq] at e
    obtain ⟨rfl, e⟩ := e
    simp only [List.map_cons, IsAll] at i
    refine e2a3 i fun v' rr e' i1 i2 => ?_; clear i
    injection e' with e1 e2
    subst e1; subst e2
    by_cases q : b = k
    · subst q
      exact .inr ⟨d, v, by simp [dget], by simp [valueAt], i1⟩
    · have h1 : dget ((b, d) :: r) k = dget r k := by simp [dget, List.find?, q]
      have h2 : valueAt ((b, v) :: r') k = valueAt r' k := by simp [valueAt, List.find?, q]
      rw [h1, h2]; exact dget_is e i2
theorem dset_any {k : Int} {kvs : List (Int × V)} {kv : List (Int × Value)} (e : kv.map (·.1) = kvs.map (·.1)) : kv.any (fun x => decide (x.1 = k)) = kvs.any (fun x => decide (x.1 = k)) := by
  have h1 : kv.any (fun x => decide (x.1 = k)) = (kv.map (·.1)).any (fun x => decide (x = k)) := by rw [List.any_map]; rfl
  have h2 : kvs.any (fun x => decide (x.1 = k)) = (kvs.map (·.1)).any (fun x => decide (x = k)) := by rw [List.any_map]; rfl
  rw [h1, h2, e]
theorem dset_map {h : Heap} {k : Int} {d : V} {v : Value} (iv : Is h d v) : ∀ {kvs : List (Int × V)} {kv : List (Int × Value)}, kv.map (·.1) = kvs.map (·.1) → IsAll h (kvs.map (·.2)) (kv.map (·.2)) →
    (kv.map (fun x => if x.1 = k then (x.1, v) else x)).map (·.1) = (kvs.map (fun x => if x.1 = k then (x.1, d) else x)).map (·.1) ∧ IsAll h ((kvs.map (fun x => if x.1 = k then (x.1, d) else x)).map (·.2)) ((kv.map (fun x => if x.1 = k then (x.1, v) else x)).map (·.2))
  | [], [], _, _ => ⟨rfl, isAll_nil _⟩
  | [], x :: r, e, _ => by simp at e
  | x :: r, [], e, _ => by simp at e
  | (a, d') :: r, (b, v') :: r', e, i => by
    simp only [List.map_cons, List.cons.injEq] at e
    obtain ⟨rfl, e⟩ := e
    simp only [List.map_cons, IsAll] at i
    refine e2a3 i fun v'' rr e' i1 i2 => ?_; clear i
    injection e' with e1 e2
    subst e1; subst e2
    obtain ⟨p, q⟩ := dset_map iv e i2
    by_cases z : b = k
    · simp only [List.map_cons, z, if_true]
      exact ⟨by rw [p], isAll_cons iv q⟩
    · simp only [List.map_cons, z, if_false]
      exact ⟨by rw [p], isAll_cons i1 q⟩
theorem dset_is {h : Heap} {k : Int} {d : V} {v : Value} (iv : Is h d v) {kvs : List (Int × V)} {kv : List (Int × Value)} (e : kv.map (·.1) = kvs.map (·.1)) (i : IsAll h (kvs.map (·.2)) (kv.map (·.2))) :
    (stored kv k v).map (·.1) = (dset kvs k d).map (·.1) ∧ IsAll h ((dset kvs k d).map (·.2)) ((stored kv k v).map (·.2)) := by
  unfold stored dset
  rw [dset_any e]
  split
  · exact dset_map iv e i
  · rw [List.map_append, List.map_append, List.map_append, List.map_append, e]
    exact ⟨rfl, i.append (isAll_one iv)⟩
theorem plainL_reverse {prog : Program} {w : World} {A : Around} {E : Value → Shared → Prop} {s : Shared} {l : Addr} {its : Array Value} {Q : Value → Shared → Prop}
    (hl : PlainL s.heap l its) (hQ : ∀ h', PlainL h' l its.reverse → Heap.SameBut l s.heap h' → Q .none { s with heap := h' }) (hsz : its.size ≤ sizeLine) :
    wpAny (model prog w) A (call (.builtin "list.reverse") [.ref l]) Q E s := by
  refine e2a4 (id hl) fun o n ho hc hdn hd => ?_
  obtain ⟨n', hd'⟩ := Obj.data_mapSeq hd (·.reverse)
  refine wpAny_call_entry PySem.F.slot_list_reverse hl.isList.typeIs PySem.F.entry_list_reverse ?_ (PySem.F.args_list_reverse_1 _)
  show wpAny _ _ (updateSeq l (·.reverse) >>= fun _ => ret .none) _ _ s
  refine wpAny_bind ?_
  refine wpAny_updateSeq ho hd (wpAny_pure ⟨.none, rfl, hQ _ ?_ (Heap.SameBut.update ..)⟩) (hz := hsz) (_hz' := by rw [Array.size_reverse]; exact om12 hsz)
  refine ⟨_, n', Heap.get?_update_self _ ho (Obj.isFreed_of_seq hd'), (Obj.cls_mapSeq ..).trans hc, ?_, hd'⟩
  obtain ⟨c, d, dt, sl⟩ := o
  subst hd
  exact hdn
theorem IsAll.reverse {h : Heap} : ∀ {ds : List V} {vs : List Value}, IsAll h ds vs → IsAll h ds.reverse vs.reverse
  | [], _, x => by simp only [IsAll] at x; subst x; exact isAll_nil _
  | d :: ds, _, x => by
    simp only [IsAll] at x
    refine e2a3 x fun v r rq92 a z => ?_; clear x; obtain rfl := rq92
    rw [List.reverse_cons, List.reverse_cons]
    exact (IsAll.reverse z).append (isAll_one a)
section
variable {c : Cx} {f : Fx} {m : Loc} {H : AH} {X : Value → AH → Prop} {Q : V → AH → Prop}
-- lists
theorem Ev_list {es : List Expr} {p : Pos} (K : CxOk c) (h : Evs c f es p m H (fun ds H' => ds.length ≤ sizeLine ∧ ∀ a o, H' a = none → Q (.ref a) (H'.set a ⟨o, .list ds⟩)) X) : Ev c f (.List es p) m H Q X := .mk fun s S => by
  refine wpAny_List (wpAny_mono (h s S) (fun vs s₁ z => ?_) fun _ _ x => x)
  obtain ⟨t, ds, H', ia, S₁, hl, q⟩ := z
  have g : Grow s₁.heap (s₁.heap.push { cls := .type "list", data := .seq vs.toArray }) := Grow.push _ _
  have hn : s₁.heap.get? s₁.heap.objs.size = none := by
    cases e : s₁.heap.get? s₁.heap.objs.size with
    | none => rfl
    | some o => exact absurd (Heap.lt_size e) (Nat.lt_irrefl _)
  have hH : H' s₁.heap.objs.size = none := by
    cases e : H' s₁.heap.objs.size with
    | none => rfl
    | some x => refine e1a2 ((S₁.rep _ _ e).obj) fun o e' _ => ?_; rw [hn] at e'; cases e'
  have hx : (s₁.heap.push { cls := .type "list", data := .seq vs.toArray }).get? s₁.heap.objs.size = some { cls := .type "list", data := .seq vs.toArray } := Heap.get?_push_size _ rfl
  exact ⟨by rw [ia.length]; exact hl, t.trans g.tk, .ref _, _, mk_raw, S₁.alloc (s' := { s₁ with heap := s₁.heap.push { cls := .type "list", data := .seq vs.toArray } }) (x := ⟨_, .list ds⟩) g rfl rfl hn (S₁.sizeBig K) ⟨hx, vs, ⟨_, _, hx, rfl, rfl, rfl⟩, ia.tk g.tk⟩, q _ _ hH⟩
theorem G_list {a : Addr} {ds : List V} {i : Int} {j : Nat} {d : V} (h : ListAt H a ds) (hj : seqIndex? i ds.length = some j) (hd : ds[j]? = some d) (hf : -9223372036854775808 ≤ i ∧ i < 9223372036854775808) : G2 c f H (.ref a) (.int i) d := .mk fun m s vo vi S io ii => by
  obtain rfl := is_raw io; obtain ⟨u, rfl⟩ := is_int ii
  refine e1a2 (S.rep.plain h) fun vs rq93 ia => ?_; obtain ⟨o, n, g, cl, dn, dt⟩ := rq93
  refine e1a2 (ia.get hd) fun v hv iv => ?_
  have hl : s.heap.IsList a vs.toArray := ⟨o, g, cl, n, dt⟩
  refine ⟨"list", _, hl.typeIs, slot_list_getitem.lookup, ?_⟩
  unfold seqIndex? at hj
  have e := ia.length
  by_cases q : i < 0
  · simp only [q, if_true] at hj
    split at hj
    · rename_i hh; simp at hh; injection hj with hj; subst hj
      exact wpAny_getItem_list_neg (x := v) hl q (by rw [List.size_toArray]; exact om40 e hh) (by omega) (by rw [List.size_toArray, e]; simpa using hv) ⟨Grow.refl _, rfl, rfl, iv⟩
    · cases hj
  · simp only [q, if_false] at hj
    split at hj
    · rename_i hh; simp at hh; injection hj with hj; subst hj
      exact wpAny_getItem_list (x := v) hl (by exact om41 q) (by omega) (by simpa using hv) ⟨Grow.refl _, rfl, rfl, iv⟩
    · cases hj
theorem L_list {a : Addr} {ds : List V} (h : ListAt H a ds) (hsz : ds.length ≤ sizeLine) : BN c f H (fun vs => call (.builtin "len") vs) [.ref a] (.int ds.length) := .mk fun m s vs S ia => by
  simp only [IsAll] at ia; refine e2a3 ia fun v r rq94 i rq95 => ?_; clear ia; obtain rfl := rq94; obtain rfl := rq95
  obtain rfl := is_raw i
  refine e1a2 (S.rep.plain h) fun us rq96 ja => ?_; obtain ⟨o, n, g, cl, dn, dt⟩ := rq96
  have e := ja.length
  have hl : ds.length < 2 ^ 63 := Nat.lt_of_le_of_lt hsz (by decide)
  refine Calls.call_len_list (items := us.toArray) ⟨o, g, cl, n, dt⟩ (by rw [List.size_toArray]; omega) ?_
  rw [List.size_toArray, e]; exact ⟨Grow.refl _, rfl, rfl, mk_int⟩
theorem has_listAt {a : Addr} {ds : List V} (h : ListAt H a ds) : Has c H (.ref a) "list" := let ⟨o, e⟩ := h; has_list e
theorem O_append {a : Addr} {ds : List V} {d : V} (h : ListAt H a ds) (hsz : ds.length ≤ sizeLine) (q : ∀ o, Q .none (H.set a ⟨o, .list (ds ++ [d])⟩)) : OpN c f (fun vs => call (.builtin "list.append") vs) [.ref a, d] m H Q X := .mk fun s vs S ia => by
  simp only [IsAll] at ia; refine e2a3 ia fun v r rq97 i rq98 => ?_; clear ia; obtain rfl := rq97; refine e2a3 rq98 fun v' r' rq99 i' rq100 => ?_; clear rq98; obtain rfl := rq99; obtain rfl := rq100
  obtain rfl := is_raw i
  refine e1a2 (S.rep.plain h) fun us pl ja => ?_
  refine list_append_plainL pl (fun h' pl' sb => ?_) (by rw [List.size_toArray, ja.length]; exact hsz)
  obtain ⟨o0, e0⟩ := h
  refine e2a2 pl' fun o n g r => ?_; clear pl'
  have nt : Tk s.heap h' := fun b o₁ _ _ e cl dt => ⟨o₁, by
    by_cases z : b = a
    · subst z; refine e2a3 pl fun o' n' g' c' _ => ?_; clear pl; rw [g'] at e; cases e; rw [c'] at cl; exact absurd cl (by decide)
    · exact sb.extBut b o₁ z e, cl, dt⟩
  have := S.upd (s' := { s with heap := h' }) (y := ⟨o, .list (ds ++ [d])⟩) e0 sb.extBut rfl rfl ⟨g, us ++ [v'], ⟨o, n, g, by simpa using r⟩, (ja.append (isAll_one i')).tk nt⟩
  exact ⟨this.2, .none, _, mk_raw, this.1, q o⟩
theorem O_reverse {a : Addr} {ds : List V} (h : ListAt H a ds) (hsz : ds.length ≤ sizeLine) (q : ∀ o, Q .none (H.set a ⟨o, .list ds.reverse⟩)) : OpN c f (fun vs => call (.builtin "list.reverse") vs) [.ref a] m H Q X := .mk fun s vs S ia => by
  simp only [IsAll] at ia; refine e2a3 ia fun v r rq101 i rq102 => ?_; clear ia; obtain rfl := rq101; obtain rfl := rq102
  obtain rfl := is_raw i
  refine e1a2 (S.rep.plain h) fun us pl ja => ?_
  refine plainL_reverse pl (fun h' pl' sb => ?_) (by rw [List.size_toArray, ja.length]; exact hsz)
  obtain ⟨o0, e0⟩ := h
  refine e2a2 pl' fun o n g r => ?_; clear pl'
  have nt : Tk s.heap h' := fun b o₁ _ _ e cl dt => ⟨o₁, by
    by_cases z : b = a
    · subst z; refine e2a3 pl fun o' n' g' c' _ => ?_; clear pl; rw [g'] at e; cases e; rw [c'] at cl; exact absurd cl (by decide)
    · exact sb.extBut b o₁ z e, cl, dt⟩
  have := S.upd (s' := { s with heap := h' }) (y := ⟨o, .list ds.reverse⟩) e0 sb.extBut rfl rfl ⟨g, us.reverse, ⟨o, n, g, by simpa using r⟩, ja.reverse.tk nt⟩
  exact ⟨this.2, .none, _, mk_raw, this.1, q o⟩
-- dicts
theorem G_dict {a : Addr} {kvs : List (Int × V)} {k : Int} {d : V} (h : DictIs H a kvs) (hd : dget kvs k = some d) : G2 c f H (.ref a) (.int k) d := .mk fun m s vo vi S io ii => by
  obtain rfl := is_raw io; obtain ⟨u, rfl⟩ := is_int ii
  refine e1a3 (S.rep.dictOf h) fun kv dd e ia => ?_
  rcases dget_is (k := k) e ia with ⟨e1, _⟩ | ⟨d', v, e1, e2, iv⟩
  · rw [hd] at e1; cases e1
  · rw [hd] at e1; cases e1
    exact ⟨"dict", _, dd.typeIs, slot_dict_getitem.lookup, wpAny_getItem_of (knd := intKind c.prog c.w) (k := k) (by simp [intKind, Value.isInt]) dd.mapOf e2 ⟨Grow.refl _, rfl, rfl, iv⟩⟩
end
end Mine
set_option maxRecDepth 100000
set_option linter.unusedVariables false
namespace Mine
open PySem PyProof.Rows PySem.Builtin PySem.W
theorem size_none (h : Heap) : h.get? h.objs.size = none := by
  cases e : h.get? h.objs.size with
  | none => rfl
  | some o => exact absurd (Heap.lt_size e) (Nat.lt_irrefl _)
section
variable {c : Cx} {f : Fx} {m : Loc} {H : AH} {X : Value → AH → Prop} {Q : V → AH → Prop}
theorem St.sizeH {s : Shared} (S : St c f m H s) : H s.heap.objs.size = none := by
  cases e : H s.heap.objs.size with
  | none => rfl
  | some x => refine e1a2 ((S.rep _ _ e).obj) fun o e' _ => ?_; rw [size_none] at e'; cases e'
theorem keyInt {k : Int} {u : Tok} : (intKind c.prog c.w).is k (.int k u) = true := by simp [intKind, Value.isInt]
theorem B_notIn {a : Addr} {kvs : List (Int × V)} {k : Int} (h : DictIs H a kvs) : B2 c f H (compareOp .NotIn) (.int k) (.ref a) (.bool (!(dget kvs k).isSome)) := .mk fun m s v₁ v₂ S i₁ i₂ => by
  obtain ⟨t, rfl⟩ := is_int i₁; obtain rfl := is_raw i₂
  have ns : (a == sysModules) = false := let ⟨o, e⟩ := h; notSys S e
  refine e1a3 (S.rep.dictOf h) fun kv dd e ia => ?_
  refine wpAny_notIn_of (knd := intKind c.prog c.w) (k := k) keyInt ns dd.mapOf ⟨Grow.refl _, rfl, rfl, ?_⟩
  rcases dget_is (k := k) e ia with ⟨e1, e2⟩ | ⟨d', v, e1, e2, iv⟩ <;> (rw [e1, e2]; exact mk_raw)
theorem Ev_dict0 {p : Pos} (K : CxOk c) (q : ∀ a o, H a = none → Q (.ref a) (H.set a ⟨o, .dict []⟩)) : Ev c f (.Dict [] [] p) m H Q X := .mk fun s S => by
  have g : Grow s.heap (s.heap.push { cls := .type "dict", data := .dict #[] }) := Grow.push _ _
  have hx : (s.heap.push { cls := .type "dict", data := .dict #[] }).get? s.heap.objs.size = some { cls := .type "dict", data := .dict #[] } := Heap.get?_push_size _ rfl
  refine wpAny_Dict_empty ⟨g.tk, .ref _, _, mk_raw, S.alloc (s' := { s with heap := s.heap.push { cls := .type "dict", data := .dict #[] } }) (x := ⟨_, .dict []⟩) g rfl rfl (size_none _) (S.sizeBig K) ⟨hx, [], ?_, rfl, isAll_nil _⟩, q _ _ S.sizeH⟩
  exact ⟨_, _, _, hx, ⟨rfl, rfl, rfl⟩, rfl, (by intro e he; simp at he), .nil, List.nodup_nil⟩
theorem Ex_store {o i value : Expr} {p' p : Pos} {rest : List Stmt} {Q : Ko}
    (h : Ev c f value m H (fun dv H₁ => Ev c f o m H₁ (fun do_ H₂ => Ev c f i m H₂ (fun di H₃ => ∃ a kvs k, do_ = .ref a ∧ di = .int k ∧ DictIs H₃ a kvs ∧ kvs.length ≤ sizeLine ∧ ∀ o', Ex c f rest m (H₃.set a ⟨o', .dict (dset kvs k dv)⟩) Q) (fun C H' => Q (.exc C) m H')) (fun C H' => Q (.exc C) m H')) (fun C H' => Q (.exc C) m H'))
    (hs : swapsWith value (some (.Subscript o i p')) p.line f.env = pure false := by rfl) : Ex c f (.Assign [.Subscript o i p'] value p :: rest) m H Q := .mk fun s S => by
  refine wpAny_execs_cons (wpAny_Assign_Subscript (wpAny_mono (h s S) (fun v s₁ z => ?_) fun x s' z => z.ex fun _ _ y => y) hs)
  obtain ⟨t₁, dv, H₁, i₁, S₁, q₁⟩ := z
  refine wpAny_mono (q₁ s₁ S₁) (fun vo s₂ z => ?_) fun x s' z => z.ex fun _ _ y => y
  obtain ⟨t₂, do_, H₂, i₂, S₂, q₂⟩ := z
  refine wpAny_mono (q₂ s₂ S₂) (fun vi s₃ z => ?_) fun x s' z => z.ex fun _ _ y => y
  obtain ⟨t₃, di, H₃, i₃, S₃, a, kvs, k, rfl, rfl, hd, hsz, q⟩ := z
  obtain rfl := is_raw i₂; obtain ⟨u, rfl⟩ := is_int i₃
  refine e1a3 (S₃.rep.dictOf hd) fun kv dd e ia => ?_
  have el : kv.length = kvs.length := by have := congrArg List.length e; simpa using this
  refine wpAny_setItem_pairs (knd := intKind c.prog c.w) (k := k) keyInt dd (fun h' dd' sb => ?_) (by exact om42 hsz el)
  obtain ⟨o0, e0⟩ := hd
  have nt : Tk s₃.heap h' := fun b o₁ _ _ e cl dt => ⟨o₁, by
    by_cases z : b = a
    · subst z; refine e3a3 dd fun o' _ _ g' ex _ => ?_; clear dd; rw [g'] at e; cases e; rw [ex.1] at cl; exact absurd cl (by decide)
    · exact sb.extBut b o₁ z e, cl, dt⟩
  refine e3a2 (id dd') fun o es ep g r => ?_
  obtain ⟨p1, p2⟩ := dset_is (k := k) (d := dv) (v := v) ((i₁.tk (t₂.trans t₃)).tk nt) e (ia.tk nt)
  have := S₃.upd (s' := { s₃ with heap := h', toks := s₃.toks + 1 }) (y := ⟨o, .dict (dset kvs k dv)⟩) e0 sb.extBut rfl rfl ⟨g, _, dd', p1, p2⟩
  exact (q o) _ this.1
end
end Mine
set_option maxRecDepth 100000
set_option linter.unusedVariables false
namespace Mine
open PySem PyProof.Rows PySem.Builtin PySem.W PySem.F
theorem AH.set_set (H : AH) (a : Addr) (x y : Cell) : (H.set a x).set a y = H.set a y := funext fun b => by unfold AH.set; split <;> rfl
theorem ListAt.same (H : AH) (a : Addr) (o : Obj) (ds : List V) : ListAt (H.set a ⟨o, .list ds⟩) a ds := ⟨o, set_same _ _ _⟩
theorem DictIs.same (H : AH) (a : Addr) (o : Obj) (kvs : List (Int × V)) : DictIs (H.set a ⟨o, .dict kvs⟩) a kvs := ⟨o, set_same _ _ _⟩
theorem ListAt.ne {H : AH} {a b : Addr} {x : Cell} {ds : List V} (h : ListAt H b ds) (n : b ≠ a) : ListAt (H.set a x) b ds := let ⟨o, e⟩ := h; ⟨o, (set_ne H x n).trans e⟩
theorem DictIs.ne {H : AH} {a b : Addr} {x : Cell} {kvs : List (Int × V)} (h : DictIs H b kvs) (n : b ≠ a) : DictIs (H.set a x) b kvs := let ⟨o, e⟩ := h; ⟨o, (set_ne H x n).trans e⟩
theorem ListAt.fresh {H : AH} {a b : Addr} {x : Cell} {ds : List V} (h : ListAt H b ds) (n : H a = none) : ListAt (H.set a x) b ds := h.ne fun q => by obtain ⟨o, e⟩ := h; rw [q, n] at e; cases e
theorem DictIs.fresh {H : AH} {a b : Addr} {x : Cell} {kvs : List (Int × V)} (h : DictIs H b kvs) (n : H a = none) : DictIs (H.set a x) b kvs := h.ne fun q => by obtain ⟨o, e⟩ := h; rw [q, n] at e; cases e
theorem ListAt.ne_new {H : AH} {a b : Addr} {ds : List V} (h : ListAt H b ds) (n : H a = none) : b ≠ a := fun q => by obtain ⟨o, e⟩ := h; rw [q, n] at e; cases e
theorem DictIs.ne_new {H : AH} {a b : Addr} {kvs : List (Int × V)} (h : DictIs H b kvs) (n : H a = none) : b ≠ a := fun q => by obtain ⟨o, e⟩ := h; rw [q, n] at e; cases e
theorem Ext.upd {H H' : AH} {a : Addr} {x : Cell} (e : Ext H H') (n : H a = none) : Ext H (H'.set a x) := fun b nb => by
  have : b ≠ a := fun q => by subst q; exact nb n
  rw [AH.set, if_neg this]; exact e b nb
theorem Ext.list {H H' : AH} {a : Addr} {ds : List V} (e : Ext H H') (h : ListAt H a ds) : ListAt H' a ds := let ⟨o, q⟩ := h; ⟨o, (e a (by rw [q]; exact fun z => nomatch z)).trans q⟩
theorem Ext.dict {H H' : AH} {a : Addr} {kvs : List (Int × V)} (e : Ext H H') (h : DictIs H a kvs) : DictIs H' a kvs := let ⟨o, q⟩ := h; ⟨o, (e a (by rw [q]; exact fun z => nomatch z)).trans q⟩
theorem Ext.none {H H' : AH} {a : Addr} (e : Ext H H') (n : H' a = none) : H a = none := by
  cases q : H a with
  | none => rfl
  | some x => rw [e a (by rw [q]; exact fun z => nomatch z), q] at n; cases n
section
variable {c : Cx} {f : Fx} {m : Loc} {H : AH} {X : Value → AH → Prop} {Q : V → AH → Prop}
theorem Ex_appendS {o e : Expr} {ap p p' : Pos} {rest : List Stmt} {Q : Ko} {a : Addr} {ds : List V} {d : V} (ho : Pe c f o m H (.ref a)) (he : Pe c f e m H d) (h : ListAt H a ds) (hsz : ds.length ≤ sizeLine) (k : ∀ o', Ex c f rest m (H.set a ⟨o', .list (ds ++ [d])⟩) Q)
    (hbase : attributeBase o (Str.ofString "append") f.env (eval o f.env) = eval o f.env := by rfl) (hst : starEach [e] f.env = (false, eval e f.env) :: starEach [] f.env := by rfl) (hline : (ap.endLine == p.line) = true := by rfl) (hi : interactive f.env = false := by rfl) (hsw : swapsWith (.Call (.Attribute o (Str.ofString "append") ap) [e] [] p) none p'.line f.env = pure false := by rfl) :
    Ex c f (.Expr (.Call (.Attribute o (Str.ofString "append") ap) [e] [] p) p' :: rest) m H Q :=
  Ex_expr (Ev_meth plainAttrs_list PySem.slot_list_append (ho.ev ⟨has_listAt h, Evs_cons (he.ev (Evs_nil (O_append h hsz fun o' => ⟨fun h v i a e => (by rw [is_raw i] at e; exact nomatch e), k o'⟩))) hst⟩) PySem.type_list_append hbase (by rw [hst]; rfl) hline hst rfl) hi hsw
end
end Mine
set_option maxRecDepth 100000
set_option linter.unusedVariables false
namespace Mine
open PySem PyProof.Rows PySem.Builtin PySem.W
section
variable {c : Cx} {f : Fx} {m : Loc} {H : AH} {X : Value → AH → Prop} {Q : V → AH → Prop}
theorem Ev_T1 {x : Str} {p₁ p : Pos} {e : Expr} {T : String} {d : V} (K : CxOk c) (g : GN c x (.type T)) (h1 : Pe c f e m H d) (h : OpN c f (fun vs => call (.type T) vs) [d] m H Q X) (hg : f.env.globals = mainGlobals := by rfl) (hb : f.env.builtins = builtinsNs := by rfl)
    (hk : f.env.scope.kind = .function := by rfl) (hn : f.env.kindOf x = some .globalImplicit := by rfl) (hd : (x == ("__debug__" : Str)) = false := by decide) (he : starEach [e] f.env = (false, eval e f.env) :: starEach [] f.env := by rfl) : Ev c f (.Call (.Name x p₁) [e] [] p) m H Q X :=
  Ev_callT ((Pe_glob K g hg hb hk hn hd).ev ⟨rfl, (Pes_cons h1 Pes_nil he).evs h⟩) he rfl
end
structure Wood (kvs : List (Int × V)) (rk : Int → Nat) : Prop where
  ne : kvs ≠ []
  few : kvs.length ≤ 40
  low : ∀ k, rk k ≤ 40
  down : ∀ k d, dget kvs k = some d → d = .none ∨ ∃ b d', d = .int b ∧ dget kvs b = some d' ∧ rk b < rk k
inductive IsChain (kvs : List (Int × V)) : Int → List Int → Prop
  | stop {n : Int} : dget kvs n = some .none → IsChain kvs n [n]
  | step {n b : Int} {xs : List Int} : dget kvs n = some (.int b) → IsChain kvs b xs → IsChain kvs n (n :: xs)
def optV : Option Int → V
  | some y => .int y
  | none => .none
theorem IsChain.head {kvs : List (Int × V)} {n : Int} {xs : List Int} (h : IsChain kvs n xs) : ∃ r, xs = n :: r := by cases h <;> exact ⟨_, rfl⟩
theorem IsChain.next {kvs : List (Int × V)} {n : Int} {xs : List Int} (h : IsChain kvs n xs) : ∀ i x, xs[i]? = some x → dget kvs x = some (optV xs[i + 1]?) := by
  induction h with
  | stop e => intro i x hx; cases i with
    | zero => simp at hx; subst hx; simpa [optV] using e
    | succ i => simp at hx
  | step e h ih => intro i x hx; cases i with
    | zero =>
      simp at hx; subst hx
      obtain ⟨r, rfl⟩ := h.head
      simpa [optV] using e
    | succ i => simpa using ih i x (by simpa using hx)
theorem dget_mem {kvs : List (Int × V)} {k : Int} {d : V} (h : dget kvs k = some d) : (k, d) ∈ kvs := by
  unfold dget at h
  cases q : kvs.find? (fun kv => decide (kv.1 = k)) with
  | none => rw [q] at h; cases h
  | some x =>
    rw [q] at h; cases h
    have := List.find?_some q
    have e : x.1 = k := by simpa using this
    have hm := List.mem_of_find?_eq_some q
    obtain ⟨a, b⟩ := x
    simp at e; subst e; exact hm
theorem dget_of_mem {kvs : List (Int × V)} {k : Int} {d : V} (nd : (kvs.map (·.1)).Nodup) (h : (k, d) ∈ kvs) : dget kvs k = some d := by
  induction kvs with
  | nil => cases h
  | cons x r ih =>
    obtain ⟨k', d'⟩ := x
    simp only [List.map_cons, List.nodup_cons] at nd
    rcases List.mem_cons.mp h with h | h
    · cases h; simp [dget]
    · have hne : k' ≠ k := fun z => nd.1 (by rw [z]; exact List.mem_map.mpr ⟨(k, d), h, rfl⟩)
      have := ih nd.2 h
      simp only [dget, List.find?, hne, decide_false]
      exact this
theorem dget_key {kvs : List (Int × V)} {k : Int} (h : k ∈ kvs.map (·.1)) : ∃ d, dget kvs k = some d := by
  unfold dget
  cases q : kvs.find? (fun kv => decide (kv.1 = k)) with
  | none =>
    refine e1a2 (List.mem_map.mp h) fun x hx rq103 => ?_; obtain rfl := rq103
    have := List.find?_eq_none.mp q x hx
    simp at this
  | some x => exact ⟨x.2, rfl⟩
end Mine
set_option maxRecDepth 100000
set_option linter.unusedVariables false
namespace Mine
open PySem PyProof.Rows PySem.Builtin PySem.W PySem.Calls
structure Own (c : Cx) (K : Frag) : Prop where
  cls : ∀ x C bmB newId, nsIn K mainGlobals x = some (some (.ref C)) → excIn K C bmB newId = true → OwnCls x C bmB newId c.mg c.base
def Loc.del (m : Loc) (x : Str) : Loc := fun y => if y = x then none else m y
section
variable {c : Cx} {f : Fx} {m : Loc} {H : AH} {X : Value → AH → Prop}
theorem Ex_raise {x : Str} {np cpos pos : Pos} {e : Expr} {rest : List Stmt} {Q : Ko} {d : V} {C : Addr} {bmB : List Value} {B newId initId : String} (K : CxOk c) (O : OwnCls x C bmB newId c.mg c.base) (FB : ExcBaseFacts B newId initId bmB) (hh : f.A.handled = none) (he : Pe c f e m H d) (q : Q (.exc (.ref C)) m H)
    (hg : f.env.globals = mainGlobals := by rfl) (hb : f.env.builtins = builtinsNs := by rfl) (hk : f.env.scope.kind = .function := by rfl) (hn : f.env.kindOf x = some .globalImplicit := by rfl) (hd : (x == ("__debug__" : Str)) = false := by decide) (hst : starEach [e] f.env = (false, eval e f.env) :: starEach [] f.env := by rfl) :
    Ex c f (.Raise (some (.Call (.Name x np) [e] [] cpos)) none pos :: rest) m H Q := .mk fun s S => by
  refine e17a4 (O.obj) fun tl N nm qn bs hdct sn sub ab col dd k0 k1 k2 k3 k5 mN hC hN hni T => ?_
  refine wpAny_execs_cons (wpAny_Raise_call_subT (C := C) (nm := nm) (q := qn) (N := N) (bs := bs) (bm := tl) (hdct := hdct) (sn := sn) (sub := sub) (ab := ab) (col := col) (dd := dd) (k0 := k0) (k1 := k1) (k2 := k2) (k3 := k3) (k5 := k5)
    FB (mN := mN) (T.hasType FB.hasBase) hh (by rw [hst]; rfl) hni ?_)
  refine wpAny_mono ((Pe_glob (p := np) (m := m) (H := H) K (.inl O.bound) hg hb hk hn hd) s S) (fun v s₁ z => ?_) fun _ _ z => z.ex fun _ _ y => y.elim
  obtain ⟨t₁, d₁, H₁, i₁, S₁, rfl, rfl⟩ := z
  obtain rfl := is_raw i₁
  refine ⟨rfl, ?_⟩
  have ev := (Pes_cons he Pes_nil hst) cpos s₁ S₁
  rw [hst] at ev ⊢
  refine Calls.evalArgs_plain (wpAny_mono ev (fun vs s₂ z => ?_) fun _ _ z => Thr.ex z fun _ _ y => y.elim)
  obtain ⟨t₂, ds, H₂, i₂, S₂, rfl, rfl⟩ := z
  have hl := i₂.length
  refine ⟨rfl, by rw [hl]; show 1 ≤ sizeLine; decide, S₂.base _ _ hC, hN.keeps S₂.base, T.keeps S₂.base, fun h' e' M => ?_⟩
  have gr : Grow s₂.heap h' := M.keeps
  refine e1a3 (M.there) fun t g1 g2 g3 => ?_
  refine ⟨.ref C, m, _, e', rfl, S₂.grow (s' := { s₂ with heap := h' }) gr rfl rfl, ⟨⟨S₂.old M.new, fun p hp z => ?_⟩, _, _, g1, rfl, rfl, ⟨by simp, .inl rfl⟩, .inl rfl⟩, q⟩
  have := (S₂.kp p hp).1
  rw [← z, M.new] at this; cases this
theorem St.around {s : Shared} (S : St c f m H s) {A : Around} {kp : List (Addr × Obj)} (hk : ∀ p ∈ kp, p ∈ f.keep ∨ (s.heap.get? p.1 = some p.2 ∧ ∃ vs, p.2.data = .fields vs)) : St c { f with A := A, keep := kp } m H s where
  rep := S.rep
  base := S.base
  bE := S.bE
  hb := S.hb
  off := S.off
  dom := S.dom
  up := S.up
  loc := S.loc
  newL := S.newL
  trL := S.trL
  cel := S.cel
  apart := S.apart
  ff := S.ff
  fh := S.fh
  big := S.big
  kp := fun p hp => (hk p hp).elim (S.kp p) id
  gens := S.gens
  os := S.os
theorem St.back_around {s : Shared} {A : Around} {kp : List (Addr × Obj)} (S : St c { f with A := A, keep := kp } m H s) (hk : ∀ p ∈ f.keep, p ∈ kp) : St c f m H s where
  rep := S.rep
  base := S.base
  bE := S.bE
  hb := S.hb
  off := S.off
  dom := S.dom
  up := S.up
  loc := S.loc
  newL := S.newL
  trL := S.trL
  cel := S.cel
  apart := S.apart
  ff := S.ff
  fh := S.fh
  big := S.big
  kp := fun p hp => S.kp p (hk p hp)
  gens := S.gens
  os := S.os
theorem St.del {s s' : Shared} (S : St c f m H s) {x : Str} {u : Option Value} (hfn : f.fn = true)
    (g : Heap.SameBut f.env.locals s.heap s'.heap) (hn : ∀ mv, s.heap.Ns f.env.locals mv → s'.heap.Ns f.env.locals (fun y => if y = x then u else mv y)) (hg : s'.gens = s.gens) (ho : s'.os = s.os) : St c f (m.del x) H s' ∧ Tk s.heap s'.heap := by
  refine e1a2 (S.loc) fun mv n k => ?_
  refine e3a4 (id n) fun oL es ep hL hLd hLk hLm => ?_
  have n' := hn mv n
  refine e3a3 (id n') fun oL' es' ep' hL' hLd' _ => ?_
  have ext := g.extBut
  have t : Tk s.heap s'.heap := fun b o vs n e cl dt => by
    by_cases q : b = f.env.locals
    · rw [q, hL] at e; cases e; rw [hLd] at dt; cases dt
    · exact ⟨o, ext b o q e, cl, dt⟩
  have neL : ∀ b, H b ≠ none → b ≠ f.env.locals := fun b e q => e (q ▸ S.trL)
  refine ⟨⟨fun b z e => ?_, fun b o e => ?_, S.bE, S.hb, fun b o e q => ?_, S.dom, S.up, ⟨_, n', fun y d' e => ?_⟩, S.newL, S.trL, fun y b e => ?_, S.apart, ?_, S.fh, S.big, fun p hp => ?_, hg.trans S.gens, ho.trans S.os⟩, t⟩
  · exact (S.rep b z e).keep t fun o => ext b o (neL b (by rw [e]; exact fun z => nomatch z))
  · refine ext b o (fun q => ?_) (S.base b o e)
    have h1 := S.bE b o e
    rw [q, S.newL hfn] at h1; cases h1
  · have nb : b ≠ f.env.locals := fun z => by rw [z, S.newL hfn] at e; cases e
    exact ⟨fun n => ext b o nb ((S.off b o e q).1 n), fun n => let ⟨sl, z⟩ := (S.off b o e q).2 n; ⟨sl, ext _ _ nb z⟩⟩
  · by_cases q : y = x
    · rw [Loc.del, if_pos q] at e; cases e
    · rw [Loc.del, if_neg q] at e
      rcases k y d' e with ⟨e1, v', p, r⟩ | ⟨e1, a, v', p, r, u'⟩
      · exact .inl ⟨e1, v', by show (if y = x then u else mv y) = _; rw [if_neg q]; exact p, r.tk t⟩
      · refine e1a2 r fun o z1 z2 => ?_; clear r
        exact .inr ⟨e1, a, v', p, ⟨o, ext a o (S.cel y a p).2.1 z1, z2⟩, u'.tk t⟩
  · refine e0a4 (S.cel y b e) fun p q r rq104 => ?_; refine e2a2 rq104 fun ov o z zz => ?_; clear rq104
    exact ⟨p, q, r, ov, o, ext b o q z, zz⟩
  · refine funFrames_keep S.ff fun b hb o e hd' => ?_
    by_cases q : b = f.env.locals
    · subst q; exact ⟨oL', hL', fun vs z => by rw [hLd'] at z; cases z⟩
    · exact ⟨o, ext b o q e, hd'⟩
  · obtain ⟨k1, vs, k2⟩ := S.kp p hp
    exact ⟨ext p.1 p.2 (fun q => by rw [q, hL] at k1; cases k1; rw [hLd] at k2; cases k2) k1, vs, k2⟩
structure Hd (c : Cx) (f : Fx) (e : Addr) (C : Value) (hs : List ExceptHandler) (m : Loc) (H : AH) (Q : Ko) : Prop where
  mk ::
  run : ∀ s, St c f m H s → FlyT f e C .none s.heap → wpAny c.M f.A (handleBy (.ref e) f.env hs) (ExOk c f Q) (ExTh c f Q) s
theorem Ex1_try {body : List Stmt} {h₀ : ExceptHandler} {hs : List ExceptHandler} {p : Pos} {Q : Ko} (O : FrOk f) (hb : Ex c f body m H (fun o m' H' => match o with | .exc C => ∀ e, Hd c f e C (h₀ :: hs) m' H' Q | o => Q o m' H')) : Ex1 c f (.Try body (h₀ :: hs) [] [] p) m H Q := .mk fun s S => by
  refine wpAny_Try_except (wpAny_mono (hb s S) (fun fl s₁ z => ?_) fun x s₁ z => ?_)
  · refine e3a3 z fun o m' H' fi S' q => ?_; clear z
    cases fl with
    | next => cases fi; exact wpAny_execs_nil ⟨_, m', H', rfl, S', q⟩
    | ret v => refine e1a2 fi fun d rq105 i => ?_; clear fi; obtain rfl := rq105; exact ⟨_, m', H', ⟨d, rfl, i⟩, S', q⟩
    | _ => cases fi; exact ⟨_, m', H', rfl, S', q⟩
  · refine e4a4 z fun C m' H' e rq106 S' F q => ?_; clear z; obtain rfl := rq106
    exact note_ok O S' F fun s₂ S₂ F₂ => flight_ok (fr := none) S₂ F₂ fun s₃ S₃ F₃ => (q e).run s₃ S₃ F₃
abbrev Fx.marked (f : Fx) (e : Addr) : Fx := { f with A := f.A.mark (some (.ref e)) }
theorem St.marked {s : Shared} (S : St c f m H s) (e : Addr) : St c (f.marked e) m H s := S.around fun p hp => .inl hp
theorem St.unmarked {s : Shared} {e : Addr} (S : St c (f.marked e) m H s) : St c f m H s := St.back_around S fun p hp => hp
end
end Mine
set_option maxRecDepth 100000
set_option linter.unusedVariables false
namespace Mine
open PySem PyProof.Rows PySem.Builtin PySem.W PySem.Calls
theorem looks_ty {M : Model} {h : Heap} {e : Addr} {oe : Obj} (g : h.get? e = some oe) : Looks M h (typeOf (.ref e)) oe.cls := (Looks.ld g).andThen .now
def Mt (K : Frag) (C : Value) (d : V) (b : Bool) : Prop := ∀ (M : Model) (h : Heap) (e : Addr) (oe : Obj) (v : Value), K.In h → h.get? e = some oe → oe.cls = C → Is h d v → Looks M h (excMatches (.ref e) v) b
theorem Mt_one {K : Frag} {C cv : Value} {b : Bool} (hx : exmOne K C cv = some b) : Mt K C (.raw cv) b := fun M h e oe v X g hc i => by
  obtain rfl := is_raw i
  exact exm_one X (hc ▸ looks_ty g) hx
theorem Mt_miss5 {K : Frag} {C c1 c2 c3 c4 c5 : Value} (x1 : exmOne K C c1 = some false) (x2 : exmOne K C c2 = some false) (x3 : exmOne K C c3 = some false) (x4 : exmOne K C c4 = some false) (x5 : exmOne K C c5 = some false) : Mt K C (.tup [.raw c1, .raw c2, .raw c3, .raw c4, .raw c5]) false := fun M h e oe v X g hc i => by
  simp only [Is, IsAll] at i
  refine e2a3 i fun tp vs rq107 rq108 rq109 => ?_; clear i; obtain rfl := rq107; obtain ⟨o, n, gt, ct, dt⟩ := rq108; refine e2a3 rq109 fun _ _ rq110 rq111 rq112 => ?_; clear rq109; obtain rfl := rq110; obtain rfl := rq111; refine e2a3 rq112 fun _ _ rq113 rq114 rq115 => ?_; clear rq112; obtain rfl := rq113; obtain rfl := rq114; refine e2a3 rq115 fun _ _ rq116 rq117 rq118 => ?_; clear rq115; obtain rfl := rq116; obtain rfl := rq117; refine e2a3 rq118 fun _ _ rq119 rq120 rq121 => ?_; clear rq118; obtain rfl := rq119; obtain rfl := rq120; refine e2a3 rq121 fun _ _ rq122 rq123 rq124 => ?_; clear rq121; obtain rfl := rq122; obtain rfl := rq123; obtain rfl := rq124
  intro A Q E s k₀ q
  obtain ⟨hh, g', d, tk, os⟩ := s
  have k : ∀ b o, h.get? b = some o → hh.get? b = some o := k₀
  have LT0 : Looks M h (isInstance (.ref tp) (.type "tuple")) true := ((Looks.ld gt).andThen .now).andThen (by rw [ct]; exact Looks.of_pure isSubtype_tuple_tuple)
  have LT : Looks M h (typeOf (.ref e)) C := hc ▸ looks_ty g
  obtain ⟨e1, S1⟩ := exm_cls (M := M) X x1
  obtain ⟨e2, S2⟩ := exm_cls (M := M) X x2
  obtain ⟨e3, S3⟩ := exm_cls (M := M) X x3
  obtain ⟨e4, S4⟩ := exm_cls (M := M) X x4
  obtain ⟨e5, S5⟩ := exm_cls (M := M) X x5
  have e1 := e1.keeps k; have S1 := S1.keeps k
  have e2 := e2.keeps k; have S2 := S2.keeps k
  have e3 := e3.keeps k; have S3 := S3.keeps k
  have e4 := e4.keeps k; have S4 := S4.keeps k
  have e5 := e5.keeps k; have S5 := S5.keeps k
  have LT := LT.keeps k
  have LT0 := LT0.keeps k
  have hp' := k _ _ gt
  unfold excMatches
  refine wpAny_bind (LT0.at ?_)
  dsimp only
  rw [if_pos rfl]
  first
    | refine wpAny_bind (wpAny_seqItems hp' dt ?_)
    | refine wpAny_bind (wpAny_bind (wpAny_seqItems hp' dt (wpAny_pure ?_)))
  dsimp only [Option.getD_some, Option.getD]
  (repeat (first | simp only [List.forIn_cons, List.forIn_nil, Bool.not_true, Bool.false_eq_true, if_false, if_true] | lk)); exact q
section
variable {c : Cx} {f : Fx} {m : Loc} {H : AH}
abbrev fk (f : Fx) (e : Addr) (kp : List (Addr × Obj)) : Fx := { f with A := f.A.mark (some (.ref e)), keep := kp }
theorem clause_test {K : Frag} (KX : K.In c.base) {e : Addr} {C : Value} {t : Expr} {pos : Pos} {d : V} {b : Bool} {R : Result → Shared → Prop} (ht : ∀ kp, Pe c (fk f e kp) t m H d) (hm : Mt K C d b) {s : Shared} (S : St c f m H s) (F : FlyT f e C .none s.heap)
    (k : ∀ s', St c f m H s' → FlyT f e C .none s'.heap → R (.ok (if b then .brk else .next)) s') : codeAny c.M (f.A.mark (some (.ref e))) (.handlers (.ref e) [.ExceptHandler (some t) none [] pos] f.env) R s := by
  obtain ⟨⟨n1, n2⟩, oe, vs, T, oT, ts, a1, a2, a3, a4, a5, a6, a7, a8, a9, a10⟩ := F
  have S' : St c (fk f e ((e, oe) :: (T, oT) :: f.keep)) m H s := S.around fun p hp => by
    rcases List.mem_cons.mp hp with rfl | hp
    · exact .inr ⟨a1, vs, a3⟩
    rcases List.mem_cons.mp hp with rfl | hp
    · exact .inr ⟨a8, ts, a9⟩
    · exact .inl hp
  refine codeAny_handlers_test (wpAny_mono (ht _ s S') (fun v s₁ z => ?_) fun _ _ ⟨_, _, _, _, _, _, z⟩ => z.elim)
  obtain ⟨t₁, d', H', i, S₁, rfl, rfl⟩ := z
  have ge := (S₁.kp (e, oe) (.head _)).1
  have gT := (S₁.kp (T, oT) (.tail _ (.head _))).1
  refine hm c.M s₁.heap e oe v (fun a o q => S₁.base _ _ (KX a o q)) ge a2 i _ _ _ _ (fun b o e => e) ?_
  exact k s₁ (St.back_around S₁ fun p hp => .tail _ (.tail _ hp)) ⟨⟨n1, n2⟩, oe, vs, T, oT, ts, ge, a2, a3, a4, a5, a6, a7, gT, a9, a10⟩
theorem Hd_miss {K : Frag} (KX : K.In c.base) {e : Addr} {C : Value} {t : Expr} {name : Option Str} {body : List Stmt} {pos : Pos} {rest : List ExceptHandler} {d : V} {Q : Ko} (ht : ∀ kp, Pe c (fk f e kp) t m H d) (hm : Mt K C d false) (k : Hd c f e C rest m H Q) : Hd c f e C (.ExceptHandler (some t) name body pos :: rest) m H Q := .mk fun s S F => by
  refine wpAny_handleBy_cons (clause_test KX ht hm S F fun s' S' F' => ?_) (by intro q; cases q)
  exact k.run s' S' F'
theorem Hd_hit {K : Frag} (KX : K.In c.base) {e : Addr} {C : Value} {t : Expr} {b₀ : Stmt} {suite : List Stmt} {pos : Pos} {rest : List ExceptHandler} {d : V} {Q : Ko} (ht : ∀ kp, Pe c (fk f e kp) t m H d) (hm : Mt K C d true) (k : Ex c (f.marked e) (b₀ :: suite) m H (fun o m' H' => (∀ C, o ≠ .exc C) ∧ Q o m' H')) : Hd c f e C (.ExceptHandler (some t) none (b₀ :: suite) pos :: rest) m H Q := .mk fun s S F => by
  refine wpAny_handleBy_cons (clause_test KX ht hm S F fun s' S' F' => ?_) (by intro q; cases q)
  refine codeAny_handlers_suite (flight_ok (f := f.marked e) (fr := none) (St.marked S' e) F' fun s₂ S₂ F₂ => wpAny_mono (k.run s₂ S₂) (fun fl s₃ z => ?_) fun x s₃ z => ?_)
  · refine e3a4 z fun o m' H' fi S₃ _ q => ?_; clear z
    exact ⟨o, m', H', fi, S₃.unmarked, q⟩
  · refine e4a5 z fun C' _ _ _ _ _ _ n _ => ?_; clear z
    exact (n C' rfl).elim
theorem Hd_hit_as {K : Frag} (KX : K.In c.base) {e : Addr} {C : Value} {t : Expr} {n : Str} {b₀ : Stmt} {suite : List Stmt} {pos : Pos} {rest : List ExceptHandler} {d : V} {Q : Ko} (ht : ∀ kp, Pe c (fk f e kp) t m H d) (hm : Mt K C d true)
    (k : ∀ oe, oe.cls = C → Ex c (fk f e ((e, oe) :: f.keep)) (b₀ :: suite) (m.set n (.ref e)) H (fun o m' H' => (∀ C, o ≠ .exc C) ∧ Q o (m'.del n) H')) (hx : f.env.kindOf n = some .local := by rfl) (hfn : f.fn = true := by rfl) (hk : f.env.scope.kind = .function := by rfl) : Hd c f e C (.ExceptHandler (some t) (some n) (b₀ :: suite) pos :: rest) m H Q := .mk fun s S F => by
  refine wpAny_handleBy_cons (clause_test KX ht hm S F fun s' S' F' => ?_) (by intro q; cases q)
  refine codeAny_handlers_suite_as (flight_ok (f := f.marked e) (fr := none) (St.marked S' e) F' fun s₂ S₂ F₂ => ?_)
  obtain ⟨⟨n1, n2⟩, oe, vs, T, oT, ts, a1, a2, a3, a4, a5, a6, a7, a8, a9, a10⟩ := F₂
  have S₂' : St c (fk f e ((e, oe) :: f.keep)) m H s₂ := S₂.unmarked.around fun p hp => by
    rcases List.mem_cons.mp hp with rfl | hp
    · exact .inr ⟨a1, vs, a3⟩
    · exact .inl hp
  refine store_ok S₂' (d := .ref e) (v := .ref e) mk_raw (.inl hx) hfn hk fun s₃ S₃ _ _ => ?_
  refine wpAny_mono ((k oe a2).run s₃ S₃) (fun fl s₄ z => ?_) fun x s₄ z => ?_
  · refine e3a4 z fun o m' H' fi S₄ _ q => ?_; clear z
    have S₅ : St c f m' H' s₄ := St.back_around S₄ fun p hp => .tail _ hp
    show wpAny c.M f.A (do bindName f.env n .none; unbindBehindTheSuite f.env n pos) _ _ s₄
    refine wpAny_bind (wpAny_bindName (store_ok S₅ (d := .none) (v := .none) mk_raw (.inl hx) hfn hk fun s₅ S₆ t₆ _ => ?_))
    refine e1a2 (id S₆.loc) fun mv nn kk => ?_
    rcases kk n .none (by rw [Loc.set, if_pos rfl]) with ⟨_, v, hv, _⟩ | ⟨e1, _⟩
    · refine wpAny_onRaise (wpAny_unbindName_local (m := mv) hx nn hv (by rw [hk]; rfl) fun h' u hn sb => ?_)
      have := S₆.del (s' := { s₅ with heap := h' }) (x := n) (u := u) hfn sb (fun mv' nn' => by
        have e : mv = mv' := by
          refine e3a4 nn fun o1 es1 ep1 g1 d1 _ e1 => ?_; clear nn
          refine e3a4 nn' fun o2 es2 ep2 g2 d2 _ e2 => ?_; clear nn'
          rw [g1] at g2; cases g2; rw [d1] at d2; cases d2
          funext y; rw [← e1 y, ← e2 y]
        rw [← e]; exact hn) rfl rfl
      have em : (m'.set n .none).del n = m'.del n := funext fun y => by unfold Loc.del Loc.set; split <;> rfl
      rw [em] at this
      refine ⟨o, m'.del n, H', ?_, this.1, q⟩
      cases fl with
      | ret v => refine e1a2 fi fun d e i => ?_; clear fi; exact ⟨d, e, i.tk (t₆.trans this.2)⟩
      | _ => exact fi
    · rcases e1 with e1 | e1 <;> (rw [hx] at e1; cases e1)
  · refine e4a5 z fun C' _ _ _ _ _ _ n _ => ?_; clear z
    exact (n C' rfl).elim
theorem I_kept {K : Frag} (KX : K.In c.base) {e : Addr} {oe : Obj} {cv : Value} (hk : (e, oe) ∈ f.keep) (q : (oe.cls == cv) = false) (hx : kitCls K oe.cls cv = some true) : BN c f H (fun vs => call (.builtin "isinstance") vs) [.ref e, .raw cv] (.bool true) := .mk fun m s vs S ia => by
  simp only [IsAll] at ia; refine e2a3 ia fun v r rq125 i rq126 => ?_; clear ia; obtain rfl := rq125; refine e2a3 rq126 fun v' r' rq127 i' rq128 => ?_; clear rq126; obtain rfl := rq127; obtain rfl := rq128
  obtain rfl := is_raw i; obtain rfl := is_raw i'
  have g := (S.kp _ hk).1
  have X : K.In s.heap := fun a o q => S.base _ _ (KX a o q)
  refine call_isinstance (S := fun _ R s' => s' = s ∧ R (.ok (.ret (.bool true))) s) (fun prog w A R s' hs => isinstance_outer ?_ (fun z => nomatch z)) ⟨rfl, Grow.refl _, rfl, rfl, mk_raw⟩
  obtain ⟨rfl, hq⟩ := hs
  obtain ⟨h0, g0, d, tt, os⟩ := s'
  have LT : Looks (model prog w) h0 (typeOf (.ref e)) oe.cls := looks_ty g
  unfold Builtin.«isinstance.nested»
  refine wpAny_bind (LT.at ?_)
  rw [if_neg (by rw [q]; decide)]
  refine e0a3 (kit_cls (M := model prog w) X hx) fun hty his hsub => ?_
  have LI : Looks (model prog w) h0 (isInstance (.ref e) v') true := LT.andThen hsub
  refine wpAny_bind (hty.at ?_)
  rw [if_pos (by decide)]
  k_delta "plainIsInstance"
  refine wpAny_bind (wpAny_bind (his.at ?_))
  simp only [Bool.not_true, Bool.false_eq_true, if_false]
  refine wpAny_bind (LI.at ?_)
  first
    | exact wpAny_pure (wpAny_pure hq)
    | (simp only [if_true]; first | exact wpAny_pure (wpAny_pure hq) | exact wpAny_pure hq | exact wpAny_bind (wpAny_pure (wpAny_pure hq)))
end
end Mine
set_option maxRecDepth 100000
set_option linter.unusedVariables false
namespace Mine
open PySem PyProof.Rows PySem.Builtin PySem.W PySem.Calls
section
variable {c : Cx} {f : Fx} {m : Loc} {H : AH}
theorem Ex_try {body rest : List Stmt} {h₀ : ExceptHandler} {hs : List ExceptHandler} {p : Pos} {Q : Ko} (O : FrOk f) (hb : Ex c f body m H (fun o m' H' => match o with | .exc C => ∀ e, Hd c f e C (h₀ :: hs) m' H' (Then c f rest Q) | o => Then c f rest Q o m' H')) : Ex c f (.Try body (h₀ :: hs) [] [] p :: rest) m H Q :=
  Ex_seq (Ex1_try O hb)
end
end Mine
set_option maxRecDepth 100000
set_option linter.unusedVariables false
namespace Mine
open PySem
def cp : List Int → List Int → Nat
  | x :: xs, y :: ys => if x = y then cp xs ys + 1 else 0
  | _, _ => 0
structure Paths (kvs : List (Int × V)) (pt : Int → List Int) : Prop where
  root : ∀ v, dget kvs v = some .none → pt v = [v]
  step : ∀ v b, dget kvs v = some (.int b) → pt v = pt b ++ [v]
  key : ∀ v d, dget kvs v = some d → d = .none ∨ ∃ b d', d = .int b ∧ dget kvs b = some d'
  len : ∀ v d, dget kvs v = some d → (pt v).length ≤ 41
def ds (pt : Int → List Int) (u v : Int) : Nat := (pt u).length + (pt v).length - 2 * cp (pt u) (pt v)
section
variable {kvs : List (Int × V)} {pt : Int → List Int}
def Key (kvs : List (Int × V)) (v : Int) : Prop := ∃ d, dget kvs v = some d
def Same (pt : Int → List Int) (u v : Int) : Prop := 1 ≤ cp (pt u) (pt v)
def Nb (kvs : List (Int × V)) (v w : Int) : Prop := dget kvs v = some (.int w) ∨ dget kvs w = some (.int v)
end
end Mine
set_option maxRecDepth 100000
set_option linter.unusedVariables false
namespace Mine
open PySem PyProof.Rows PySem.Builtin PySem.W PySem.Calls
section
variable {prog : Program} {w : World} {A : Around} {E : Value → Shared → Prop} {s : Shared} {T : String} {r d : Addr} {n : Nat} {P : Nat → Value → Prop} {OK : Heap → Prop}
theorem collect_src {Q : List Value → Shared → Prop} (K : KdlSrc prog w T r d n P OK) (hh : A.handled = none) (hok : OK s.heap) (hn : n ≤ sizeLine) (h : ∀ h' tk acc, Grow s.heap h' → ItemsOf P acc n → Q acc.toList { s with heap := h', toks := tk }) :
    wpAny (model prog w) A (collect (.ref r)) Q E s := by
  unfold collect
  refine wpAny_bind (wpAny_runValue (codeAny_builtin entry_proto_collect' ?_))
  show wpAny _ _ (do again (.builtin "list.__iadd__" ⟨[← newList [], .ref r], []⟩)) _ _ s
  refine wpAny_bind (wpAny_newList (wpAny_pure ⟨Code.quiet_builtin _ (by decide +kernel), codeAny_builtin entry_list_iadd' ?_⟩))
  obtain ⟨hr, hd⟩ := K.there _ hok
  have gp : Grow s.heap (s.heap.push { cls := .type "list", data := .seq #[] }) := Grow.push _ _
  have eA : A.under (Code.builtin "list.__iadd__" { pos := [Value.ref s.heap.objs.size, Value.ref r] }) = A.in1 := by first | rfl | kernel_rfl
  rw [eA]
  refine kdl_extend (R := fun r s' => match r with
    | .ok (.ret v) => wpAny (model prog w) A (match v with
      | .ref a => do
        let o ← load a
        match o.data with
        | .seq xs _ => pure xs.toList
        | _ => unsupported "internal:collect"
      | _ => unsupported "internal:collect") Q E s'
    | .ok _ => False
    | .error e => E e s') (A := A) (s := { s with heap := s.heap.push { cls := .type "list", data := .seq #[] } }) K hh (K.keep _ _ hok fun b _ o e => gp b o e) s.heap.objs.size (Nat.ne_of_gt hr) (Nat.ne_of_gt hd) (.ref s.heap.objs.size) 0 (Heap.get?_push_size _ rfl) (fun h' tk acc c' hk hS hi => ?_) hn
  show wpAny (model prog w) A (do
      let o ← load s.heap.objs.size
      match o.data with
      | .seq xs _ => pure xs.toList
      | _ => unsupported "internal:collect") Q E { s with heap := h', toks := tk }
  refine wpAny_bind (wpAny_load hS ?_)
  exact wpAny_pure (h h' tk acc (fun b o e => hk b o (fun z => by rw [z, size_none] at e; cases e) (gp b o e)) hi)
theorem sorted_src {ns : List Int} {Q : Value → Shared → Prop} (K : KdlSrc prog w T r d n P OK) (hh : A.handled = none) (hok : OK s.heap) (hI : ∀ acc : Array Value, ItemsOf P acc n → IntsAre acc.toList ns) (h64 : n < 64)
    (h : ∀ h' tk a o (out : List Value) (ns' : List Int), Grow s.heap h' → s.heap.get? a = none → (∀ b o, s.heap.get? b = some o → b < a) → h'.get? a = some o → PlainL h' a out.toArray → IntsAre out ns' → ns'.Perm ns → ns'.Pairwise (· ≤ ·) → Q (.ref a) { s with heap := h', toks := tk }) :
    wpAny (model prog w) A (call (.builtin "sorted") [.ref r]) Q E s := by
  refine Calls.call_function_entry kind_sorted plain_sorted entry_sorted (args_sorted1 _) ?_
  unfold Builtin.«sorted»
  refine wpAny_bind (m := checkCount "sorted" 1 1 _) (wpAny_pure ?_)
  refine wpAny_bind (collect_src K hh hok (Nat.le_trans (Nat.le_of_lt h64) (by decide)) fun h₁ tk acc g₁ hi => ?_)
  have hl : acc.toList.length = n := by simpa using hi.1
  refine wpAny_bind (wpAny_newList ?_ (hsz := by rw [hl]; exact Nat.le_trans (Nat.le_of_lt h64) (by decide)))
  have hoL : (h₁.push (seqObj "list" acc.toList.toArray 0)).get? h₁.objs.size = some (seqObj "list" acc.toList.toArray 0) := Heap.get?_push_size _ rfl
  refine wpAny_bind (wpAny_holding (wpAny_call_entry slot_list_sort ⟨_, hoL, rfl⟩ entry_list_sort (list_sort_tree hoL (hI acc hi) (by exact om43 h64 hl) fun out ns' a1 a2 a3 => ⟨_, rfl, ?_⟩) (args_list_sort _)))
  obtain ⟨e, he⟩ := sortedHeap_at (out := out) hoL
  have hnone : s.heap.get? h₁.objs.size = none := by
    cases q : s.heap.get? h₁.objs.size with
    | none => rfl
    | some o => exact absurd (Heap.lt_size (g₁ _ _ q)) (Nat.lt_irrefl _)
  refine wpAny_pure ⟨_, rfl, h _ _ h₁.objs.size _ out.toList ns' (fun b o eb => ?_) hnone (fun b o eb => Heap.lt_size (g₁ _ _ eb)) he ⟨_, e, he, rfl, rfl, by simp⟩ a1 a2 a3⟩
  have hb := g₁ b o eb
  have hlt := Heap.lt_size hb
  rw [sortedHeap_old (Nat.ne_of_lt hlt) (by rw [Heap.size_push]; exact Nat.lt_succ_of_lt hlt)]
  exact Heap.get?_push_of_some _ hb
end
end Mine
set_option maxRecDepth 100000
set_option linter.unusedVariables false
namespace Mine
open PySem PyProof.Rows PySem.Builtin PySem.W PySem.Calls
theorem ints_of_isAll {h : Heap} : ∀ {l : List Int} {vs : List Value}, IsAll h (l.map V.int) vs → IntsAre vs l
  | [], vs, i => by simp only [List.map_nil, IsAll] at i; subst i; exact .nil
  | a :: l, vs, i => by
    simp only [List.map_cons, IsAll] at i
    refine e2a3 i fun v r rq129 j k => ?_; clear i; obtain rfl := rq129
    obtain ⟨t, rfl⟩ := is_int j
    exact .cons _ _ (ints_of_isAll k)
theorem isAll_of_ints {h : Heap} : ∀ {l : List Int} {vs : List Value}, IntsAre vs l → IsAll h (l.map V.int) vs
  | _, _, .nil => isAll_nil _
  | _, _, .cons _ _ k => isAll_cons mk_int (isAll_of_ints k)
section
variable {c : Cx} {f : Fx} {m : Loc} {H : AH} {X : Value → AH → Prop} {Q : V → AH → Prop}
theorem base_big {s : Shared} (K : CxOk c) (S : St c f m H s) {a : Addr} (h : ∀ b o, s.heap.get? b = some o → b < a) : cStatics < a := by
  refine e1a2 (K.lim) fun mc rq130 _ => ?_; obtain ⟨o, _, _, g, _⟩ := rq130
  exact h _ _ (S.base _ _ g)
theorem O_sorted {a : Addr} {kvs : List (Int × V)} (K : CxOk c) (hh : f.A.handled = none) (h : DictIs H a kvs) (h64 : kvs.length < 64) (q : ∀ b o (srt : List Int), H b = none → srt.Perm (kvs.map (·.1)) → srt.Pairwise (· ≤ ·) → Q (.ref b) (H.set b ⟨o, .list (srt.map V.int)⟩)) : OpN c f (fun vs => call (.builtin "sorted") vs) [.ref a] m H Q X := .mk fun s vs S ia => by
  simp only [IsAll] at ia; refine e2a3 ia fun v r rq131 i rq132 => ?_; clear ia; obtain rfl := rq131; obtain rfl := rq132
  obtain rfl := is_raw i
  have ns : (a == sysModules) = false := let ⟨o, e⟩ := h; notSys S e
  obtain ⟨o, eo⟩ := h
  refine e3a8 (S.rep.dict eo) fun kv es ep g c1 c2 c3 c4 c5 p ia => ?_
  have hm : s.heap.DictAt (intKind c.prog c.w) a kv ep := ⟨o, es, g, c1, c2, c3, c4, c5⟩
  have el : kv.length = kvs.length := by have := congrArg List.length p; simpa using this
  refine sorted_src (ns := kvs.map (·.1)) (kdl_dict (knd := intKind c.prog c.w) (kvs := kv) (ep := ep) ns) hh hm (fun acc hi => ?_) (by exact om43 h64 el) fun h' tk b ob out srt gr hn hb gb pl hI hp hs => ?_
  · rw [← p]
    have key : ∀ (l : List Value) (ks : List Int), l.length = ks.length → (∀ (j : Nat) v, l[j]? = some v → ∃ k, ks[j]? = some k ∧ ∃ t, v = Value.int k t) → IntsAre l ks := by
      intro l
      induction l with
      | nil => intro ks hl _; cases ks with
        | nil => exact .nil
        | cons _ _ => simp at hl
      | cons v l ih => intro ks hl hk; cases ks with
        | nil => simp at hl
        | cons k ks =>
          refine e1a2 (hk 0 v rfl) fun k' e' rq133 => ?_; obtain ⟨t, rfl⟩ := rq133
          simp at e'; subst e'
          exact .cons _ _ (ih ks (by simpa using hl) fun j v hj => by simpa using hk (j + 1) v (by simpa using hj))
    refine key _ _ (by simp [hi.1]) fun j v hj => ?_
    refine e2a2 (hi.2 j v (by simpa using hj)) fun k x e1 e3 => ?_
    refine ⟨k, by rw [List.getElem?_map, e1]; rfl, ?_⟩
    cases v with
    | int k' t => simp [intKind, Value.isInt] at e3; exact ⟨t, by rw [e3]⟩
    | _ => simp [intKind, Value.isInt] at e3
  · have hHb : H b = none := by
      cases e : H b with
      | none => rfl
      | some x => refine e1a2 ((S.rep _ _ e).obj) fun o' e' _ => ?_; rw [hn] at e'; cases e'
    exact ⟨gr.tk, .ref b, _, mk_raw, S.alloc (s' := { s with heap := h', toks := tk }) (x := ⟨ob, .list (srt.map V.int)⟩) gr rfl rfl hn (base_big K S hb) ⟨gb, out, pl, isAll_of_ints hI⟩, q _ _ _ hHb hp hs⟩
theorem getD_of {l : List Int} {i : Nat} (h : i < l.length) : l.getD i 0 ∈ l := by rw [List.getD_eq_getElem?_getD, List.getElem?_eq_getElem h]; exact List.getElem_mem h
theorem M_maxL {a : Addr} {l : List Int} {M : Int} (hh : f.A.handled = none) (h : ListAt H a (l.map V.int)) (h1 : M ∈ l) (h2 : ∀ x ∈ l, x ≤ M) : BN c f H (fun vs => call (.builtin "max") vs) [.ref a] (.int M) := .mk fun m s vs S ia => by
  simp only [IsAll] at ia; refine e2a3 ia fun v r rq134 i rq135 => ?_; clear ia; obtain rfl := rq134; obtain rfl := rq135
  obtain rfl := is_raw i
  refine e1a2 (S.rep.plain h) fun us rq136 ja => ?_; obtain ⟨o, n, g, cl, dn, dt⟩ := rq136
  have hi := ints_of_isAll ja
  obtain ⟨xs, e⟩ := hi.allInts.items
  have hns : l = xs.toList.map (·.1) := by rw [← hi.numsOf, ← nums_intItems, ← e]
  have hl : s.heap.IsList a (intItems xs) := e ▸ ⟨o, g, cl, n, dt⟩
  have hsz : 0 < xs.size := by
    have : 0 < l.length := List.length_pos_iff.mpr (fun z => by rw [z] at h1; cases h1)
    rw [hns, List.length_map, Array.length_toList] at this; exact this
  refine max_intList hh hl hsz fun v h' tk hv hk => ?_
  obtain ⟨t, rfl⟩ := intItems_at hv
  obtain ⟨q1, q2⟩ := argBest_gt (numAt xs) (xs.size - 1)
  have hb : numAt xs (argBest (fun i j => decide (numAt xs i > numAt xs j)) (xs.size - 1)) = M := by
    apply Int.le_antisymm
    · apply h2
      rw [hns, numAt_eq]; exact getD_of (by rw [List.length_map, Array.length_toList]; exact om44 hsz q1)
    · rw [hns] at h1
      obtain ⟨j, hj, e1⟩ := List.getElem_of_mem h1
      have hj' : j < xs.size := by simpa using hj
      have := q2 j (by exact om45 hj')
      rw [numAt_eq, List.getD_eq_getElem?_getD, List.getElem?_eq_getElem hj] at this
      simp only [Option.getD_some] at this
      rw [e1] at this; exact this
  rw [hb]
  exact ⟨hk, rfl, rfl, mk_int⟩
theorem CompOk_filter {scope : Scope} {cl : List (Str × Addr)} {x : Str} {elt t : Expr} {ds : List V} {tr : List Addr} {H₁ : AH} (g : Nat → V) (P : Nat → Bool) (hsz : ds.length ≤ sizeLine)
    (ht : ∀ (i : Nat) d C hE, ds[i]? = some d → Tp c (compF f scope cl C hE H₁) t (compM m cl x d) H₁ (P i = true))
    (he : ∀ (i : Nat) d C hE, ds[i]? = some d → P i = true → Pe c (compF f scope cl C hE H₁) elt (compM m cl x d) H₁ (g i))
    (fin : ∀ a o, H₁ a = none → Q (.ref a) (H₁.set a ⟨o, .list (((List.range ds.length).filter P).map g)⟩)) :
    CompOk c f m scope cl x elt [t] Q ds tr H₁ := by
  refine ⟨hsz, fun i acc H' => H' = H₁ ∧ acc = ((List.range i).filter P).map g, ⟨rfl, by simp⟩, ?_, ?_⟩
  · rintro i d acc H' C hE hd ⟨rfl, rfl⟩ htr
    refine Ts.mono (ht i d C hE hd) (fun b H'' ⟨e, q⟩ => ?_) fun _ _ z => z
    subst e
    refine ⟨fun hb => (he i d C hE hd (q.mp hb)).ev ⟨⟨rfl, ?_⟩, htr⟩, fun hb => ⟨⟨rfl, ?_⟩, htr⟩⟩
    · rw [List.range_succ, List.filter_append, List.map_append]
      simp [q.mp hb]
    · have hp : P i = false := by
        cases hh : P i with
        | false => rfl
        | true => rw [q.mpr hh] at hb; cases hb
      rw [List.range_succ, List.filter_append, List.map_append]
      simp [hp]
  · rintro acc H' a o ⟨rfl, rfl⟩ _ ha
    exact fin a o ha
end
end Mine
set_option maxRecDepth 100000
set_option linter.unusedVariables false
namespace Mine
open PySem
theorem IsChain.uniq {kvs : List (Int × V)} {n : Int} {xs : List Int} (h : IsChain kvs n xs) : ∀ {ys}, IsChain kvs n ys → xs = ys := by
  induction h with
  | stop e => intro ys k; cases k with
    | stop _ => rfl
    | step e' _ => rw [e] at e'; cases e'
  | step e _ ih => intro ys k; cases k with
    | stop e' => rw [e] at e'; cases e'
    | step e' k' => rw [e] at e'; cases e'; rw [ih k']
theorem Wood.chain {kvs : List (Int × V)} {rk : Int → Nat} (W : Wood kvs rk) : ∀ (n : Nat) (v : Int) (d : V), rk v ≤ n → dget kvs v = some d → ∃ xs, IsChain kvs v xs ∧ xs.length ≤ rk v + 1 := by
  intro n
  induction n with
  | zero =>
    intro v d hr hd
    rcases W.down v d hd with rfl | ⟨b, d', rfl, hb, hlt⟩
    · exact ⟨[v], .stop hd, by simp⟩
    · exact (om46 hr hlt).elim
  | succ n ih =>
    intro v d hr hd
    rcases W.down v d hd with rfl | ⟨b, d', rfl, hb, hlt⟩
    · exact ⟨[v], .stop hd, by simp⟩
    · obtain ⟨xs, hx, hl⟩ := ih b d' (by exact om47 hr hlt) hb
      exact ⟨v :: xs, .step hd hx, by simp; exact om48 hlt hl⟩
end Mine
set_option maxRecDepth 100000
set_option linter.unusedVariables false
namespace Mine
open PySem
theorem dget_none {kvs : List (Int × V)} {k : Int} : dget kvs k = none ↔ k ∉ kvs.map (·.1) := by
  constructor
  · intro h hm
    obtain ⟨d, e⟩ := dget_key hm
    rw [h] at e; cases e
  · intro h
    cases q : dget kvs k with
    | none => rfl
    | some d => exact (h (List.mem_map.mpr ⟨_, dget_mem q, rfl⟩)).elim
theorem key_iff {kvs : List (Int × V)} {v : Int} : Key kvs v ↔ v ∈ kvs.map (·.1) :=
  ⟨fun ⟨d, h⟩ => List.mem_map.mpr ⟨_, dget_mem h, rfl⟩, fun h => dget_key h⟩
theorem dget_map {g : Int → V} {k : Int} : ∀ {ks : List Int}, k ∈ ks → dget (ks.map fun k => (k, g k)) k = some (g k)
  | x :: r, h => by
    by_cases e : x = k
    · subst e; simp [dget]
    · have := dget_map (g := g) (List.mem_of_ne_of_mem (fun z => e z.symm) h)
      simp only [dget, List.map_cons, List.find?, e, decide_false]
      exact this
theorem dget_snoc {kvs : List (Int × V)} {w : Int} {d : V} (h : w ∉ kvs.map (·.1)) (v : Int) : dget (kvs ++ [(w, d)]) v = if v = w then some d else dget kvs v := by
  unfold dget
  rw [List.find?_append]
  by_cases e : v = w
  · subst e
    rw [if_pos rfl]
    have : kvs.find? (fun kv => decide (kv.1 = v)) = none := by
      rw [List.find?_eq_none]
      intro x hx hq
      exact h (List.mem_map.mpr ⟨x, hx, by simpa using hq⟩)
    rw [this]; simp
  · rw [if_neg e]
    have : ([(w, d)] : List (Int × V)).find? (fun kv => decide (kv.1 = v)) = none := by simp; exact fun z => e z.symm
    rw [this, Option.or_none]
theorem nodup_le : ∀ {l l' : List Int}, l.Nodup → (∀ x ∈ l, x ∈ l') → l.length ≤ l'.length
  | [], _, _, _ => Nat.zero_le _
  | x :: r, l', nd, h => by
    rw [List.nodup_cons] at nd
    have hx := h x (.head _)
    have := nodup_le (l' := l'.erase x) nd.2 fun y hy => (List.mem_erase_of_ne (fun e : y = x => nd.1 (e ▸ hy))).mpr (h y (.tail _ hy))
    rw [List.length_erase_of_mem hx] at this
    have := List.length_pos_of_mem hx
    simp; exact om49 (by assumption) this
structure Near (H H' : AH) (an : Addr) (ks : List Int) (ad : Int → Addr) (L : Int → List Int) : Prop where
  ext : Ext H H'
  an0 : H an = none
  d : DictIs H' an (ks.map fun k => (k, V.ref (ad k)))
  l : ∀ k, k ∈ ks → ListAt H' (ad k) ((L k).map V.int)
  new : ∀ k, k ∈ ks → H (ad k) = none
  inj : ∀ k, k ∈ ks → ∀ k', k' ∈ ks → ad k = ad k' → k = k'
structure NearAt (H : AH) (kvs : List (Int × V)) (an : Addr) (ad : Int → Addr) (L : Int → List Int) : Prop where
  d : DictIs H an ((kvs.map (·.1)).map fun k => (k, V.ref (ad k)))
  l : ∀ v, Key kvs v → ListAt H (ad v) ((L v).map V.int)
  nb : ∀ v w, w ∈ L v ↔ Nb kvs v w
section
variable {kvs : List (Int × V)} {pt : Int → List Int} {u : Int}
structure FarTo (kvs : List (Int × V)) (pt : Int → List Int) (u : Int) (s : Nat) (far : List (Int × V)) : Prop where
  at_ : ∀ v d, dget far v = some d ↔ (Key kvs v ∧ Same pt u v ∧ ds pt u v ≤ s ∧ d = .int (ds pt u v))
  nd : (far.map (·.1)).Nodup
structure FarMid (kvs : List (Int × V)) (pt : Int → List Int) (u : Int) (s : Nat) (far : List (Int × V)) (beh : List Int) : Prop where
  at_ : ∀ v d, dget far v = some d ↔ (Key kvs v ∧ Same pt u v ∧ (ds pt u v ≤ s ∨ v ∈ beh) ∧ d = .int (ds pt u v))
  nd : (far.map (·.1)).Nodup
  next : ∀ v, v ∈ beh → Key kvs v ∧ Same pt u v ∧ ds pt u v = s + 1
  few : beh.length ≤ far.length
structure Far (kvs : List (Int × V)) (pt : Int → List Int) (u : Int) (far : List (Int × V)) : Prop where
  at_ : ∀ v d, dget far v = some d ↔ (Key kvs v ∧ Same pt u v ∧ d = .int (ds pt u v))
  nd : (far.map (·.1)).Nodup
theorem exists_max : ∀ (l : List Int), l ≠ [] → ∃ M, M ∈ l ∧ ∀ x ∈ l, x ≤ M
  | [x], _ => ⟨x, .head _, fun y hy => by rw [List.mem_singleton] at hy; exact om50 hy⟩
  | x :: y :: r, _ => by
    refine e1a2 (exists_max (y :: r) (by simp)) fun M h1 h2 => ?_
    by_cases h : x ≤ M
    · exact ⟨M, .tail _ h1, fun z hz => (List.mem_cons.mp hz).elim (fun e => e ▸ h) (h2 z)⟩
    · exact ⟨x, .head _, fun z hz => (List.mem_cons.mp hz).elim (fun e => by exact om50 e) (fun q => by have := h2 z q; exact om51 h this)⟩
end
end Mine
set_option maxRecDepth 100000
set_option linter.unusedVariables false
namespace Mine
open PySem PyProof.Rows PySem.Builtin PySem.W PySem.Calls
section
variable {c : Cx} {f : Fx} {m : Loc} {H : AH} {X : Value → AH → Prop} {Q : V → AH → Prop}
theorem Ev_F1e {x : Str} {p₁ p : Pos} {e : Expr} {fa : Addr} {o : Obj} {fd : FuncData} {k : Nat} (K : CxOk c) (g : GN c x (.ref fa)) (ho : c.base.get? fa = some o) (hfd : o.data = .func fd) (R : Room k f.A) (hf : f.A.frames = some f.frs) (h1 : Ev c f e m H (fun d H₁ => Fn c k (.ref fa) [d] H₁ Q X) X) (hg : f.env.globals = mainGlobals := by rfl) (hb : f.env.builtins = builtinsNs := by rfl)
    (hk : f.env.scope.kind = .function := by rfl) (hn : f.env.kindOf x = some .globalImplicit := by rfl) (hd : (x == ("__debug__" : Str)) = false := by decide) (he : starEach [e] f.env = (false, eval e f.env) :: starEach [] f.env := by rfl) : Ev c f (.Call (.Name x p₁) [e] [] p) m H Q X :=
  Ev_call ho hfd R hf ((Pe_glob K g hg hb hk hn hd).ev ⟨rfl, Evs_cons (Ev.mono h1 (fun _ _ z => Evs_nil z) fun _ _ z => z) he⟩) he
theorem Ev_F2e {x : Str} {p₁ p : Pos} {e e₂ : Expr} {fa : Addr} {o : Obj} {fd : FuncData} {k : Nat} (K : CxOk c) (g : GN c x (.ref fa)) (ho : c.base.get? fa = some o) (hfd : o.data = .func fd) (R : Room k f.A) (hf : f.A.frames = some f.frs) (h1 : Ev c f e m H (fun d H₁ => Ev c f e₂ m H₁ (fun d₂ H₂ => Fn c k (.ref fa) [d, d₂] H₂ Q X) X) X) (hg : f.env.globals = mainGlobals := by rfl) (hb : f.env.builtins = builtinsNs := by rfl)
    (hk : f.env.scope.kind = .function := by rfl) (hn : f.env.kindOf x = some .globalImplicit := by rfl) (hd : (x == ("__debug__" : Str)) = false := by decide) (he : starEach [e, e₂] f.env = (false, eval e f.env) :: starEach [e₂] f.env := by rfl) (he2 : starEach [e₂] f.env = (false, eval e₂ f.env) :: starEach [] f.env := by rfl) : Ev c f (.Call (.Name x p₁) [e, e₂] [] p) m H Q X :=
  Ev_call ho hfd R hf ((Pe_glob K g hg hb hk hn hd).ev ⟨rfl, Evs_cons (Ev.mono h1 (fun _ _ z => Evs_cons (Ev.mono z (fun _ _ z => Evs_nil z) fun _ _ z => z) he2) fun _ _ z => z) he⟩) he
theorem Ev_B1e {x : Str} {p₁ p : Pos} {e : Expr} {id : String} (K : CxOk c) (g : GN c x (.builtin id)) (h1 : Ev c f e m H (fun d H₁ => OpN c f (fun vs => call (.builtin id) vs) [d] m H₁ Q X) X) (hg : f.env.globals = mainGlobals := by rfl) (hb : f.env.builtins = builtinsNs := by rfl)
    (hk : f.env.scope.kind = .function := by rfl) (hn : f.env.kindOf x = some .globalImplicit := by rfl) (hd : (x == ("__debug__" : Str)) = false := by decide) (he : starEach [e] f.env = (false, eval e f.env) :: starEach [] f.env := by rfl) : Ev c f (.Call (.Name x p₁) [e] [] p) m H Q X :=
  Ev_callB ((Pe_glob K g hg hb hk hn hd).ev ⟨rfl, Evs_cons (Ev.mono h1 (fun _ _ z => Evs_nil z) fun _ _ z => z) he⟩) he rfl
end
end Mine
set_option maxRecDepth 100000
set_option linter.unusedVariables false
namespace Mine
open PySem PyProof.Rows PySem.Builtin PySem.W PySem.Calls
section
variable {c : Cx} {f : Fx} {m : Loc} {H : AH} {X : Value → AH → Prop} {Q : V → AH → Prop}
structure Plain (K : Frag) (C : Addr) : Prop where
  ga : findIn K (.ref C) "__getattribute__" = some (some (.builtin "object.__getattribute__"))
  gt : findIn K (.ref C) "__getattr__" = some none
  sa : findIn K (.ref C) "__setattr__" = some (some (.builtin "object.__setattr__"))
  over : plainOver K C = true
  has : (clsIn K C).any (·.hasDict) = true
theorem in_of {K : Frag} (KX : K.In c.base) {s : Shared} (S : St c f m H s) : K.In s.heap := fun a o e => S.base a o (KX a o e)
theorem nodup_leG {α : Type} [DecidableEq α] : ∀ {l l' : List α}, l.Nodup → (∀ x ∈ l, x ∈ l') → l.length ≤ l'.length
  | [], _, _, _ => Nat.zero_le _
  | x :: r, l', nd, h => by
    rw [List.nodup_cons] at nd
    have hx := h x (.head _)
    have := nodup_leG (l' := l'.erase x) nd.2 fun y hy => (List.mem_erase_of_ne (fun e : y = x => nd.1 (e ▸ hy))).mpr (h y (.tail _ hy))
    rw [List.length_erase_of_mem hx] at this
    have := List.length_pos_of_mem hx
    simp; exact om49 (by assumption) this
theorem lookup_none_of {fs : List (Str × V)} {x : Str} (h : x ∉ fs.map (·.1)) : fs.lookup x = none := by
  induction fs with
  | nil => rfl
  | cons p r ih =>
    simp only [List.map_cons, List.mem_cons, not_or] at h
    rw [List.lookup_cons, show (x == p.1) = false from beq_false_of_ne h.1]
    exact ih h.2
theorem ns_size {h : Heap} {a : Addr} {mv : Str → Option Value} {fs : List (Str × V)} (n : h.Ns1 a mv) (hn : ∀ x, fs.lookup x = none → mv x = none) {o : Obj} {es : Array DictEntry} {ep : Nat} (g : h.get? a = some o) (d : o.data = .dict es ep) : es.size ≤ fs.length := by
  classical
  refine e3a5 n fun o' es' ep' g' d' sk uk hm => ?_; clear n
  rw [g] at g'; cases g'; rw [d] at d'; cases d'
  have key : ∀ e ∈ es.toList, ∃ x, e.key.isStr x = true := fun e he => by obtain ⟨x, t, hx⟩ := sk e (by simpa using he); exact ⟨x, by rw [hx]; simp [Value.isStr]⟩
  let nm : DictEntry → Str := fun e => if h : ∃ x, e.key.isStr x = true then Classical.choose h else Str.empty
  have nmk : ∀ e ∈ es.toList, e.key.isStr (nm e) = true := fun e he => by
    have h := key e he
    show e.key.isStr (if h : ∃ x, e.key.isStr x = true then Classical.choose h else Str.empty) = true
    rw [dif_pos h]; exact Classical.choose_spec h
  have nd : (es.toList.map nm).Nodup := by
    refine List.Pairwise.map _ ?_ (List.Pairwise.and_mem.mp uk)
    rintro a b rz1 e; refine e0a3 rz1 fun ha hb hab => ?_; clear rz1
    exact hab (nm a) (nmk a ha) (by rw [e]; exact nmk b hb)
  have sub : ∀ x ∈ es.toList.map nm, x ∈ fs.map (·.1) := fun x hx => by
    refine e1a2 (List.mem_map.mp hx) fun e he rq137 => ?_; obtain rfl := rq137
    apply Classical.byContradiction
    intro hno
    have h1 := hn _ (lookup_none_of hno)
    rw [← hm] at h1
    unfold nsFind findBy at h1
    rw [Option.map_eq_none_iff, Array.find?_eq_none] at h1
    exact h1 e (by simpa using he) (nmk e he)
  have := nodup_leG nd sub
  simpa using this
def InstIs (H : AH) (x C dx : Addr) (fs : List (Str × V)) : Prop := (∃ o, H x = some ⟨o, .inst C dx⟩) ∧ ∃ od, H dx = some ⟨od, .attrs fs⟩
theorem InstIs.ext {H H' : AH} {x C dx : Addr} {fs : List (Str × V)} (I : InstIs H x C dx fs) (e : Ext H H') : InstIs H' x C dx fs := by
  obtain ⟨⟨o, a⟩, od, b⟩ := I
  exact ⟨⟨o, (e x (by rw [a]; exact fun z => nomatch z)).trans a⟩, od, (e dx (by rw [b]; exact fun z => nomatch z)).trans b⟩
theorem InstIs.ne {H : AH} {x C dx a : Addr} {fs : List (Str × V)} {y : Cell} (I : InstIs H x C dx fs) (n1 : x ≠ a) (n2 : dx ≠ a) : InstIs (H.set a y) x C dx fs := by
  obtain ⟨⟨o, p⟩, od, q⟩ := I
  exact ⟨⟨o, (set_ne H y n1).trans p⟩, od, (set_ne H y n2).trans q⟩
theorem InstIs.ne_dict {H : AH} {x C dx a : Addr} {fs : List (Str × V)} {ds : List (Int × V)} (I : InstIs H x C dx fs) (l : DictIs H a ds) : x ≠ a ∧ dx ≠ a := by
  obtain ⟨⟨o, p⟩, od, q⟩ := I
  obtain ⟨ol, l⟩ := l
  exact ⟨(fun e => by rw [e, l] at p; cases p), (fun e => by rw [e, l] at q; cases q)⟩
theorem InstIs.apart {H : AH} {x C dx : Addr} {fs : List (Str × V)} (I : InstIs H x C dx fs) : x ≠ dx := by
  obtain ⟨⟨o, p⟩, od, q⟩ := I
  exact fun e => by rw [e, q] at p; cases p
theorem InstIs.at {s : Shared} {x C dx : Addr} {fs : List (Str × V)} (I : InstIs H x C dx fs) (S : St c f m H s) :
    ∃ od od' mv, H dx = some ⟨od', .attrs fs⟩ ∧ InstAt s.heap x (instObj C dx) C (some od) ∧ s.heap.get? dx = some od ∧ s.heap.Ns1 dx mv ∧ (∀ y, fs.lookup y = none → mv y = none) ∧ ∀ y d, fs.lookup y = some d → ∃ v, mv y = some v ∧ Is s.heap d v := by
  obtain ⟨⟨o, e⟩, od, e2⟩ := I
  have k := (S.rep x _ e).2
  obtain ⟨g2, mv, n, p, q⟩ := S.rep dx _ e2
  exact ⟨od, od, mv, e2, ⟨k, rfl, rfl, g2⟩, g2, n, p, q⟩
def Handy (d : V) : Prop := ∀ h v, Is h d v → handedIn v = true
theorem Fn.opA {k : Nat} {fv : Value} {args : List V} (h : Fn c k fv args H Q X) {A : Around} (R : Room k A) (hf : A.frames = some f.frs) {vs : List Value} {s : Shared} (S : St c f m H s) (i : IsAll s.heap args vs) :
    codeAny c.M A (.call fv ⟨vs, []⟩) (fun r s' => match r with | .ok (.ret v) => Good c f m Q s v s' | .ok _ => False | .error x => Thr c f m X x s') s := by
  refine codeAny_mono (h.run A f.frs s vs R hf S.ent i) fun r s' z => ?_
  refine e1a2 z fun H' L rq138 => ?_; clear z; have z := rq138; clear rq138
  obtain ⟨S', t⟩ := S.back L
  cases r with
  | error x => refine e2a3 z fun C e rq139 g q => ?_; clear z; obtain rfl := rq139; exact ⟨C, H', e, rfl, S', g.fly S, q⟩
  | ok fl => cases fl with
    | ret v => refine e1a2 z fun d i' q => ?_; clear z; exact ⟨t, d, H', i', S', q⟩
    | _ => exact z.elim
theorem Ex_setattr {K : Frag} (KX : K.In c.base) {C : Addr} (PC : Plain K C) {o value : Expr} {name : Str} {p' p : Pos} {rest : List Stmt} {Q : Ko}
    (h : Ev c f value m H (fun dv H₁ => Ev c f o m H₁ (fun do_ H₂ => ∃ x dx fs fs', do_ = .ref x ∧ InstIs H₂ x C dx fs ∧ fs.length ≤ 1000 ∧ (∀ y, fs'.lookup y = if y = name then some dv else fs.lookup y) ∧ ∀ od, Ex c f rest m (H₂.set dx ⟨od, .attrs fs'⟩) Q) (fun C H' => Q (.exc C) m H')) (fun C H' => Q (.exc C) m H'))
    (ht : takerIn K C name = some none) (hs : swapsWith value (some (.Attribute o name p')) p.line f.env = pure false := by rfl) : Ex c f (.Assign [.Attribute o name p'] value p :: rest) m H Q := .mk fun s S => by
  refine wpAny_execs_cons (plainObj_wpAny_Assign_Attribute (wpAny_mono (h.run s S) (fun v s₁ z => ?_) fun x s' z => z.ex fun _ _ y => y) hs)
  obtain ⟨t₁, dv, H₁, i₁, S₁, q₁⟩ := z
  refine wpAny_mono (q₁.run s₁ S₁) (fun vo s₂ z => ?_) fun x s' z => z.ex fun _ _ y => y
  obtain ⟨t₂, do_, H₂, i₂, S₂, x, dx, fs, fs', rfl, I, hfew, hfs, k⟩ := z
  obtain rfl := is_raw i₂
  refine e3a6 (I.at S₂) fun od od' mv e0 IA g n pn q => ?_
  refine e1a2 (any_some PC.has) fun cd hc hh => ?_
  have X := in_of KX S₂
  refine set_plain X IA PC.sa (osa_open (s := { s₂ with toks := s₂.toks + 1 }) X IA PC.over ht fun b => ?_)
  have X' : K.In ({ s₂ with toks := s₂.toks + 1 } : Shared).heap := X
  refine wpAny_bind (wpAny_pure (wpAny_bind (wpAny_bind (wpAny_loadPart IA.at_ (wpAny_bind ((looks_clsIn X' hc).here ?_))))))
  rw [hh]
  refine wpAny_pure (a := some dx) (wpAny_bind (wpAny_pure (wpAny_bind (wpAny_nsSet1 (s := { s₂ with toks := s₂.toks + 1 }) n fun h' n' sb => ?_))))
  have nt : Tk s₂.heap h' := fun b o₁ _ _ e cl dt => ⟨o₁, by
    by_cases z : b = dx
    · subst z; refine e3a3 n fun o' es ep g' dd _ => ?_; clear n; rw [g'] at e; cases e; rw [dd] at dt; cases dt
    · exact sb.extBut b o₁ z e, cl, dt⟩
  refine e3a2 (id n') fun o' es' ep' g' r' => ?_
  have iv : Is h' dv v := (i₁.tk t₂).tk nt
  have := S₂.upd (s' := { s₂ with heap := h', toks := s₂.toks + 1 + 1 }) (y := ⟨o', .attrs fs'⟩) e0 sb.extBut rfl rfl ⟨g', _, n', fun y hy => ?_, fun y d hy => ?_⟩
  · have sz := ns_size n' (fs := (name, dv) :: fs) (fun y hy => by
      by_cases z : y = name
      · subst z; simp at hy
      · rw [if_neg z]; refine pn y ?_
        rw [List.lookup_cons, show (y == name) = false from beq_false_of_ne z] at hy; exact hy) g' r'.1
    have hbig : 1000000 ≤ sizeLine := by decide
    have sz2 : es'.size ≤ sizeLine + 1 := by rw [List.length_cons] at sz; exact om52 hfew sz hbig
    exact wpAny_bind (wpAny_lookBehind g' (by rw [r'.1]; exact pastItsLine_dict sz2) (wpAny_pure ((k o').run _ this.1)))
  · rw [hfs] at hy
    by_cases z : y = name
    · rw [if_pos z] at hy; cases hy
    · rw [if_neg z] at hy; rw [if_neg z]; exact pn y hy
  · rw [hfs] at hy
    by_cases z : y = name
    · rw [if_pos z] at hy ⊢; cases hy; exact ⟨v, rfl, iv⟩
    · rw [if_neg z] at hy ⊢; refine e1a2 (q y d hy) fun u a b => ?_; exact ⟨u, a, b.tk nt⟩
theorem Room.make {k : Nat} {A : Around} (h : Room (k + 1) A) (C : Addr) (vs : List Value) : Room k (A.under (.builtin "type.__call__" ⟨.ref C :: vs, []⟩)) :=
  ⟨h.handled, by show A.depth + 1 + 3 * k + 10 < _; have := h.depth; exact om0 this, by show A.units + 1 + 12 * k + 200 < _; have := h.units; exact om53 this⟩
theorem Ev_make {K : Frag} (KX : K.In c.base) {C fI : Addr} {x : Str} {p₁ p : Pos} {e : Expr} {d : V} {k : Nat} (Kc : CxOk c) (g : GN c x (.ref C)) (R : Room (k + 1) f.A) (hfr : f.A.frames = some f.frs) (hm : makesIn K C = true) (hi : findIn K (.ref C) "__init__" = some (some (.ref fI))) (hf : typeIn K (.ref fI) = some (.type "function")) (hkp : keepIn K (.ref C) = true)
    (h1 : Pe c f e m H d)
    (h : ∀ xa dx oi od, H xa = none → H dx = none → xa ≠ dx → Fn c k (.ref fI) [.ref xa, d] ((H.set dx ⟨od, .attrs []⟩).set xa ⟨oi, .inst C dx⟩) (fun r H' => r = .none ∧ Q (.ref xa) H') X)
    (hg : f.env.globals = mainGlobals := by rfl) (hb : f.env.builtins = builtinsNs := by rfl)
    (hk : f.env.scope.kind = .function := by rfl) (hn : f.env.kindOf x = some .globalImplicit := by rfl) (hd : (x == ("__debug__" : Str)) = false := by decide) (he : starEach [e] f.env = (false, eval e f.env) :: starEach [] f.env := by rfl) : Ev c f (.Call (.Name x p₁) [e] [] p) m H Q X := .mk fun s S => by
  refine Call_ (wpAny_mono ((Pe_glob Kc g hg hb hk hn hd).run s S) (fun v s₁ z => ?_) fun _ _ z => ?_)
  · obtain ⟨t₁, d', H₁, i₁, S₁, rfl, rfl⟩ := z
    obtain rfl := is_raw i₁
    refine callWith_K (h₀ := c.base) KX hkp (wpAny_mono ((Pes_cons h1 Pes_nil he p).run s₁ S₁) (fun vs s₂ z => ?_) fun _ _ z => ?_) he rfl
    · obtain ⟨t₂, ds, H₂, i₂, S₂, rfl, rfl⟩ := z
      have X2 := in_of KX S₂
      refine ⟨X2, wpAny_call ?_⟩
      obtain ⟨hh, gg, dd, tt, os⟩ := s₂
      refine make_core (makes_of X2 hm) (looks_findIn X2 hi) (fun self => bind_fn X2 self hf) (.inl rfl) ?_
      have big := S₂.sizeBig Kc
      have S₃ := S₂.alloc (s' := ⟨hh.push emptyDict, gg, dd, tt, os⟩) (a := hh.objs.size) (x := ⟨emptyDict, .attrs []⟩) (Grow.push _ _) rfl rfl (none_size _) big
        ⟨Heap.get?_push_size _ rfl, _, Heap.Ns1.of_empty (Heap.Ns.new _ _), fun _ _ => rfl, fun _ _ e => nomatch e⟩
      have S₄ := S₃.alloc (s' := ⟨(hh.push emptyDict).push (instObj C hh.objs.size), gg, dd, tt, os⟩) (a := hh.objs.size + 1) (x := ⟨instObj C hh.objs.size, .inst C hh.objs.size⟩) (Grow.push _ _) rfl rfl
        (by have := none_size (hh.push emptyDict); rwa [Heap.size_push] at this) (Nat.lt_succ_of_lt big) (by
          have : ((hh.push emptyDict).push (instObj C hh.objs.size)).get? (hh.objs.size + 1) = some (instObj C hh.objs.size) := by
            have := Heap.get?_push_size (hh.push emptyDict) (o := instObj C hh.objs.size) rfl
            rwa [Heap.size_push] at this
          exact ⟨this, this⟩)
      have n1 := S₂.apartOf (none_size hh)
      have n2 := S₂.apartOf (a := hh.objs.size + 1) (by
        cases q : hh.get? (hh.objs.size + 1) with
        | none => rfl
        | some o => exact absurd (Heap.lt_size q) (Nat.not_lt.mpr (Nat.le_succ _)))
      have ii : IsAll ((hh.push emptyDict).push (instObj C hh.objs.size)) [.ref (hh.objs.size + 1), d] (.ref (hh.objs.size + 1) :: vs) := isAll_cons (mk_raw) (i₂.tk ((Grow.push _ _).trans (Grow.push _ _)).tk)
      refine codeAny_mono (Fn.opA (h (hh.objs.size + 1) hh.objs.size _ _ n2.1 n1.1 (Nat.succ_ne_self _)) (R.make C vs) hfr S₄ ii) fun r s' z => ?_
      cases r with
      | error x => exact z
      | ok fl => cases fl with
        | ret v =>
          obtain ⟨t₃, d₃, H₃, i₃, S₃', rfl, q⟩ := z
          refine ⟨is_raw i₃, t₁.trans (t₂.trans (((Grow.push _ _).trans (Grow.push _ _)).tk.trans t₃)), _, H₃, mk_raw, S₃', q⟩
        | _ => exact z.elim
    · refine e3a4 z fun _ _ _ _ _ _ rq140 => ?_; clear z; have z := rq140; clear rq140; exact z.elim
  · refine e3a4 z fun _ _ _ _ _ _ rq141 => ?_; clear z; have z := rq141; clear rq141; exact z.elim
end
end Mine
set_option maxRecDepth 100000
set_option linter.unusedVariables false
namespace Mine
open PySem PyProof.Rows PySem.Builtin PySem.W PySem.Calls
theorem bt_reversed : bootBuiltins (Str.ofString "reversed") = some (.type "reversed") := by decide +kernel
section
variable {c : Cx} {f : Fx} {m : Loc} {H : AH} {X : Value → AH → Prop}
theorem EvIt_rev {x : Str} {p₁ p : Pos} {e : Expr} {Q : List V → List Addr → AH → Prop} (hh : f.A.handled = none)
    (h : Ev c f (.Name x p₁) m H (fun d H' => d = .raw (.type "reversed") ∧ Ev c f e m H' (fun d H₁ => ∃ a ds, d = .ref a ∧ ListAt H₁ a ds ∧ Q ds.reverse [a] H₁) X) X)
    (he : starEach [e] f.env = [(false, eval e f.env)] := by rfl) : EvIt c f (.Call (.Name x p₁) [e] [] p) m H Q X := .mk fun s S => by
  refine PyProof.Rows.Call_ (wpAny_mono (h s S) (fun v s₁ z => ?_) fun _ _ x => x)
  obtain ⟨t₁, d, H₁, i₁, S₁, rfl, q₁⟩ := z
  obtain rfl := is_raw i₁
  refine PyProof.Rows.callWith_type1 (PyProof.Rows.args_cons (wpAny_mono (q₁ s₁ S₁) (fun v s₂ z => ?_) fun _ _ x => x) he) he rfl
  obtain ⟨t₂, d, H₂, i₂, S₂, a, ds, rfl, ⟨o, ha⟩, q⟩ := z
  obtain rfl := is_raw i₂
  refine e2a5 (S₂.rep.list ha) fun vs n g c1 c2 c3 ia => ?_
  have hl : s₂.heap.IsList a vs.toArray := ⟨o, g, c1, n, c3⟩
  have hI := none_size s₂.heap
  refine e0a6 (S₂.apartOf hI) fun _ b2 _ _ _ b6 => ?_
  have hne : a ≠ s₂.heap.objs.size := Nat.ne_of_lt (Heap.lt_size g)
  have hit : (s₂.heap.push (revObj a ((vs.toArray.size : Int) - 1))).IsRevIter s₂.heap.objs.size a ((vs.toArray.size : Int) - 1) := ⟨_, Heap.get?_push_size _ rfl, rfl, rfl⟩
  refine PyProof.Rows.args_nil (call_reversed_list hl (wpAny_pyIter_revIter hit ⟨_, ds.reverse, [a], H₂, rfl, t₁.trans (t₂.trans (Grow.push _ _).tk), S₂.grow (Grow.push _ _) rfl rfl, b2, b6, ?_, q⟩))
  have W := Walks.listRev (prog := c.prog) (w := c.w) hh s₂.heap.objs.size a hne vs.toArray
  have hsz : vs.toArray.size = ds.length := by rw [List.size_toArray]; exact ia.length
  have hsz' : vs.toArray.size = ds.reverse.length := by rw [hsz, List.length_reverse]
  rw [hsz'] at W hit
  refine ⟨_, _, _, W, ⟨Nat.zero_le _, ?_, hl.push _⟩, fun i h st => ?_, fun b hb => ?_, fun b hb => ?_, fun i v d H' h hP hd R B e => ?_⟩
  · rw [hsz']; simpa using hit
  · refine e0a3 st fun _ rq142 _ => ?_; clear st; obtain ⟨o, g, _, d⟩ := rq142; exact ⟨o, _, g, d⟩
  · simp only [List.mem_cons, List.not_mem_nil, or_false] at hb
    rcases hb with rfl | rfl
    · exact .inl rfl
    · exact .inr (.inl (.head _))
  · simp only [List.mem_cons, List.not_mem_nil, or_false] at hb; subst hb; exact ⟨_, ha⟩
  · refine e2a5 (R.list ((e a (.head _)).trans ha)) fun vs' n' g' _ _ c3' ia' => ?_
    rw [c3] at c3'
    injection c3' with hv _
    have : vs = vs' := by simpa using hv
    subst this
    have hi := (List.getElem?_eq_some_iff.mp hd).1
    rw [List.length_reverse] at hi
    rw [List.getElem?_reverse hi] at hd
    refine e1a2 (ia'.get hd) fun v' e1 e2 => ?_
    have : vs[ds.length - 1 - i]? = some v := by simpa using hP
    rw [this] at e1; cases e1; exact e2
end
structure Step (old new : List Nat) (a : Int) (gone come : List Nat) : Prop where
  h0 : 0 ≤ a
  h1 : a ≤ old.length
  fit : (old.take (a + gone.length).toNat).drop a.toNat = gone
  new : new = old.take a.toNat ++ come ++ old.drop (a + gone.length).toNat
theorem Step.gone_le {old new : List Nat} {a : Int} {gone come : List Nat} (S : Step old new a gone come) : gone.length ≤ old.length := by
  have := congrArg List.length S.fit
  rw [List.length_drop, List.length_take] at this; exact om54 this
theorem Step.come_le {old new : List Nat} {a : Int} {gone come : List Nat} (S : Step old new a gone come) : come.length ≤ new.length := by
  have := congrArg List.length S.new
  rw [List.length_append, List.length_append] at this; exact om55 this
abbrev chg (a : Int) (gone come : List Nat) : V := .tup [.int a, .s gone, .s come]
inductive Entry (kvs : List (Int × V)) (tx : Int → List Nat) (rk : Int → Nat) (k : Int) : V → Prop
  | root : Entry kvs tx rk k (.tup [.none, .s (tx k)])
  | lean (b a : Int) (gone come : List Nat) : Key kvs b → rk b < rk k → Step (tx b) (tx k) a gone come → Entry kvs tx rk k (.tup [.int b, chg a gone come])
structure Held (kvs : List (Int × V)) (tx : Int → List Nat) (rk : Int → Nat) : Prop where
  nd : (kvs.map (·.1)).Nodup
  few : kvs.length ≤ 40
  low : ∀ k, rk k ≤ 40
  ent : ∀ k d, dget kvs k = some d → Entry kvs tx rk k d
  short : ∀ k, Key kvs k → (tx k).length ≤ 20000
def base0 : V → V
  | .tup (b :: _) => b
  | _ => .none
def body0 : V → V
  | .tup [_, x] => x
  | _ => .none
def bases (kvs : List (Int × V)) : List (Int × V) := kvs.map fun p => (p.1, base0 p.2)
theorem dget_bases {kvs : List (Int × V)} {k : Int} : dget (bases kvs) k = (dget kvs k).map base0 := by
  unfold dget bases
  rw [List.find?_map]
  cases q : kvs.find? (fun kv => decide (kv.1 = k)) with
  | none => rw [show ((fun kv : Int × V => decide (kv.1 = k)) ∘ fun p : Int × V => (p.1, base0 p.2)) = fun kv => decide (kv.1 = k) from rfl, q]; rfl
  | some x => rw [show ((fun kv : Int × V => decide (kv.1 = k)) ∘ fun p : Int × V => (p.1, base0 p.2)) = fun kv => decide (kv.1 = k) from rfl, q]; rfl
theorem keys_bases (kvs : List (Int × V)) : (bases kvs).map (·.1) = kvs.map (·.1) := by unfold bases; rw [List.map_map]; rfl
theorem Held.wood {kvs : List (Int × V)} {tx : Int → List Nat} {rk : Int → Nat} (E : Held kvs tx rk) (hne : kvs ≠ []) : Wood (bases kvs) rk := by
  refine ⟨fun e => hne ?_, by unfold bases; rw [List.length_map]; exact E.few, E.low, fun k d hd => ?_⟩
  · exact List.map_eq_nil_iff.mp e
  · rw [dget_bases] at hd
    cases q : dget kvs k with
    | none => rw [q] at hd; cases hd
    | some x =>
      rw [q] at hd; cases hd
      cases E.ent k x q with
      | root => exact .inl rfl
      | lean b a gone come hb hlt st =>
        obtain ⟨d', e'⟩ := hb
        exact .inr ⟨b, base0 d', rfl, by rw [dget_bases, e']; rfl, hlt⟩
theorem Held.pair {kvs : List (Int × V)} {tx : Int → List Nat} {rk : Int → Nat} (E : Held kvs tx rk) {k : Int} {d : V} (h : dget kvs k = some d) : d = .tup [base0 d, body0 d] := by
  cases E.ent k d h with
  | root => rfl
  | lean b a gone come hb hlt st => rfl
section
variable {c : Cx} {f : Fx} {H : AH}
structure EqH (c : Cx) (H : AH) (n : Nat) (d₁ d₂ : V) (b : Bool) : Prop where
  eq : ∀ (f : Fx) (m : Loc) (s : Shared) (A : Around) (v₁ v₂ : Value), St c f m H s → A.units + 4 * n < cLine → Is s.heap d₁ v₁ → Is s.heap d₂ v₂ → SeqAt.EqAt A s v₁ v₂ b
  same : ∀ (f : Fx) (m : Loc) (s : Shared) (v : Value), St c f m H s → Is s.heap d₁ v → Is s.heap d₂ v → b = true
end
end Mine
set_option maxRecDepth 100000
set_option linter.unusedVariables false
namespace Mine
open PySem PyProof.Rows PySem.Builtin PySem.W PySem.Calls
section
variable {c : Cx} {f : Fx} {m : Loc} {H : AH} {X : Value → AH → Prop} {Q : V → AH → Prop}
structure Alike (c : Cx) (H : AH) (n : Nat) (d₁ d₂ : V) : Prop where
  eq : ∀ (s : Shared) (A : Around) (v₁ v₂ : Value), Rep c H s.heap → (∀ a x, H a = some x → cStatics < a) → A.units + 4 * n < cLine → Is s.heap d₁ v₁ → Is s.heap d₂ v₂ → SeqAt.EqAt A s v₁ v₂ true
theorem EqA.alike {n : Nat} {d₁ d₂ : V} (E : EqA n d₁ d₂ true) : Alike c H n d₁ d₂ := ⟨fun s A v₁ v₂ S B u i j => E.eq A s v₁ v₂ u i j⟩
theorem Alike.up {n k : Nat} {d₁ d₂ : V} (E : Alike c H n d₁ d₂) (h : n ≤ k) : Alike c H k d₁ d₂ := ⟨fun s A v₁ v₂ S B u i j => E.eq s A v₁ v₂ S B (by exact om56 h u) i j⟩
theorem Alike.int (n : Nat) (i : Int) : Alike c H n (.int i) (.int i) := Alike.up (EqA.alike (by simpa using EqA.int i i)) (Nat.zero_le n)
theorem Alike.str (n : Nat) (x : Str) : Alike c H n (.str x) (.str x) := Alike.up (EqA.alike (by simpa using EqA.str x x)) (Nat.zero_le n)
theorem Alike.none (n : Nat) : Alike c H n .none .none := Alike.up (EqA.alike EqA.none) (Nat.zero_le n)
theorem Alike.tup {n : Nat} {ds es : List V} (hl : ds.length = es.length) (he : ∀ (j : Nat) d₁ d₂, ds[j]? = some d₁ → es[j]? = some d₂ → Alike c H n d₁ d₂) : Alike c H (n + 1) (.tup ds) (.tup es) where
  eq := fun s A v₁ v₂ S B u i j => by
    simp only [Is] at i j
    refine e2a3 i fun a us rq143 rq144 ia => ?_; clear i; obtain rfl := rq143; obtain ⟨o, k, g, cl, dt⟩ := rq144
    refine e2a3 j fun a' us' rq145 rq146 ia' => ?_; clear j; obtain rfl := rq145; obtain ⟨o', k', g', cl', dt'⟩ := rq146
    by_cases q : a = a'
    · subst q; exact SeqAt.EqAt.same _
    · have := SeqAt.RcAt.tuples (A := A) (s := s) (l := a) (b := a') (items := us.toArray) (items2 := us'.toArray) (e := fun _ => true) ⟨o, g, cl, k, dt⟩ ⟨o', g', cl', k', dt'⟩ (by exact om57 u) (fun j h1 h2 => by
        simp only [List.size_toArray] at h1 h2
        refine e1a2 (ia.at h1) fun d₁ q₁ i₁ => ?_
        refine e1a2 (ia'.at h2) fun d₂ q₂ i₂ => ?_
        exact (he j d₁ d₂ q₁ q₂).eq _ _ _ _ S B (by have := in1_units A; exact om58 u this) i₁ i₂)
      simp only [List.size_toArray, ia.length, ia'.length, hl, Nat.min_self, beq_self_eq_true, Bool.and_true] at this
      have e1 : (List.range es.length).all (fun _ => true) = true := by simp
      rw [e1] at this
      exact SeqAt.EqAt.of_refs q this
theorem B_eqlT {n : Nat} {a b : Addr} {ds es : List V} (ha : ListAt H a ds) (hb : ListAt H b es) (hl : ds.length = es.length) (he : ∀ (j : Nat) d₁ d₂, ds[j]? = some d₁ → es[j]? = some d₂ → Alike c H n d₁ d₂) (hu : f.A.units + 4 * (n + 1) < cLine) :
    B2 c f H (compareOp .Eq) (.ref a) (.ref b) (.bool true) := .mk fun m s v₁ v₂ S i j => by
  obtain rfl := is_raw i; obtain rfl := is_raw j
  refine e1a2 (S.rep.plain ha) fun us rq147 ia => ?_; obtain ⟨o, k, g, cl, dn, dt⟩ := rq147
  refine e1a2 (S.rep.plain hb) fun us' rq148 ia' => ?_; obtain ⟨o', k', g', cl', dn', dt'⟩ := rq148
  refine SeqAt.eq_listAt (e := fun _ => true) (items := us.toArray) (items2 := us'.toArray) ⟨o, g, cl, k, dt⟩ ⟨o', g', cl', k', dt'⟩ (by rw [List.size_toArray, List.size_toArray, ia.length, ia'.length, hl]) (by exact om57 hu) (fun j h1 h2 => by
        simp only [List.size_toArray] at h1 h2
        refine e1a2 (ia.at h1) fun d₁ q₁ i₁ => ?_
        refine e1a2 (ia'.at h2) fun d₂ q₂ i₂ => ?_
        exact (he j d₁ d₂ q₁ q₂).eq _ _ _ _ S.rep S.big (by have := in1_units f.A; exact om58 hu this) i₁ i₂) ?_
  have e1 : (List.range us.toArray.size).all (fun _ => true) = true := by simp
  rw [e1]
  exact ⟨Grow.refl _, rfl, rfl, mk_raw⟩
theorem O_copy {a : Addr} {ds : List V} (K : CxOk c) (h : ListAt H a ds) (hsz : ds.length ≤ sizeLine) (q : ∀ b o, H b = none → Q (.ref b) (H.set b ⟨o, .list ds⟩)) : OpN c f (fun vs => call (.type "list") vs) [.ref a] m H Q X := .mk fun s vs S ia => by
  simp only [IsAll] at ia; refine e2a3 ia fun v r rq149 i rq150 => ?_; clear ia; obtain rfl := rq149; obtain rfl := rq150
  obtain rfl := is_raw i
  obtain ⟨o, eo⟩ := h
  refine e2a5 (S.rep.list eo) fun us n g c1 c2 c3 ja => ?_
  refine call_list_seq (hsz := by rw [List.size_toArray, ja.length]; exact hsz) a (.inl rfl) g c1 c3 fun h' c' gr hD => ?_
  have gr : Grow s.heap h' := gr
  exact ⟨gr.tk, .ref _, _, mk_raw, S.alloc (s' := { s with heap := h' }) (x := ⟨_, .list ds⟩) gr rfl rfl (size_none _) (S.sizeBig K) ⟨hD, us, ⟨_, c', hD, rfl, rfl, rfl⟩, ja.tk gr.tk⟩, q _ _ S.sizeH⟩
theorem IsAll.drop {h : Heap} : ∀ {ds : List V} {vs : List Value} (n : Nat), IsAll h ds vs → IsAll h (ds.drop n) (vs.drop n)
  | ds, vs, 0, x => by simpa using x
  | [], _, n + 1, x => by simp only [IsAll] at x; subst x; simp [IsAll]
  | d :: ds, _, n + 1, x => by
    simp only [IsAll] at x
    refine e2a3 x fun v r rq151 _ z => ?_; clear x; obtain rfl := rq151
    simpa using IsAll.drop n z
theorem IsAll.take {h : Heap} : ∀ {ds : List V} {vs : List Value} (n : Nat), IsAll h ds vs → IsAll h (ds.take n) (vs.take n)
  | ds, vs, 0, x => by simp [IsAll]
  | [], _, n + 1, x => by simp only [IsAll] at x; subst x; simp [IsAll]
  | d :: ds, _, n + 1, x => by
    simp only [IsAll] at x
    refine e2a3 x fun v r rq152 y z => ?_; clear x; obtain rfl := rq152
    simp only [List.take_succ_cons, IsAll]
    exact ⟨v, _, rfl, y, IsAll.take n z⟩
theorem Ev_lslice {value lo : Expr} {p p' : Pos} {a : Addr} {ds : List V} {i : Int} {k : Nat} (K : CxOk c) (hv : Pe c f value m H (.ref a)) (hlo : Pe c f lo m H (.int i)) (hl : ListAt H a ds) (hk : ∀ us : List Value, us.length = ds.length → slicePick us.toArray (some i) none none = (us.drop k).toArray) (hsz : ds.length ≤ sizeLine)
    (q : ∀ b o, H b = none → Q (.ref b) (H.set b ⟨o, .list (ds.drop k)⟩)) (ht : ∀ o r, letTemporaryGo value o r = pure () := by intro _ _; rfl) (hp : evalPart (some lo) f.env = eval lo f.env := by rfl) :
    Ev c f (.Subscript value (.Slice (some lo) none none p) p') m H Q X := .mk fun s S => by
  refine wpAny_Subscript_list_slice (wpAny_mono (hv.run s S) (fun vo s₁ z => ?_) fun _ _ z => ?_) ht
  · obtain ⟨t₁, d₁, H₁, i₁, S₁, rfl, rfl⟩ := z
    obtain rfl := is_raw i₁
    rw [hp]
    refine wpAny_mono (hlo.run s₁ S₁) (fun vi s₂ z => ?_) fun _ _ z => ?_
    · obtain ⟨t₂, d₂, H₂, i₂, S₂, rfl, rfl⟩ := z
      obtain ⟨u, rfl⟩ := is_int i₂
      refine wpAny_pure ?_
      obtain ⟨o, eo⟩ := hl
      refine e2a5 (S₂.rep.list eo) fun us n g c1 c2 c3 ja => ?_
      have hlen : us.length = ds.length := ja.length
      refine ⟨a, us.toArray, some i, none, rfl, ⟨o, g, c1, n, c3⟩, by rw [List.size_toArray, hlen]; exact hsz, .int i u, .none, ?_⟩
      have gr : Grow s₂.heap ((s₂.heap.push { cls := .type "slice", data := .fields #[.int i u, .none, .none] }).push { cls := .type "list", data := .seq (slicePick us.toArray (some i) none none) }) := (Grow.push _ _).trans (Grow.push _ _)
      have e1 : slicePick us.toArray (some i) none none = (us.drop k).toArray := hk us hlen
      have g2 : ((s₂.heap.push { cls := .type "slice", data := .fields #[.int i u, .none, .none] }).push { cls := .type "list", data := .seq (slicePick us.toArray (some i) none none) }).get? (s₂.heap.objs.size + 1) = some { cls := .type "list", data := .seq (slicePick us.toArray (some i) none none) } := by
        have := Heap.get?_push_size (s₂.heap.push { cls := .type "slice", data := .fields #[.int i u, .none, .none] }) (o := { cls := .type "list", data := .seq (slicePick us.toArray (some i) none none) }) rfl
        rwa [Heap.size_push] at this
      have fresh : s₂.heap.get? (s₂.heap.objs.size + 1) = none := by
        cases q : s₂.heap.get? (s₂.heap.objs.size + 1) with
        | none => rfl
        | some o => exact absurd (Heap.lt_size q) (Nat.not_lt.mpr (Nat.le_succ _))
      refine ⟨t₁.trans (t₂.trans gr.tk), .ref _, _, mk_raw, S₂.alloc (x := ⟨_, .list (ds.drop k)⟩) gr rfl rfl fresh (Nat.lt_succ_of_lt (S₂.sizeBig K)) ⟨g2, us.drop k, ⟨_, _, g2, rfl, rfl, by rw [e1]⟩, (ja.drop _).tk gr.tk⟩, q _ _ (S₂.apartOf fresh).1⟩
    · refine e3a4 z fun _ _ _ _ _ _ rq153 => ?_; clear z; have z := rq153; clear rq153; exact z.elim
  · refine e3a4 z fun _ _ _ _ _ _ rq154 => ?_; clear z; have z := rq154; clear rq154; exact z.elim
theorem Ev_lslice_sn {value lo : Expr} {p p' : Pos} {a : Addr} {ds : List V} {i : Int} (K : CxOk c) (hv : Pe c f value m H (.ref a)) (hlo : Pe c f lo m H (.int i)) (hl : ListAt H a ds) (hi0 : 0 ≤ i) (hi1 : i ≤ ds.length) (hsz : ds.length ≤ sizeLine)
    (q : ∀ b o, H b = none → Q (.ref b) (H.set b ⟨o, .list (ds.drop i.toNat)⟩)) (ht : ∀ o r, letTemporaryGo value o r = pure () := by intro _ _; rfl) (hp : evalPart (some lo) f.env = eval lo f.env := by rfl) :
    Ev c f (.Subscript value (.Slice (some lo) none none p) p') m H Q X :=
  Ev_lslice K hv hlo hl (fun us hlen => by
    have := slicePick_from us.toArray i.toNat (by rw [List.size_toArray, hlen]; exact om59 hi1)
    rw [Int.toNat_of_nonneg hi0] at this
    exact this) hsz q ht hp
theorem Pe_globI {x : Str} {p : Pos} {i : Int} {t : Tok} (K : CxOk c) (hx : GN c x (.int i t)) (hg : f.env.globals = mainGlobals := by rfl) (hb : f.env.builtins = builtinsNs := by rfl)
    (hk : f.env.scope.kind = .function := by rfl) (hn : f.env.kindOf x = some .globalImplicit := by rfl) (hd : (x == ("__debug__" : Str)) = false := by decide) : Pe c f (.Name x p) m H (.int i) := .mk fun s S =>
  wpAny_mono ((Pe_glob K hx hg hb hk hn hd).run s S) (fun v s' ⟨t₁, d, H', i₁, S', e1, e2⟩ => by subst e1; obtain rfl := is_raw i₁; exact ⟨t₁, .int i, H', mk_int, S', rfl, e2⟩) fun _ _ z => z
end
end Mine
set_option maxRecDepth 100000
set_option linter.unusedVariables false
namespace Mine
open PySem
structure Srt (kvs : List (Int × V)) (srt : List Int) : Prop where
  pm : srt.Perm (kvs.map (·.1))
  pw : srt.Pairwise (· ≤ ·)
theorem Srt.mem {kvs : List (Int × V)} {s : List Int} (h : Srt kvs s) {k : Int} : k ∈ s ↔ Key kvs k := by rw [h.pm.mem_iff, key_iff]
theorem Srt.nd {kvs : List (Int × V)} {s : List Int} (h : Srt kvs s) (nd : (kvs.map (·.1)).Nodup) : s.Nodup := h.pm.nodup_iff.mpr nd
theorem Srt.len {kvs : List (Int × V)} {s : List Int} (h : Srt kvs s) : s.length = kvs.length := by have := h.pm.length_eq; simpa using this
def dgetD (kvs : List (Int × V)) (k : Int) : V := (dget kvs k).getD .none
theorem dgetD_of {kvs : List (Int × V)} {k : Int} {d : V} (h : dget kvs k = some d) : dgetD kvs k = d := by unfold dgetD; rw [h]; rfl
theorem dgetD_key {kvs : List (Int × V)} {k : Int} (h : Key kvs k) : dget kvs k = some (dgetD kvs k) := by obtain ⟨d, e⟩ := h; rw [dgetD_of e, e]
def row (kvs : List (Int × V)) (k : Int) : V := .tup [.int k, base0 (dgetD kvs k), body0 (dgetD kvs k)]
def rowsOf (kvs : List (Int × V)) (srt : List Int) : List V := srt.map (row kvs)
def heldOf (kvs : List (Int × V)) (srt : List Int) : List (Int × V) := srt.map fun k => (k, dgetD kvs k)
theorem keys_heldOf (kvs : List (Int × V)) (srt : List Int) : (heldOf kvs srt).map (·.1) = srt := by unfold heldOf; rw [List.map_map]; simp [Function.comp_def]
theorem dget_heldOf {kvs : List (Int × V)} {srt : List Int} (h : Srt kvs srt) (k : Int) : dget (heldOf kvs srt) k = dget kvs k := by
  by_cases hk : Key kvs k
  · rw [heldOf, dget_map (g := fun k => dgetD kvs k) (h.mem.mpr hk), dgetD_key hk]
  · have e1 : dget kvs k = none := by cases q : dget kvs k with | none => rfl | some d => exact (hk ⟨d, q⟩).elim
    rw [e1, dget_none, keys_heldOf]
    exact fun q => hk (h.mem.mp q)
def Sim (kvs kvs' : List (Int × V)) : Prop := ∀ k, dget kvs k = dget kvs' k
theorem Sim.key {kvs kvs' : List (Int × V)} (h : Sim kvs kvs') {k : Int} : Key kvs k ↔ Key kvs' k := by unfold Key; rw [h k]
theorem Sim.bases {kvs kvs' : List (Int × V)} (h : Sim kvs kvs') : Sim (bases kvs) (bases kvs') := fun k => by rw [dget_bases, dget_bases, h k]
theorem Sim.chain {kvs kvs' : List (Int × V)} (h : Sim kvs kvs') {k : Int} {xs : List Int} (c : IsChain kvs k xs) : IsChain kvs' k xs := by
  induction c with
  | stop e => exact .stop ((h _).symm.trans e)
  | step e _ ih => exact .step ((h _).symm.trans e) ih
theorem Entry.grow {kvs kvs' : List (Int × V)} {tx tx' : Int → List Nat} {rk : Int → Nat} {k : Int} {d : V} (E : Entry kvs tx rk k d) (hk : Key kvs k) (h : ∀ x, Key kvs x → Key kvs' x ∧ tx' x = tx x) : Entry kvs' tx' rk k d := by
  cases E with
  | root => rw [← (h k hk).2]; exact .root
  | lean b a gone come hb hlt st => exact .lean b a gone come (h b hb).1 hlt (by rw [(h b hb).2, (h k hk).2]; exact st)
theorem Held.sim {kvs kvs' : List (Int × V)} {tx : Int → List Nat} {rk : Int → Nat} (E : Held kvs tx rk) (h : Sim kvs kvs') (nd : (kvs'.map (·.1)).Nodup) (few : kvs'.length ≤ 40) : Held kvs' tx rk :=
  ⟨nd, few, E.low, fun k d hd => by rw [← h k] at hd; exact (E.ent k d hd).grow ⟨d, hd⟩ fun x hx => ⟨h.key.mp hx, rfl⟩, fun k hk => E.short k (h.key.mpr hk)⟩
theorem Held.put {kvs : List (Int × V)} {tx : Int → List Nat} {rk : Int → Nat} (E : Held kvs tx rk) {x : Int} {d : V} {l : List Nat} (hx : x ∉ kvs.map (·.1)) (hf : kvs.length < 40) (hl : l.length ≤ 20000)
    (hd : d = .tup [.none, .s l] ∨ ∃ b a gone come, d = .tup [.int b, chg a gone come] ∧ Key kvs b ∧ rk b < rk x ∧ Step (tx b) l a gone come) : Held (kvs ++ [(x, d)]) (fun y => if y = x then l else tx y) rk := by
  have kx : ∀ y, Key kvs y → y ≠ x := fun y hy e => hx (e ▸ key_iff.mp hy)
  have up : ∀ y, Key kvs y → Key (kvs ++ [(x, d)]) y ∧ (if y = x then l else tx y) = tx y := fun y hy => by
    refine ⟨?_, if_neg (kx y hy)⟩
    rw [key_iff, List.map_append]; exact List.mem_append.mpr (.inl (key_iff.mp hy))
  refine ⟨?_, by rw [List.length_append]; exact hf, E.low, fun k d' hk => ?_, fun k hk => ?_⟩
  · rw [List.map_append, List.nodup_append]
    refine ⟨E.nd, by simp, fun a ha b hb => ?_⟩
    simp at hb; subst hb
    exact fun e => hx (e ▸ ha)
  · rw [dget_snoc hx] at hk
    by_cases e : k = x
    · subst e
      rw [if_pos rfl] at hk; injection hk with hk; subst hk
      rcases hd with rfl | ⟨b, a, gone, come, rfl, hb, hlt, st⟩
      · have := Entry.root (kvs := kvs ++ [(k, V.tup [.none, .s l])]) (tx := fun y => if y = k then l else tx y) (rk := rk) (k := k)
        simpa using this
      · refine .lean b a gone come (up b hb).1 hlt ?_
        rw [(up b hb).2, if_pos rfl]; exact st
    · rw [if_neg e] at hk
      exact (E.ent k d' hk).grow ⟨d', hk⟩ up
  · by_cases e : k = x
    · rw [if_pos e]; exact hl
    · rw [if_neg e]
      refine E.short k ?_
      rw [key_iff, List.map_append] at hk
      rcases List.mem_append.mp hk with q | q
      · exact key_iff.mpr q
      · simp at q; exact (e q).elim
theorem Held.nil {tx : Int → List Nat} {rk : Int → Nat} (h : ∀ k, rk k ≤ 40) : Held [] tx rk :=
  ⟨by simp, by simp, h, (fun k d e => nomatch e), (fun k ⟨d, e⟩ => nomatch e)⟩
theorem Held.chain {kvs : List (Int × V)} {tx : Int → List Nat} {rk : Int → Nat} (E : Held kvs tx rk) {k : Int} (hk : Key kvs k) : ∃ xs, IsChain (bases kvs) k xs ∧ xs.length ≤ 41 := by
  have hne : kvs ≠ [] := fun e => by subst e; obtain ⟨d, q⟩ := hk; cases q
  obtain ⟨d, e⟩ := hk
  refine e1a2 ((E.wood hne).chain (rk k) k (base0 d) (Nat.le_refl _) (by rw [dget_bases, e]; rfl)) fun xs h l => ?_
  have := E.low k
  exact ⟨xs, h, by exact om60 l this⟩
def lenS : V → Int
  | .str x => x.length
  | _ => 0
def lenT : List V → Int
  | [_, g, c] => lenS g + lenS c
  | _ => 0
def lenB : V → Int
  | .str x => x.length
  | .tup l => lenT l
  | _ => 0
def lenE (d : V) : Int := lenB (body0 d)
def sumE (kvs : List (Int × V)) : List Int → Int
  | [] => 0
  | k :: r => lenE (dgetD kvs k) + sumE kvs r
section
variable {c : Cx} {H : AH}
end
end Mine
set_option maxRecDepth 100000
set_option linter.unusedVariables false
namespace Mine
open PySem PyProof.Rows PySem.Builtin PySem.W PySem.Calls
section
variable {c : Cx} {f : Fx} {m : Loc} {H : AH} {X : Value → AH → Prop} {Q : V → AH → Prop}
end
end Mine
set_option maxRecDepth 100000
set_option linter.unusedVariables false
namespace Mine
open PySem
structure Chg (old new : List Nat) (a e : Nat) : Prop where
  le : a + e ≤ old.length
  le' : a + e ≤ new.length
  pre : old.take a = new.take a
  post : old.drop (old.length - e) = new.drop (new.length - e)
  stopA : a = min old.length new.length ∨ old[a]? ≠ new[a]?
  stopE : a + e = min old.length new.length ∨ old[old.length - 1 - e]? ≠ new[new.length - 1 - e]?
theorem part3 (l : List Nat) {p a b : Nat} (h1 : p ≤ a) (h2 : a ≤ b) (h3 : b ≤ l.length) : (l.take a).drop p ++ (l.take b).drop a = (l.take b).drop p := by
  have e1 : l.take a = (l.take b).take a := by rw [List.take_take, Nat.min_eq_left h2]
  rw [e1]
  generalize hq : l.take b = q
  have hl : q.length = b := by rw [← hq, List.length_take]; exact om61 h3
  apply List.ext_getElem
  · simp only [List.length_append, List.length_drop, List.length_take]; rw [hl, Nat.min_eq_left h2]; exact om62 h1 h2
  · intro i h4 h5
    rw [List.getElem_append]
    simp only [List.length_drop, List.length_take, List.getElem_drop, List.getElem_take]
    split
    · rfl
    · congr 1; simp only [List.length_drop, List.length_append, List.length_take] at *; exact om63 h1 (by assumption) h5
theorem Chg.step {old new : List Nat} {a e p : Nat} (C : Chg old new a e) (h : p ≤ a) : Step old new p ((old.take a).drop p ++ (old.take (old.length - e)).drop a) ((old.take a).drop p ++ (new.take (new.length - e)).drop a) := by
  have h1 := C.le; have h2 := C.le'
  have eg : (old.take a).drop p ++ (old.take (old.length - e)).drop a = (old.take (old.length - e)).drop p := part3 old h (by exact om64 h1) (by exact om65)
  have ec : (old.take a).drop p ++ (new.take (new.length - e)).drop a = (new.take (new.length - e)).drop p := by rw [C.pre]; exact part3 new h (by exact om64 h2) (by exact om65)
  rw [eg, ec]
  have lg : ((old.take (old.length - e)).drop p).length = old.length - e - p := by rw [List.length_drop, List.length_take]; exact om66
  have et : ((p : Int) + (((old.take (old.length - e)).drop p).length : Nat)).toNat = old.length - e := by rw [lg]; exact om67 h h1
  refine ⟨by exact om68, by exact om69 h h1, ?_, ?_⟩
  · rw [et]; rfl
  · rw [et, C.post, Int.toNat_natCast]
    have ep : old.take p = (new.take (new.length - e)).take p := by
      rw [List.take_take, Nat.min_eq_left (by exact om70 h h2)]
      have := congrArg (List.take p) C.pre
      rwa [List.take_take, List.take_take, Nat.min_eq_left h] at this
    rw [ep, List.take_append_drop, List.take_append_drop]
theorem Step.whole (old new : List Nat) : Step old new 0 old new := ⟨by exact om71, by exact om68, by simp, by simp⟩
theorem idx_of {l : List Int} (nd : l.Nodup) {i : Nat} {x : Int} (h : l[i]? = some x) : l.idxOf x = i := by
  obtain ⟨hi, e⟩ := List.getElem?_eq_some_iff.mp h
  subst e
  have hm : l[i] ∈ l := List.getElem_mem hi
  have h2 := List.idxOf_lt_length_of_mem hm
  exact (List.getElem_inj (h₀ := h2) (h₁ := hi) nd).mp (List.getElem_idxOf h2)
end Mine
set_option maxRecDepth 100000
set_option linter.unusedVariables false
namespace Mine
open PySem PyProof.Rows PySem.Builtin PySem.W PySem.Calls
section
variable {c : Cx} {f : Fx} {m : Loc} {H : AH} {X : Value → AH → Prop} {Q : V → AH → Prop}
theorem Ev_F3 {x : Str} {p₁ p : Pos} {e e₂ e₃ : Expr} {fa : Addr} {o : Obj} {fd : FuncData} {k : Nat} {d d₂ d₃ : V} (K : CxOk c) (g : GN c x (.ref fa)) (ho : c.base.get? fa = some o) (hfd : o.data = .func fd) (R : Room k f.A) (hf : f.A.frames = some f.frs) (h1 : Pe c f e m H d) (h2 : Pe c f e₂ m H d₂) (h3 : Pe c f e₃ m H d₃) (h : Fn c k (.ref fa) [d, d₂, d₃] H Q X) (hg : f.env.globals = mainGlobals := by rfl) (hb : f.env.builtins = builtinsNs := by rfl)
    (hk : f.env.scope.kind = .function := by rfl) (hn : f.env.kindOf x = some .globalImplicit := by rfl) (hd : (x == ("__debug__" : Str)) = false := by decide) (he : starEach [e, e₂, e₃] f.env = (false, eval e f.env) :: starEach [e₂, e₃] f.env := by rfl) (he2 : starEach [e₂, e₃] f.env = (false, eval e₂ f.env) :: starEach [e₃] f.env := by rfl) (he3 : starEach [e₃] f.env = (false, eval e₃ f.env) :: starEach [] f.env := by rfl) : Ev c f (.Call (.Name x p₁) [e, e₂, e₃] [] p) m H Q X :=
  Ev_call ho hfd R hf ((Pe_glob K g hg hb hk hn hd).ev ⟨rfl, (Pes_cons h1 (Pes_cons h2 (Pes_cons h3 Pes_nil he3) he2) he).evs h⟩) he
end
theorem mod_inj {m : Int} (hm : 0 < m) {a b : Int} (h : a % m = b % m) (h1 : a - b < m) (h2 : b - a < m) : a = b := by
  have e1 := Int.mul_ediv_add_emod a m
  have e2 := Int.mul_ediv_add_emod b m
  rcases Int.lt_trichotomy (a / m) (b / m) with q | q | q
  · have : m * (a / m + 1) ≤ m * (b / m) := Int.mul_le_mul_of_nonneg_left (by exact om72 q) (by exact om14 hm)
    rw [Int.mul_add] at this; exact om73 h h2 e1 e2 this
  · rw [q] at e1; exact om74 h e1 e2
  · have : m * (b / m + 1) ≤ m * (a / m) := Int.mul_le_mul_of_nonneg_left (by exact om72 q) (by exact om14 hm)
    rw [Int.mul_add] at this; exact om75 h h1 e1 e2 this
end Mine
set_option maxRecDepth 100000
set_option linter.unusedVariables false
namespace Mine
open PySem PyProof.Rows PySem.Builtin PySem.W PySem.Calls
section
variable {c : Cx} {f : Fx} {m : Loc} {H : AH} {X : Value → AH → Prop} {Q : V → AH → Prop}
end
end Mine
set_option maxRecDepth 100000
set_option linter.unusedVariables false
namespace Mine
open PySem
theorem IsChain.suffix {kvs : List (Int × V)} {n : Int} {xs : List Int} (h : IsChain kvs n xs) : ∀ x ∈ xs, ∃ ys, IsChain kvs x ys ∧ ys.length ≤ xs.length ∧ ∀ y ∈ ys, y ∈ xs := by
  induction h with
  | stop e => intro x hx; rw [List.mem_singleton] at hx; subst hx; exact ⟨_, .stop e, Nat.le_refl _, fun y hy => hy⟩
  | step e c ih =>
    intro x hx
    rcases List.mem_cons.mp hx with rfl | hx
    · exact ⟨_, .step e c, Nat.le_refl _, fun y hy => hy⟩
    · refine e1a3 (ih x hx) fun ys h1 h2 h3 => ?_
      exact ⟨ys, h1, by simp; exact om12 h2, fun y hy => .tail _ (h3 y hy)⟩
theorem IsChain.nodup {kvs : List (Int × V)} {n : Int} {xs : List Int} (h : IsChain kvs n xs) : xs.Nodup := by
  induction h with
  | stop e => simp
  | step e c ih =>
    rw [List.nodup_cons]
    refine ⟨fun hm => ?_, ih⟩
    refine e1a3 (c.suffix _ hm) fun ys h1 h2 _ => ?_
    have := h1.uniq (.step e c)
    rw [this] at h2; simp at h2; exact om76 h2
theorem IsChain.keys {kvs : List (Int × V)} {n : Int} {xs : List Int} (h : IsChain kvs n xs) : ∀ x ∈ xs, Key kvs x := by
  induction h with
  | stop e => intro x hx; rw [List.mem_singleton] at hx; subst hx; exact ⟨_, e⟩
  | step e c ih =>
    intro x hx
    rcases List.mem_cons.mp hx with rfl | hx
    · exact ⟨_, e⟩
    · exact ih x hx
theorem key_bases {kvs : List (Int × V)} {k : Int} : Key (bases kvs) k ↔ Key kvs k := by rw [key_iff, key_iff, keys_bases]
inductive Ent0 (kvs : List (Int × V)) (tx : Int → List Nat) (k : Int) : V → Prop
  | root : Ent0 kvs tx k (.tup [.none, .s (tx k)])
  | lean (b a : Int) (gone come : List Nat) : Key kvs b → Step (tx b) (tx k) a gone come → Ent0 kvs tx k (.tup [.int b, chg a gone come])
structure Hi (kvs : List (Int × V)) (n hi : Int) : Prop where
  pos : 0 ≤ hi
  le : ∀ k xs, IsChain (bases kvs) k xs → n ∈ xs → (xs.idxOf n : Int) ≤ hi
  at_ : hi = 0 ∨ ∃ k xs, IsChain (bases kvs) k xs ∧ n ∈ xs ∧ hi = (xs.idxOf n : Int)
end Mine
set_option maxRecDepth 100000
set_option linter.unusedVariables false
namespace Mine
open PySem
end Mine
set_option maxRecDepth 100000
set_option linter.unusedVariables false
namespace Mine
open PySem PyProof.Rows PySem.Builtin PySem.W PySem.F
section
variable {c : Cx} {H : AH}
end
end Mine
set_option maxRecDepth 100000
set_option linter.unusedVariables false
namespace Mine
open PySem PyProof.Rows PySem.Builtin PySem.W PySem.F
section
variable {c : Cx} {f : Fx} {m : Loc} {H : AH} {X : Value → AH → Prop} {Q : V → AH → Prop}
def over (G H H' : AH) : AH := fun a => match H a with | none => H' a | some _ => G a
end
end Mine
set_option maxRecDepth 100000
set_option linter.unusedVariables false
namespace Mine
open PySem PyProof.Rows PySem.Builtin PySem.W PySem.F
section
variable {c : Cx} {f : Fx} {m : Loc} {H : AH} {X : Value → AH → Prop} {Q : V → AH → Prop}
theorem Ev_FN {x : Str} {p₁ p : Pos} {e : Expr} {es : List Expr} {fa : Addr} {o : Obj} {fd : FuncData} {k : Nat} {ds : List V} (K : CxOk c) (g : GN c x (.ref fa)) (ho : c.base.get? fa = some o) (hfd : o.data = .func fd) (R : Room k f.A) (hf : f.A.frames = some f.frs) (h1 : Pes c f (e :: es) m H ds) (h : Fn c k (.ref fa) ds H Q X) (hg : f.env.globals = mainGlobals := by rfl) (hb : f.env.builtins = builtinsNs := by rfl)
    (hk : f.env.scope.kind = .function := by rfl) (hn : f.env.kindOf x = some .globalImplicit := by rfl) (hd : (x == ("__debug__" : Str)) = false := by decide) (he : starEach (e :: es) f.env = (false, eval e f.env) :: starEach es f.env := by rfl) : Ev c f (.Call (.Name x p₁) (e :: es) [] p) m H Q X :=
  Ev_call ho hfd R hf ((Pe_glob K g hg hb hk hn hd).ev ⟨rfl, h1.evs h⟩) he
theorem Ev_and1 {e : Expr} {p : Pos} {op : BoolOp} (h : Ev c f e m H Q X) : Ev c f (.BoolOp op [e] p) m H Q X := .mk fun s S => BoolOp_one (h s S)
theorem Ev_and {e e₂ : Expr} {es : List Expr} {p : Pos} {P : Prop} (h : Pb c f e m H P) (hP : P) (h2 : Ev c f (.BoolOp .And (e₂ :: es) p) m H Q X) : Ev c f (.BoolOp .And (e :: e₂ :: es) p) m H Q X := .mk fun s S => by
  refine BoolOp_and (wpAny_mono (h s S) (fun v s₁ z => ?_) fun _ _ ⟨_, _, _, _, _, _, x⟩ => x.elim)
  obtain ⟨t, d, H', i, S₁, rfl, b, rfl, r⟩ := z
  obtain rfl := is_raw i
  refine wpAny_pure ?_
  rw [r.mpr hP, if_pos rfl]
  refine wpAny_mono (h2 s₁ S₁) (fun v s₂ z => ?_) fun _ _ x => x
  obtain ⟨t', d, H', i, S₂, q⟩ := z
  exact ⟨t.trans t', d, H', i, S₂, q⟩
end
theorem bind5 {fd : FuncData} {x y z x4 x5 : Str} {args : List V} (h : args.length = 5) (e : ∀ v w u u4 u5, bindArgs fd ⟨[v, w, u, u4, u5], []⟩ = pure [(x, v), (y, w), (z, u), (x4, u4), (x5, u5)]) : ∀ vs : List Value, vs.length = args.length → bindArgs fd ⟨vs, []⟩ = pure ([x, y, z, x4, x5].zip vs) := fun vs hv => by
  have l0 := hv.trans h
  clear hv
  refine e2a2 (len_cons l0) fun v r1 rq155 l1 => ?_; obtain rfl := rq155
  refine e2a2 (len_cons l1) fun w r2 rq156 l2 => ?_; obtain rfl := rq156
  refine e2a2 (len_cons l2) fun u r3 rq157 l3 => ?_; obtain rfl := rq157
  refine e2a2 (len_cons l3) fun u4 r4 rq158 l4 => ?_; obtain rfl := rq158
  refine e2a2 (len_cons l4) fun u5 r5 rq159 l5 => ?_; obtain rfl := rq159
  obtain rfl := List.eq_nil_of_length_eq_zero l5
  exact e v w u u4 u5
theorem mem5 {α : Type} {p : α → Prop} {a b d e g : α} (h : p a) (h2 : p b) (h3 : p d) (h4 : p e) (h5 : p g) : ∀ x ∈ [a, b, d, e, g], p x := fun x hx => by
  rcases List.mem_cons.mp hx with rfl | hx; exact h; exact mem4 h2 h3 h4 h5 x hx
end Mine
set_option maxRecDepth 100000
set_option linter.unusedVariables false
namespace Mine
open PySem PyProof.Rows PySem.Builtin PySem.W PySem.F
section
variable {c : Cx} {f : Fx} {m : Loc} {H : AH} {X : Value → AH → Prop} {Q : V → AH → Prop}
end
end Mine
set_option maxRecDepth 100000
set_option linter.unusedVariables false
namespace Mine
open PySem PyProof.Rows PySem.Builtin PySem.W PySem.F
def flip (one : Int) : V → V
  | .tup [_, .tup [a, g, d]] => .tup [.int one, .tup [a, d, g]]
  | d => d
def tent (kv : List (Int × V)) (xs : List Int) (t0 : List Nat) : Nat → V
  | 0 => .tup [.none, .s t0]
  | j + 1 => flip (xs.getD j 0) (dgetD kv (xs.getD j 0))
structure TurnAt (kv kv' : List (Int × V)) (xs : List Int) (t0 : List Nat) (D : Nat → Prop) : Prop where
  keys : kv'.map (·.1) = kv.map (·.1)
  done : ∀ j k, D j → xs[j]? = some k → dget kv' k = some (tent kv xs t0 j)
  off : ∀ x, (∀ j, D j → xs[j]? ≠ some x) → dget kv' x = dget kv x
def TurnOf (kv kv' : List (Int × V)) (xs : List Int) (t0 : List Nat) : Prop := TurnAt kv kv' xs t0 (fun _ => True)
end Mine
set_option maxRecDepth 100000
set_option linter.unusedVariables false
namespace Mine
open PySem PyProof.Rows PySem.Builtin PySem.W PySem.Calls
def mkH (n : Nat) (G : Addr → Option Obj) : Heap := { objs := (Array.range n).map fun a => (G a).getD { cls := .none, data := .freed } }
def Odd (h : Heap) (T : Addr) : Prop := ∃ a b, IsPair h T a b ∧ ((a = .none ∧ b = .none) ∨ ∃ i t x u, a = .int i t ∧ b = .str x u)
def Tkx (T : Addr) (h h' : Heap) : Prop := ∀ b o vs n, b ≠ T → h.get? b = some o → o.cls = .type "tuple" → o.data = .seq vs n → ∃ o', h'.get? b = some o' ∧ o'.cls = .type "tuple" ∧ o'.data = .seq vs n
def SafeV (d : V) : Prop := ∀ (h h' : Heap) (T : Addr) (v : Value), Odd h T → Tkx T h h' → Is h d v → Is h' d v
def SafeK : Abs → Prop
  | .list ds => ∀ d ∈ ds, SafeV d
  | .dict kvs => ∀ p ∈ kvs, SafeV p.2
  | .inst _ _ => True
  | .attrs fs => ∀ x d, fs.lookup x = some d → SafeV d
section
variable {c : Cx} {f : Fx} {m : Loc} {H : AH}
structure Apart (f : Fx) (a : Addr) : Prop where
  new : f.hE.get? a = none
  loc : a ≠ f.env.locals
  cel : ∀ x b, f.env.cells.lookup x = some b → b ≠ a
  fs : a ∉ f.fs
  kp : ∀ p ∈ f.keep, a ≠ p.1
abbrev Fx.guard (f : Fx) (hE : Heap) (kp : List (Addr × Obj)) : Fx := { f with hE := hE, keep := kp }
def Zst (z TI TO i1 i2 l1 l2 : Addr) (i : Nat) (h : Heap) : Prop := IsZip h z TI TO .none ∧ IsPair h TI (.ref i1) (.ref i2) ∧ Odd h TO ∧ h.IsListIter i1 l1 i ∧ h.IsListIter i2 l2 i
end
end Mine
set_option maxRecDepth 100000
set_option linter.unusedVariables false
namespace Mine
open PySem PyProof.Rows PySem.Builtin PySem.W PySem.Calls
def ddel (kvs : List (Int × V)) (k : Int) : List (Int × V) := kvs.filter fun p => decide (p.1 ≠ k)
section
variable {c : Cx} {f : Fx} {m : Loc} {H : AH} {X : Value → AH → Prop} {Q : V → AH → Prop}
theorem Ex_exprA {e : Expr} {p : Pos} {rest : List Stmt} {Q : Ko} (h : Ev c f e m H (fun d H' => Ex c f rest m H' Q) (fun C H' => Q (.exc C) m H'))
    (hi : interactive f.env = false := by rfl) (hs : swapsWith e none p.line f.env = pure false := by rfl) : Ex c f (.Expr e p :: rest) m H Q := .mk fun s S => by
  refine wpAny_execs_cons (wpAny_Expr_any (wpAny_mono (h s S) (fun v s₁ z => ?_) fun x s' z => z.ex fun _ _ y => y) hi hs)
  obtain ⟨t, d, H', i, S₁, q⟩ := z
  exact q s₁ S₁
theorem Pe_cast {e : Expr} {a b : Int} (h : a = b) (p : Pe c f e m H (.int a)) : Pe c f e m H (.int b) := h ▸ p
def leansOn (n : Int) : V → Bool
  | .int b => b == n
  | _ => false
end
end Mine
set_option maxRecDepth 100000
set_option linter.unusedVariables false
namespace Mine
open PySem
def fbase (b0 : V) (ls : List Int) (i : Nat) : V := match b0 with
  | .int b => .int b
  | _ => if i = 0 then .none else .int (ls.getD 0 0)
def FEnt (b0 : V) (ls : List Int) (tx : Int → List Nat) (i : Nat) (k : Int) (d : V) : Prop :=
  (fbase b0 ls i = .none ∧ d = .tup [.none, .s (tx k)]) ∨ ∃ (b : Int) (a e : Nat), fbase b0 ls i = .int b ∧ Chg (tx b) (tx k) a e ∧ d = .tup [.int b, chg a (((tx b).take ((tx b).length - e)).drop a) (((tx k).take ((tx k).length - e)).drop a)]
structure Leans (kvs : List (Int × V)) (n : Int) (ls : List Int) : Prop where
  pw : ls.Pairwise (· < ·)
  mem : ∀ y, y ∈ ls ↔ Key kvs y ∧ base0 (dgetD kvs y) = .int n
structure Forgot (kv kv' : List (Int × V)) (n : Int) (b0 : V) (ls : List Int) (tx : Int → List Nat) : Prop where
  nd : (kv'.map (·.1)).Nodup
  len : kv'.length ≤ kv.length
  key : ∀ x, Key kv' x ↔ Key kv x ∧ x ≠ n
  off : ∀ x, x ≠ n → x ∉ ls → dget kv' x = dget kv x
  on : ∀ (i : Nat) k d, ls[i]? = some k → dget kv' k = some d → FEnt b0 ls tx i k d
end Mine
set_option maxRecDepth 100000
set_option linter.unusedVariables false
namespace Mine
open PySem
structure Mid (kb : List (Int × V)) (pt : Int → List Int) (u x : Int) (Ec : Int → Nat) : Prop where
  key : Key kb x
  same : Same pt u x
  ecc : ∀ v, Key kb v → Same pt u v → (∃ w, Key kb w ∧ Same pt u w ∧ Ec v = ds pt v w) ∧ ∀ w, Key kb w → Same pt u w → ds pt v w ≤ Ec v
  best : ∀ v, Key kb v → Same pt u v → Ec x ≤ Ec v ∧ (Ec v = Ec x → v ≤ x)
def lent (o : Int) (old new : List Nat) (a e : Nat) : V := .tup [.int o, .tup [.int a, .s ((old.take (old.length - e)).drop a), .s ((new.take (new.length - e)).drop a)]]
inductive Stored (kvs kvs' : List (Int × V)) (tx : Int → List Nat) (b n : Int) (l : List Nat) : V → Prop
  | none : kvs' = kvs ++ [(n, .tup [.none, .s l])] → Stored kvs kvs' tx b n l .none
  | lean (o : Int) (a e : Nat) (xs : List Int) : Chg (tx o) l a e → IsChain (bases kvs) o xs → (xs.length : Int) ≤ b → kvs' = kvs ++ [(n, lent o (tx o) l a e)] → Stored kvs kvs' tx b n l (.int o)
  | far (o : Int) (xs : List Int) (pt : Int → List Int) (mid : Int) (Ec : Int → Nat) : IsChain (bases kvs) o xs → b < (xs.length : Int) → Paths (bases kvs ++ [(n, .int o)]) pt → (∀ v ys, IsChain (bases kvs ++ [(n, .int o)]) v ys → pt v = ys.reverse) → Mid (bases kvs ++ [(n, .int o)]) pt n mid Ec → b < (Ec mid : Int) → kvs' = kvs ++ [(n, .tup [.none, .s l])] → Stored kvs kvs' tx b n l (.int o)
  | turned (o : Int) (a e : Nat) (xs : List Int) (pt : Int → List Int) (mid : Int) (Ec : Int → Nat) (zs : List Int) : Chg (tx o) l a e → IsChain (bases kvs) o xs → b < (xs.length : Int) → Paths (bases kvs ++ [(n, .int o)]) pt → (∀ v ys, IsChain (bases kvs ++ [(n, .int o)]) v ys → pt v = ys.reverse) → Mid (bases kvs ++ [(n, .int o)]) pt n mid Ec → (Ec mid : Int) ≤ b →
      IsChain (bases (kvs ++ [(n, lent o (tx o) l a e)])) mid zs → TurnOf (kvs ++ [(n, lent o (tx o) l a e)]) kvs' zs (if mid = n then l else tx mid) → Stored kvs kvs' tx b n l (.int o)
def Fits (kvs : List (Int × V)) (b : Int) : Prop := ∀ k xs, IsChain (bases kvs) k xs → (xs.length : Int) ≤ b + 1
end Mine
set_option maxRecDepth 100000
set_option linter.unusedVariables false
namespace Mine
open PySem PyProof.Rows PySem.Builtin PySem.W PySem.Calls
section
variable {c : Cx} {f : Fx} {m : Loc} {H : AH} {X : Value → AH → Prop} {Q : V → AH → Prop}
theorem O_addL {a b : Addr} {ds es : List V} (K : CxOk c) (ha : ListAt H a ds) (hb : ListAt H b es) (hsz : ds.length + es.length ≤ sizeLine) (q : ∀ d o, H d = none → Q (.ref d) (H.set d ⟨o, .list (ds ++ es)⟩)) : Op2 c f (binaryOp .Add) (.ref a) (.ref b) m H Q X := .mk fun s v₁ v₂ S i j => by
  obtain rfl := is_raw i; obtain rfl := is_raw j
  obtain ⟨o1, e1⟩ := ha
  obtain ⟨o2, e2⟩ := hb
  refine e2a5 (S.rep.list e1) fun vs n ho hc hn hd ia => ?_
  refine e2a5 (S.rep.list e2) fun ws n2 ho2 hc2 hn2 hd2 ib => ?_
  obtain ⟨cls, dd, data, sl⟩ := o1
  obtain ⟨cls2, dd2, data2, sl2⟩ := o2
  simp only at hc hd hc2 hd2
  subst hc hd hc2 hd2
  have e : vs.toArray ++ ws.toArray = (vs ++ ws).toArray := by simp
  have l1 := ia.length
  have l2 := ib.length
  refine concat_meets ⟨_, ho, rfl⟩ ⟨_, ho2, rfl⟩ noFill_list_add seq_list_add PySem.F.slot_list_add PySem.F.entry_list_add (PySem.F.args_list_add_2 _ _) (list_addW a b vs.toArray ws.toArray n n2 dd dd2 sl sl2 (by rw [List.size_toArray, List.size_toArray, l1, l2]; exact hsz)) ⟨ho, ho2, ?_⟩
  rw [e]
  have g : Grow s.heap (s.heap.push { cls := .type "list", data := .seq (vs ++ ws).toArray }) := Grow.push _ _
  have hx : (s.heap.push { cls := .type "list", data := .seq (vs ++ ws).toArray }).get? s.heap.objs.size = some { cls := .type "list", data := .seq (vs ++ ws).toArray } := Heap.get?_push_size _ rfl
  exact ⟨g.tk, .ref _, _, mk_raw, S.alloc (s' := { s with heap := s.heap.push { cls := .type "list", data := .seq (vs ++ ws).toArray } }) (x := ⟨_, .list (ds ++ es)⟩) g rfl rfl (size_none _) (S.sizeBig K) ⟨hx, vs ++ ws, ⟨_, _, hx, rfl, rfl, rfl⟩, (ia.append ib).tk g.tk⟩, q _ _ S.sizeH⟩
theorem Ex.gen {sts : List Stmt} {Q : Ko} (h : ∀ Q' : Ko, (∀ o m' H', Q o m' H' → Q' o m' H') → Ex c f sts m H Q') : Ex c f sts m H Q := h Q fun _ _ _ q => q
end
end Mine
set_option maxRecDepth 100000
set_option linter.unusedVariables false
namespace Mine
open PySem
end Mine
set_option maxRecDepth 100000
set_option linter.unusedVariables false
namespace Mine
open PySem PyProof.Rows PySem.Builtin PySem.W PySem.F
section
variable {c : Cx} {f : Fx} {m : Loc} {H : AH} {X : Value → AH → Prop} {Q : V → AH → Prop}
theorem Ev_lsliceT {value hi : Expr} {p p' : Pos} {a : Addr} {ds : List V} {i : Int} {k : Nat} (K : CxOk c) (hv : Pe c f value m H (.ref a)) (hhi : Pe c f hi m H (.int i)) (hl : ListAt H a ds) (hk : ∀ us : List Value, us.length = ds.length → slicePick us.toArray none (some i) none = (us.take k).toArray) (hsz : ds.length ≤ sizeLine)
    (q : ∀ b o, H b = none → Q (.ref b) (H.set b ⟨o, .list (ds.take k)⟩)) (ht : ∀ o r, letTemporaryGo value o r = pure () := by intro _ _; rfl) (hp : evalPart (some hi) f.env = eval hi f.env := by rfl) :
    Ev c f (.Subscript value (.Slice none (some hi) none p) p') m H Q X := .mk fun s S => by
  refine wpAny_Subscript_list_slice (wpAny_mono (hv.run s S) (fun vo s₁ z => ?_) fun _ _ z => ?_) ht
  · obtain ⟨t₁, d₁, H₁, i₁, S₁, rfl, rfl⟩ := z
    obtain rfl := is_raw i₁
    refine wpAny_pure ?_
    rw [hp]
    refine wpAny_mono (hhi.run s₁ S₁) (fun vi s₂ z => ?_) fun _ _ z => ?_
    · obtain ⟨t₂, d₂, H₂, i₂, S₂, rfl, rfl⟩ := z
      obtain ⟨u, rfl⟩ := is_int i₂
      obtain ⟨o, eo⟩ := hl
      refine e2a5 (S₂.rep.list eo) fun us n g c1 c2 c3 ja => ?_
      have hlen : us.length = ds.length := ja.length
      refine ⟨a, us.toArray, none, some i, rfl, ⟨o, g, c1, n, c3⟩, by rw [List.size_toArray, hlen]; exact hsz, .none, .int i u, ?_⟩
      have gr : Grow s₂.heap ((s₂.heap.push { cls := .type "slice", data := .fields #[.none, .int i u, .none] }).push { cls := .type "list", data := .seq (slicePick us.toArray none (some i) none) }) := (Grow.push _ _).trans (Grow.push _ _)
      have e1 : slicePick us.toArray none (some i) none = (us.take k).toArray := hk us hlen
      have g2 : ((s₂.heap.push { cls := .type "slice", data := .fields #[.none, .int i u, .none] }).push { cls := .type "list", data := .seq (slicePick us.toArray none (some i) none) }).get? (s₂.heap.objs.size + 1) = some { cls := .type "list", data := .seq (slicePick us.toArray none (some i) none) } := by
        have := Heap.get?_push_size (s₂.heap.push { cls := .type "slice", data := .fields #[.none, .int i u, .none] }) (o := { cls := .type "list", data := .seq (slicePick us.toArray none (some i) none) }) rfl
        rwa [Heap.size_push] at this
      have fresh : s₂.heap.get? (s₂.heap.objs.size + 1) = none := by
        cases q : s₂.heap.get? (s₂.heap.objs.size + 1) with
        | none => rfl
        | some o => exact absurd (Heap.lt_size q) (Nat.not_lt.mpr (Nat.le_succ _))
      refine ⟨t₁.trans (t₂.trans gr.tk), .ref _, _, mk_raw, S₂.alloc (x := ⟨_, .list (ds.take k)⟩) gr rfl rfl fresh (Nat.lt_succ_of_lt (S₂.sizeBig K)) ⟨g2, us.take k, ⟨_, _, g2, rfl, rfl, by rw [e1]⟩, (ja.take _).tk gr.tk⟩, q _ _ (S₂.apartOf fresh).1⟩
    · refine e3a4 z fun _ _ _ _ _ _ rq160 => ?_; clear z; have z := rq160; clear rq160; exact z.elim
  · refine e3a4 z fun _ _ _ _ _ _ rq161 => ?_; clear z; have z := rq161; clear rq161; exact z.elim
theorem Ev_lslice_ns {value hi : Expr} {p p' : Pos} {a : Addr} {ds : List V} {i : Int} (K : CxOk c) (hv : Pe c f value m H (.ref a)) (hhi : Pe c f hi m H (.int i)) (hl : ListAt H a ds) (hi0 : 0 ≤ i) (hsz : ds.length ≤ sizeLine)
    (q : ∀ b o, H b = none → Q (.ref b) (H.set b ⟨o, .list (ds.take i.toNat)⟩)) (ht : ∀ o r, letTemporaryGo value o r = pure () := by intro _ _; rfl) (hp : evalPart (some hi) f.env = eval hi f.env := by rfl) :
    Ev c f (.Subscript value (.Slice none (some hi) none p) p') m H Q X :=
  Ev_lsliceT K hv hhi hl (fun us hlen => by
    have := slicePick_upto' us.toArray i.toNat
    rw [Int.toNat_of_nonneg hi0] at this
    exact this) hsz q ht hp
end
end Mine
set_option maxRecDepth 100000
set_option linter.unusedVariables false
namespace Mine
open PySem PySem.W PyProof.Rows PySem.F
section
variable {c : Cx} {f : Fx} {m : Loc} {H : AH} {X : Value → AH → Prop}
end
end Mine
set_option maxRecDepth 100000
set_option linter.unusedVariables false
namespace Mine
open PySem PyProof.Rows PySem.Builtin PySem.Builtin.Str PySem.Calls
section
variable {c : Cx} {f : Fx} {m : Loc} {H : AH}
end
end Mine
set_option maxRecDepth 100000
set_option linter.unusedVariables false
namespace Mine
open PySem
def nums (n : Nat) : List Int := (List.range n).map fun j : Nat => (j : Int)
def dn (n m : Nat) : List Int := (List.range (m + 1)).map fun j : Nat => (n : Int) - (j : Int)
structure Line (kb : List (Int × V)) (n : Nat) : Prop where
  key : ∀ v, Key kb v ↔ 0 ≤ v ∧ v ≤ n
  root : dget kb 0 = some .none
  step : ∀ j : Nat, j < n → dget kb ((j : Int) + 1) = some (.int j)
end Mine
set_option maxRecDepth 100000
set_option linter.unusedVariables false
namespace Mine
open PySem PyProof.Rows PySem.Builtin PySem.W PySem.Calls
theorem entry_unchain : entryFor table "proto.unchain" = some Builtin.«proto.unchain» := entryFor_of_fast (by kernel_rfl)
section
variable {prog : Program} {w : World} {A : Around} {E : Value → Shared → Prop} {s : Shared} {env : Env}
theorem raiseNew_over {α : Type} {e h : Addr} {oe oh : Obj} {ve vh : Array Value} {Q : α → Shared → Prop} (hh : A.handled = some (.ref h)) (hne : h ≠ e) (ho : s.heap.get? h = some oh) (hd : oh.data = .fields vh) (h2 : vh[2]? = some .none) (eo : s.heap.get? e = some oe) (ed : oe.data = .fields ve) (es : 2 < ve.size)
    (hE : E (.ref e) { s with heap := s.heap.update e (Obj.mapFields (·.setIfInBounds 2 (.ref h))) }) : wpAny (model prog w) A (raiseNew (.ref e) : Sem α) Q E s := by
  unfold raiseNew
  refine wpAny_bind (wpAny_handled ?_)
  rw [hh]
  have hb : (Value.ref h != Value.ref e) = true := by simpa using hne
  dsimp only
  rw [if_pos hb]
  refine wpAny_bind (wpAny_holding (wpAny_runValue (codeAny_builtin entry_unchain ?_)))
  unfold Builtin.«proto.unchain»
  refine wpAny_bind (wpAny_field ho hd h2 ?_)
  rw [if_pos (by decide)]
  refine wpAny_pure ?_
  refine wpAny_bind (m := setField (.ref e) 2 (.ref h)) (wpAny_setField eo ed es (wpAny_throw hE))
variable {nm q : Str} {C N : Addr} {bs bm bmB : List Value} {hdct : Bool} {sn : List Str} {sub : List Value} {ab : Bool} {col : Option Bool} {dd : Option Addr} {k0 k1 k2 k3 k5 : Option Value} {B newId initId : String}
theorem raise_over (F : ExcBaseFacts B newId initId bmB) {mN : Str → Option Value} {x : Str} {np cpos pos : Pos} {args : List Expr} {Q : Flow → Shared → Prop} {h : Addr}
    (hbase : bm.contains (.type "BaseException") = true) (hh : A.handled = some (.ref h)) (hplain : (backTo cpos (starEach args env)).any (·.1) = false) (hni : mN "__init__" = none)
    (hx : wpAny (model prog w) A (eval (.Name x np) env) (fun f s₁ => f = .ref C ∧ wpAny (model prog w) A (evalArgs (.ref C) true (backTo cpos (starEach args env)) [])
      (fun a s₂ => a.kw = [] ∧ a.pos.length ≤ sizeLine ∧ s₂.heap.get? C = some (excClassObj nm q C N bs bm hdct sn sub ab col dd k0 k1 k2 k3 k5 newId) ∧ s₂.heap.Ns N mN ∧ OwnTail s₂.heap bmB bm ∧
        (∃ oh vh, s₂.heap.get? h = some oh ∧ oh.data = .fields vh ∧ vh[2]? = some .none) ∧
        ∀ h' e, Heap.MadeExcOf s₂.heap h' e (.ref C) a.pos → E (.ref e) { s₂ with heap := h'.update e (Obj.mapFields (·.setIfInBounds 2 (.ref h))) }) E s₁) E s) :
    wpAny (model prog w) A (exec (.Raise (some (.Call (.Name x np) args [] cpos)) none pos) env) Q E s := by
  have hcB : (Value.ref C :: bm).contains (.type "BaseException") = true := by rw [List.contains_cons, hbase, Bool.or_true]
  rw [arm_exec_Raise]
  refine wpAny_bind (wpAny_standAt ?_)
  simp only [evalOpt, Option.map]
  unfold raiseStmt
  refine wpAny_bind (wpAny_bind (wpAny_mono (wpAny_Call_ofName (wpAny_mono hx (fun f s₁ h₁ => ?_) fun _ _ x => x)) (fun v s₃ h₃ => wpAny_bind (wpAny_standAt (wpAny_pure h₃))) fun _ _ x => x))
  obtain ⟨rfl, h₁⟩ := h₁
  unfold callWith
  refine wpAny_bind (wpAny_holding (wpAny_mono h₁ (fun a s₂ h₂ => wpAny_bind (wpAny_standAt ?_)) fun _ _ x => x))
  obtain ⟨apos, akw⟩ := a
  refine e0a7 h₂ fun hkw hlen hC hn T rq162 rq163 => ?_; clear h₂; have h₂ := rq163; clear rq163; obtain ⟨oh, vh, q1, q2, q3⟩ := rq162
  obtain rfl : akw = [] := hkw
  obtain ⟨hp, g, d, tk, os⟩ := s₂
  simp only [hplain]
  refine wpAny_bind (wpAny_keeperOf_exc hC ?_)
  refine wpAny_bind (wpAny_call_exc_subT (hrest := hlen) F T hC hn hni fun h' e hm => wpAny_bind (wpAny_holding (wpAny_point (wpAny_pure ?_))))
  refine e1a3 (hm.there) fun t ht _ _ => ?_
  have hC' := hm.keeps _ _ hC
  repeat (first | with_reducible refine wpAny_loadPart_at ht ?_ | with_reducible refine wpAny_loadPart_at hC' ?_ | (with_reducible refine wpAny_isSubtype_exc hC' ?_; rw [hcB]) | wp_step)
  exact raiseNew_over hh (fun z => by subst z; rw [hm.new] at q1; cases q1) (hm.keeps _ _ q1) q2 q3 ht rfl (by show 2 < 6; decide) (h₂ h' e hm)
end
section
variable {c : Cx} {f : Fx} {m : Loc} {H : AH}
theorem Hd_raise {K : Frag} (KX : K.In c.base) (OF : FrOk f) {e : Addr} {C : Value} {t ex : Expr} {x : Str} {np cpos rpos pos : Pos} {rest : List ExceptHandler} {d d2 : V} {Q : Ko} {C2 : Addr} {bmB : List Value} {B newId initId : String} (KO : CxOk c)
    (ht : ∀ kp, Pe c (fk f e kp) t m H d) (hm : Mt K C d true) (hcl : ¬ Dirty C) (O : OwnCls x C2 bmB newId c.mg c.base) (FB : ExcBaseFacts B newId initId bmB) (hdt : Dirty (.ref C2)) (hh : f.A.handled = none) (he : ∀ kp, Pe c (fk f e kp) ex m H d2) (q : Q (.exc (.ref C2)) m H)
    (hg : f.env.globals = mainGlobals := by rfl) (hb : f.env.builtins = builtinsNs := by rfl) (hk : f.env.scope.kind = .function := by rfl) (hn : f.env.kindOf x = some .globalImplicit := by rfl) (hd : (x == ("__debug__" : Str)) = false := by decide) (hst : starEach [ex] f.env = (false, eval ex f.env) :: starEach [] f.env := by rfl) :
    Hd c f e C (.ExceptHandler (some t) none [.Raise (some (.Call (.Name x np) [ex] [] cpos)) none rpos] pos :: rest) m H Q := .mk fun s S F => by
  refine wpAny_handleBy_cons (clause_test KX ht hm S F fun s' S' F' => ?_) (by intro q; cases q)
  refine codeAny_handlers_suite (flight_ok (f := f.marked e) (fr := none) (St.marked S' e) F' fun s₂ S₂ F₂ => ?_)
  obtain ⟨⟨n1, n2⟩, oe, vs, T, oT, ts, a1, a2, a3, a4, a5, a6, a7, a8, a9, a10⟩ := F₂
  have S₂' : St c (fk f e ((e, oe) :: f.keep)) m H s₂ := S₂.unmarked.around fun p hp => by
    rcases List.mem_cons.mp hp with rfl | hp
    · exact .inr ⟨a1, vs, a3⟩
    · exact .inl hp
  have a42 := a4.2.resolve_right hcl
  refine e17a4 (O.obj) fun tl N nm qn bs hdct sn sub ab col dd k0 k1 k2 k3 k5 mN hC hN hni TT => ?_
  refine wpAny_execs_cons (raise_over (C := C2) (nm := nm) (q := qn) (N := N) (bs := bs) (bm := tl) (hdct := hdct) (sn := sn) (sub := sub) (ab := ab) (col := col) (dd := dd) (k0 := k0) (k1 := k1) (k2 := k2) (k3 := k3) (k5 := k5)
    FB (mN := mN) (h := e) (TT.hasType FB.hasBase) (by show (some (Value.ref e)).or f.A.handled = _; rfl) (by rw [hst]; rfl) hni ?_)
  refine wpAny_mono ((Pe_glob (f := fk f e ((e, oe) :: f.keep)) (p := np) (m := m) (H := H) KO (.inl O.bound) hg hb hk hn hd) s₂ S₂') (fun v s₃ z => ?_) fun _ _ ⟨_, _, _, _, _, _, z⟩ => z.elim
  obtain ⟨t₁, d₁, H₁, i₁, S₃, rfl, rfl⟩ := z
  obtain rfl := is_raw i₁
  refine ⟨rfl, ?_⟩
  have ev := (Pes_cons (he ((e, oe) :: f.keep)) Pes_nil hst) cpos s₃ S₃
  rw [hst] at ev ⊢
  refine Calls.evalArgs_plain (wpAny_mono ev (fun vs' s₄ z => ?_) fun _ _ ⟨_, _, _, _, _, _, z⟩ => z.elim)
  obtain ⟨t₂, ds, H₂, i₂, S₄, rfl, rfl⟩ := z
  have hl := i₂.length
  have ge := (S₄.kp (e, oe) (.head _)).1
  refine ⟨rfl, by rw [hl]; show 1 ≤ sizeLine; decide, S₄.base _ _ hC, hN.keeps S₄.base, TT.keeps S₄.base, ⟨oe, vs, ge, a3, a42⟩, fun h' e' M => ?_⟩
  have gr : Grow s₄.heap h' := M.keeps
  refine e1a3 (M.there) fun t g1 g2 g3 => ?_
  have S₅ := S₄.grow (s' := { s₄ with heap := h' }) gr rfl rfl
  have ne1 : f.hE.get? e' = none := S₄.old M.new
  have ne2 : ∀ p ∈ ((e, oe) :: f.keep), e' ≠ p.1 := fun p hp z => by
    have := (S₄.kp p hp).1
    rw [← z, M.new] at this; cases this
  obtain ⟨S₆, _⟩ := S₅.recd (s' := { s₄ with heap := h'.update e' (Obj.mapFields (·.setIfInBounds 2 (Value.ref e))) }) g1 rfl ne1 ne2 (Heap.SameBut.update ..).extBut rfl rfl
  have hd₃ := Obj.data_mapFields (o := { cls := .ref C2, data := .fields #[.ref t, .none, .none, .none, .bool false, .none] }) rfl (·.setIfInBounds 2 (Value.ref e))
  have he₃ := Heap.get?_update_self (Obj.mapFields (·.setIfInBounds 2 (Value.ref e))) g1 (Obj.isFreed_of_fields hd₃)
  have S₇ : St c (f.marked e) m _ _ := St.back_around S₆ fun p hp => .tail _ hp
  have FL : Fly (f.marked e) e' (.ref C2) (h'.update e' (Obj.mapFields (·.setIfInBounds 2 (Value.ref e)))) := ⟨⟨ne1, fun p hp => ne2 p (.tail _ hp)⟩, _, _, he₃, rfl, hd₃, ⟨by simp, .inr hdt⟩, .inl (by simp)⟩
  have OM : FrOk (f.marked e) := ⟨OF.frames, OF.head, OF.frame, OF.kind⟩
  refine noted_ok OM S₇ FL fun s₈ S₈ F₈ => ?_
  exact cameBack_ok OF S₈.unmarked F₈ fun s₉ S₉ F₉ => ⟨.ref C2, m, _, e', rfl, S₉, F₉, q⟩
end
end Mine
set_option maxRecDepth 100000
set_option linter.unusedVariables false
namespace Mine
open PySem
def Fit (t g : List Nat) (a : Int) : Prop := 0 ≤ a ∧ a ≤ t.length ∧ (t.take (a + g.length).toNat).drop a.toNat = g
inductive TextOf (rs : List (Int × V)) : Int → List Nat → Prop
  | root {k : Int} {l : List Nat} : dget rs k = some (.tup [.none, .s l]) → TextOf rs k l
  | lean {k b a : Int} {g e t : List Nat} : dget rs k = some (.tup [.int b, chg a g e]) → TextOf rs b t → Fit t g a → TextOf rs k (t.take a.toNat ++ e ++ t.drop (a + g.length).toNat)
structure RowsOk (rs : List (Int × V)) (b : Int) : Prop where
  up : (rs.map (·.1)).Pairwise (· < ·)
  pos : ∀ k ∈ rs.map (·.1), 0 ≤ k
  ch : ∀ k, Key rs k → ∃ xs, IsChain (bases rs) k xs ∧ (xs.length : Int) ≤ b + 1
  tx : ∀ k, Key rs k → ∃ t, TextOf rs k t
def EntOk (d : V) : Prop := (∃ l, d = .tup [.none, .s l] ∧ l.length ≤ 700) ∨ ∃ b a g e, d = .tup [.int b, chg a g e] ∧ g.length ≤ 700 ∧ e.length ≤ 700
theorem nd_of_up {l : List Int} (h : l.Pairwise (· < ·)) : l.Nodup := h.imp fun h => Int.ne_of_lt h
theorem RowsOk.get {rs : List (Int × V)} {b k : Int} {d : V} (G : RowsOk rs b) (h : (k, d) ∈ rs) : dget rs k = some d := dget_of_mem (nd_of_up G.up) h
theorem RowsOk.base {rs : List (Int × V)} {b k : Int} {d : V} (G : RowsOk rs b) (h : (k, d) ∈ rs) : dget (bases rs) k = some (base0 d) := by rw [dget_bases, G.get h]; rfl
theorem no_twice {pre suf : List (Int × V)} {p q : Int × V} {b : Int} (h : q.1 ≤ p.1) : ¬ RowsOk (pre ++ p :: q :: suf) b := fun G => by
  have h1 := G.up
  rw [List.map_append, List.pairwise_append] at h1
  have h2 := h1.2.1
  rw [List.map_cons, List.map_cons, List.pairwise_cons] at h2
  have := h2.1 q.1 (.head _)
  exact om77 h this
theorem no_neg {rs : List (Int × V)} {p : Int × V} {b : Int} (h : p.1 < 0) : ¬ RowsOk (p :: rs) b := fun G => by
  have := G.pos p.1 (.head _)
  exact om78 h this
theorem RowsOk.no_self {rs : List (Int × V)} {b n : Int} {d : V} (G : RowsOk rs b) (h : (n, d) ∈ rs) (hd : base0 d = .int n) : False := by
  refine e1a2 (G.ch n ⟨d, G.get h⟩) fun xs hx _ => ?_
  have e := G.base h
  rw [hd] at e
  have nd := hx.nodup
  cases hx with
  | stop q => rw [e] at q; cases q
  | step q r =>
    rw [e] at q; cases q
    obtain ⟨r', hr⟩ := r.head
    rw [hr, List.nodup_cons] at nd
    exact nd.1 (.head _)
theorem RowsOk.no_base {rs : List (Int × V)} {b n m : Int} {d : V} (G : RowsOk rs b) (h : (n, d) ∈ rs) (hd : base0 d = .int m) (hm : ¬ Key rs m) : False := by
  refine e1a2 (G.ch n ⟨d, G.get h⟩) fun xs hx _ => ?_
  have e := G.base h
  rw [hd] at e
  cases hx with
  | stop q => rw [e] at q; cases q
  | step q r =>
    rw [e] at q; cases q
    obtain ⟨r', hr⟩ := r.head
    exact hm (key_bases.mp (r.keys m (by rw [hr]; exact .head _)))
theorem RowsOk.no_ring {rs : List (Int × V)} {b n m : Int} {d d' : V} (G : RowsOk rs b) (h : (n, d) ∈ rs) (hd : base0 d = .int m) (h' : (m, d') ∈ rs) (hd' : base0 d' = .int n) : False := by
  refine e1a2 (G.ch n ⟨d, G.get h⟩) fun xs hx _ => ?_
  have e := G.base h
  rw [hd] at e
  have e' := G.base h'
  rw [hd'] at e'
  have nd := hx.nodup
  cases hx with
  | stop q => rw [e] at q; cases q
  | step q r =>
    rw [e] at q; cases q
    cases r with
    | stop q => rw [e'] at q; cases q
    | step q r =>
      rw [e'] at q; cases q
      obtain ⟨r', hr⟩ := r.head
      rw [hr, List.nodup_cons] at nd
      exact nd.1 (.tail _ (.head _))
theorem RowsOk.no_text {rs : List (Int × V)} {b n m a : Int} {g e : List Nat} (G : RowsOk rs b) (h : (n, .tup [.int m, chg a g e]) ∈ rs) (hf : ∀ t, TextOf rs m t → ¬ Fit t g a) : False := by
  obtain ⟨t, ht⟩ := G.tx n ⟨_, G.get h⟩
  have q := G.get h
  cases ht with
  | root e => rw [q] at e; cases e
  | lean e ht hfit => rw [q] at e; cases e; exact hf _ ht hfit
theorem RowsOk.no_long {rs : List (Int × V)} {b n : Int} {xs : List Int} (G : RowsOk rs b) (hx : IsChain (bases rs) n xs) (hl : b + 1 < (xs.length : Int)) : False := by
  obtain ⟨r, hr⟩ := hx.head
  refine e1a2 (G.ch n (key_bases.mp (hx.keys n (by rw [hr]; exact .head _)))) fun ys hy h => ?_
  rw [hy.uniq hx] at h
  exact om79 hl h
theorem TextOf.eq {rs rs' : List (Int × V)} {tx : Int → List Nat} {rk : Int → Nat} (E : Held rs tx rk) {S : Int → Prop} (ag : ∀ y, S y → dget rs' y = dget rs y) (dn : ∀ y b d, S y → dget rs y = some d → base0 d = .int b → S b) {y : Int} {t : List Nat} (h : TextOf rs' y t) : S y → t = tx y := by
  induction h with
  | @root k l e =>
    intro s
    rw [ag k s] at e
    cases E.ent k _ e with
    | root => rfl
  | @lean k b a g e' t e ht hf ih =>
    intro s
    rw [ag k s] at e
    have sb := dn k b _ s e rfl
    rw [ih sb]
    cases E.ent k _ e with
    | lean b a gone come hb hlt st => exact st.new.symm
theorem cut {rs : List (Int × V)} {i : Nat} {p : Int × V} (h : rs[i]? = some p) : rs = rs.take i ++ p :: rs.drop (i + 1) := by
  obtain ⟨hi, e⟩ := List.getElem?_eq_some_iff.mp h
  rw [← e, ← List.drop_eq_getElem_cons hi, List.take_append_drop]
theorem cut_keys {rs : List (Int × V)} {i : Nat} {p : Int × V} (h : rs[i]? = some p) (d : V) : (rs.take i ++ (p.1, d) :: rs.drop (i + 1)).map (·.1) = rs.map (·.1) := by
  have := congrArg (List.map (·.1)) (cut h)
  rw [this]; simp
theorem bad_lean {rs : List (Int × V)} {tx : Int → List Nat} {rk : Int → Nat} (E : Held rs tx rk) {i : Nat} {n m a a' b : Int} {g e g' e' : List Nat} (h : rs[i]? = some (n, .tup [.int m, chg a g e])) (hb : ¬ Fit (tx m) g' a') : ¬ RowsOk (rs.take i ++ (n, .tup [.int m, chg a' g' e']) :: rs.drop (i + 1)) b := fun G => by
  have hm := List.mem_of_getElem? h
  have hg := dget_of_mem E.nd hm
  have hlt : rk m < rk n := by
    cases E.ent n _ hg with
    | lean b a gone come hb hlt st => exact hlt
  have hk : Key rs m := by
    cases E.ent n _ hg with
    | lean b a gone come hb hlt st => exact hb
  refine G.no_text (n := n) (m := m) (a := a') (g := g') (e := e') (List.mem_append.mpr (.inr (.head _))) fun t ht hf => ?_
  have := TextOf.eq (S := fun y => Key rs y ∧ rk y < rk n) E (fun y s => ?_) (fun y b d s q hb => ?_) ht ⟨hk, hlt⟩
  · rw [this] at hf; exact hb hf
  · obtain ⟨⟨d, hd⟩, hy⟩ := s
    have mm := dget_mem hd
    rw [cut h] at mm
    rw [hd]
    refine G.get ?_
    rcases List.mem_append.mp mm with mm | mm
    · exact List.mem_append.mpr (.inl mm)
    · cases mm with
      | head => exact absurd hy (Nat.lt_irrefl _)
      | tail _ mm => exact List.mem_append.mpr (.inr (.tail _ mm))
  · cases E.ent y _ q with
    | root => cases hb
    | lean b' a gone come hb' hlt' st => cases hb; exact ⟨hb', Nat.lt_trans hlt' s.2⟩
theorem bad_more {rs : List (Int × V)} {tx : Int → List Nat} {rk : Int → Nat} (E : Held rs tx rk) {n more a b : Int} {g e : List Nat} (hk : Key rs n) (hb : ¬ Fit (tx n) g a) : ¬ RowsOk (rs ++ [(more, .tup [.int n, chg a g e])]) b := fun G => by
  refine G.no_text (n := more) (m := n) (a := a) (g := g) (e := e) (List.mem_append.mpr (.inr (.head _))) fun t ht hf => ?_
  have := TextOf.eq (S := fun y => Key rs y) E (fun y s => ?_) (fun y b d s q hb => ?_) ht hk
  · rw [this] at hf; exact hb hf
  · obtain ⟨d, hd⟩ := s
    rw [hd]
    exact G.get (List.mem_append.mpr (.inl (dget_mem hd)))
  · cases E.ent y _ q with
    | root => cases hb
    | lean b' a gone come hb' hlt' st => cases hb; exact hb'
theorem bad_gone {rs : List (Int × V)} {tx : Int → List Nat} {rk : Int → Nat} (E : Held rs tx rk) {n m b : Int} {d : V} (h : (n, d) ∈ rs) (hd : base0 d = .int m) : ¬ RowsOk (rs.filter fun p => !decide (p.1 = m)) b := fun G => by
  have hg := dget_of_mem E.nd h
  have hne : n ≠ m := fun q => by
    cases E.ent n _ hg with
    | root => cases hd
    | lean b a gone come hb hlt st => cases hd; rw [q] at hlt; exact absurd hlt (Nat.lt_irrefl _)
  refine G.no_base (n := n) (m := m) (List.mem_filter.mpr ⟨h, by simpa using hne⟩) hd fun hk => ?_
  rw [key_iff, List.mem_map] at hk
  refine e1a2 hk fun p hp e => ?_; clear hk
  have := (List.mem_filter.mp hp).2
  simp [e] at this
theorem IsChain.few_rows {rs : List (Int × V)} {k : Int} {xs : List Int} (h : IsChain (bases rs) k xs) : xs.length ≤ rs.length := by
  have := nodup_le h.nodup fun x hx => key_iff.mp (key_bases.mp (h.keys x hx))
  rwa [List.length_map] at this
def rowV (p : Int × V) : V := .tup [.int p.1, base0 p.2, body0 p.2]
theorem rowsOf_eq (kvs : List (Int × V)) (srt : List Int) : rowsOf kvs srt = (heldOf kvs srt).map rowV := by unfold rowsOf heldOf; rw [List.map_map]; rfl
end Mine
set_option maxRecDepth 100000
set_option linter.unusedVariables false
namespace Mine
open PySem PyProof.Rows PySem.Builtin PySem.W PySem.F
section
variable {c : Cx} {f : Fx} {m : Loc} {H : AH} {X : Value → AH → Prop} {Q : V → AH → Prop}
def El (c : Cx) (f : Fx) (e : Expr) (m : Loc) (H : AH) (L : List V) : Prop := ∀ X, Ev c f e m H (fun d H' => ∃ a, d = .ref a ∧ Ext H H' ∧ H a = none ∧ ListAt H' a L) X
theorem El.ev {e : Expr} {L : List V} (h : El c f e m H L) (q : ∀ a H', Ext H H' → H a = none → ListAt H' a L → Q (.ref a) H') : Ev c f e m H Q X :=
  Ev.mono (h X) (fun d H' ⟨a, e, x, n, l⟩ => e ▸ q a H' x n l) fun _ _ z => z
theorem El_take {value hi : Expr} {p p' : Pos} {a : Addr} {ds : List V} {i : Int} {k : Nat} (K : CxOk c) (hv : Pe c f value m H (.ref a)) (hhi : Pe c f hi m H (.int i)) (hl : ListAt H a ds) (hi0 : i = (k : Int)) (hsz : ds.length ≤ sizeLine)
    (ht : ∀ o r, letTemporaryGo value o r = pure () := by intro _ _; rfl) (hp : evalPart (some hi) f.env = eval hi f.env := by rfl) : El c f (.Subscript value (.Slice none (some hi) none p) p') m H (ds.take k) := fun X =>
  Ev_lslice_ns K hv hhi hl (by exact om80 hi0) hsz (fun b o hb => by subst hi0; exact ⟨b, rfl, Ext.set (Ext.refl _) hb, hb, ListAt.same _ _ _ _⟩) ht hp
theorem El_drop {value lo : Expr} {p p' : Pos} {a : Addr} {ds : List V} {i : Int} {k : Nat} (K : CxOk c) (hv : Pe c f value m H (.ref a)) (hlo : Pe c f lo m H (.int i)) (hl : ListAt H a ds) (hi0 : i = (k : Int)) (hi1 : k ≤ ds.length) (hsz : ds.length ≤ sizeLine)
    (ht : ∀ o r, letTemporaryGo value o r = pure () := by intro _ _; rfl) (hp : evalPart (some lo) f.env = eval lo f.env := by rfl) : El c f (.Subscript value (.Slice (some lo) none none p) p') m H (ds.drop k) := fun X =>
  Ev_lslice_sn K hv hlo hl (by exact om80 hi0) (by exact om81 hi0 hi1) hsz (fun b o hb => by subst hi0; exact ⟨b, rfl, Ext.set (Ext.refl _) hb, hb, ListAt.same _ _ _ _⟩) ht hp
theorem El_disp {es : List Expr} {p : Pos} {ds : List V} (K : CxOk c) (h : Pes c f es m H ds) (hsz : ds.length ≤ sizeLine) : El c f (.List es p) m H ds := fun X =>
  Ev_list K (Pes.evs h ⟨hsz, fun a o ha => ⟨a, rfl, Ext.set (Ext.refl _) ha, ha, ListAt.same _ _ _ _⟩⟩)
theorem El_cat {e1 e2 : Expr} {p : Pos} {L1 L2 : List V} (K : CxOk c) (h1 : El c f e1 m H L1) (h2 : ∀ H', Ext H H' → El c f e2 m H' L2) (hsz : L1.length + L2.length ≤ sizeLine) : El c f (.BinOp e1 .Add e2 p) m H (L1 ++ L2) := fun X =>
  Ev_bin (h1.ev fun a H1 x1 n1 l1 => (h2 H1 x1).ev fun b H2 x2 n2 l2 => O_addL K (x2.list l1) l2 hsz fun d o hd => ⟨d, rfl, Ext.set (x1.trans x2) hd, (x1.trans x2).none hd, ListAt.same _ _ _ _⟩)
theorem El_catv {e1 e2 : Expr} {p : Pos} {a : Addr} {L1 L2 : List V} (K : CxOk c) (h1 : Pe c f e1 m H (.ref a)) (l1 : ListAt H a L1) (h2 : El c f e2 m H L2) (hsz : L1.length + L2.length ≤ sizeLine) : El c f (.BinOp e1 .Add e2 p) m H (L1 ++ L2) := fun X =>
  Ev_bin (h1.ev (h2.ev fun b H2 x2 n2 l2 => O_addL K (x2.list l1) l2 hsz fun d o hd => ⟨d, rfl, Ext.set x2 hd, x2.none hd, ListAt.same _ _ _ _⟩))
theorem slice_last {l : List Nat} : Txt.slice ⟨l.toArray⟩ (some (-1)) none = ⟨(l.drop (l.length - 1)).toArray⟩ := by
  have e : Txt.slice ⟨l.toArray⟩ (some (-1)) none = Txt.slice ⟨l.toArray⟩ (some ((l.length - 1 : Nat) : Int)) none := by
    unfold Txt.slice
    have : Str.strSliceIndices (some (-1)) none 1 (Str.length ⟨l.toArray⟩) = Str.strSliceIndices (some ((l.length - 1 : Nat) : Int)) none 1 (Str.length ⟨l.toArray⟩) := by
      rw [mk_length]
      unfold Str.strSliceIndices
      simp only [show (1 : Int) > 0 by decide, if_true]
      rw [if_pos (show (-1 : Int) < 0 by decide), if_neg (show ¬ ((l.length - 1 : Nat) : Int) < 0 by exact om82)]
      rw [show max 0 (min (-1 + (l.length : Int)) (l.length : Int)) = max 0 (min ((l.length - 1 : Nat) : Int) (l.length : Int)) by exact om83]
    rw [this]
  rw [e, slice_mk (a := l.length - 1) (b := l.length) (.inr ⟨_, rfl, by exact om84, by exact om85⟩) (.inl ⟨rfl, rfl⟩), List.take_of_length_le (Nat.le_refl _)]
theorem Pe_slice_last {value lo : Expr} {p p' : Pos} {l : List Nat} (hv : Pe c f value m H (.s l)) (hlo : Pe c f lo m H (.int (-1))) (hsz : l.length ≤ sizeLine) :
    Pe c f (.Subscript value (.Slice (some lo) none none p) p') m H (.s (l.drop (l.length - 1))) := .mk fun s S => by
  refine Subscript_ (wpAny_mono (hv s S) (fun vo s₁ z => ?_) fun _ _ x => x)
  obtain ⟨t₁, d₁, H₁, i₁, S₁, rfl, rfl⟩ := z
  obtain ⟨t, rfl⟩ := is_str i₁
  refine wpAny_Slice (wpAny_mono (hlo s₁ S₁) (fun vi s₂ z => ?_) fun _ _ x => x)
  obtain ⟨t₂, d₂, H₂, i₂, S₂, rfl, rfl⟩ := z
  obtain ⟨u, rfl⟩ := is_int i₂
  refine wpAny_pure (wpAny_pure ?_)
  obtain ⟨T, id, hl, hT, h⟩ := SBH.sliceItem_sn (prog := c.prog) (w := c.w) (A := f.A) (E := Thr c f m fun _ _ => False) (s := s₂) (P := Grow s₂.heap) (t := t) (x := ⟨l.toArray⟩) (i := -1) (ui := u) (Q := Good c f m (fun d' H' => d' = .s (l.drop (l.length - 1)) ∧ H' = _) s) keptGrow (Grow.refl _)
    (fun h' t' k g => by rw [slice_last]; exact ⟨t₁.trans (t₂.trans g.tk), _, _, mk_str, S₂.grow (s' := { s₂ with heap := h', toks := k }) g rfl rfl, rfl, rfl⟩) (by rw [mk_length]; exact hsz)
  exact tail_any hT hl h rfl
theorem EntOk.two {d : V} (h : EntOk d) : d = .tup [base0 d, body0 d] := by
  rcases h with ⟨l, rfl, _⟩ | ⟨b, a, g, e, rfl, _, _⟩ <;> rfl
theorem EntOk.alike {k : Int} {d : V} (h : EntOk d) : Alike c H 3 (rowV (k, d)) (rowV (k, d)) := by
  have e : Alike c H 2 (base0 d) (base0 d) ∧ Alike c H 2 (body0 d) (body0 d) := by
    rcases h with ⟨l, rfl, _⟩ | ⟨b, a, g, e, rfl, _, _⟩
    · exact ⟨Alike.none _, Alike.str _ _⟩
    · refine ⟨Alike.int _ _, Alike.up (Alike.tup (n := 0) rfl fun j d₁ d₂ h₁ h₂ => ?_) (by decide)⟩
      rw [h₁] at h₂; cases h₂
      match j, h₁ with
      | 0, h => cases h; exact Alike.int _ _
      | 1, h => cases h; exact Alike.str _ _
      | 2, h => cases h; exact Alike.str _ _
  refine Alike.tup rfl fun j d₁ d₂ h₁ h₂ => ?_
  rw [h₁] at h₂; cases h₂
  match j, h₁ with
  | 0, h => cases h; exact Alike.int _ _
  | 1, h => cases h; exact e.1
  | 2, h => cases h; exact e.2
end
def otherS (l : List Nat) : List Nat := if l = [97] then [98] else [97]
def badC (old : List Nat) (way : Int) : Int × List Nat × List Nat := if way = 5 then (0, old ++ [97], []) else if way = 6 then (0, otherS (old.take 1), []) else if way = 7 then ((old.length : Int) + 1, [], [97]) else (-1, old.drop (old.length - 1), [97])
theorem otherS_ne (l : List Nat) : otherS l ≠ l ∧ (otherS l).length = 1 := by
  unfold otherS
  by_cases h : l = [97]
  · rw [if_pos h, h]; decide
  · rw [if_neg h]; exact ⟨fun q => h q.symm, rfl⟩
theorem badC_no (old : List Nat) (way : Int) : ¬ Fit old (badC old way).2.1 (badC old way).1 := by
  unfold badC
  split
  · rintro rz2; refine e0a3 rz2 fun _ _ h => ?_; clear rz2
    have := congrArg List.length h
    rw [List.length_drop, List.length_take] at this
    simp at this
  split
  · rintro rz3; refine e0a3 rz3 fun _ _ h => ?_; clear rz3
    obtain ⟨h1, h2⟩ := otherS_ne (old.take 1)
    dsimp only at h
    rw [h2] at h
    exact h1 (by simpa using h.symm)
  split
  · rintro ⟨_, h, _⟩; dsimp only at h; exact om86 h
  · rintro ⟨h, _, _⟩; dsimp only at h; exact om87 h
theorem badC_len {old : List Nat} {way : Int} (h : old.length ≤ 600) : (badC old way).2.1.length ≤ 700 ∧ (badC old way).2.2.length ≤ 700 := by
  unfold badC
  split
  · simp; exact om88 h
  split
  · have := (otherS_ne (old.take 1)).2
    dsimp only; rw [this]; simp
  split
  · simp
  · dsimp only; rw [List.length_drop]; simp; exact om89
theorem filter_rangeG {α β : Type} (l : List α) (d0 : α) (p : α → Bool) (g : α → β) : ((List.range l.length).filter fun i => p (l.getD i d0)).map (fun i => g (l.getD i d0)) = (l.filter p).map g := by
  induction l with
  | nil => rfl
  | cons x r ih =>
    rw [List.length_cons, List.range_succ_eq_map, List.filter_cons, List.filter_cons]
    have e : ((List.map Nat.succ (List.range r.length)).filter fun i => p ((x :: r).getD i d0)).map (fun i => g ((x :: r).getD i d0)) = (r.filter p).map g := by
      rw [List.filter_map, List.map_map]; exact ih
    by_cases h : p x = true
    · rw [if_pos (by simpa using h), if_pos h, List.map_cons, List.map_cons, e]; rfl
    · rw [if_neg (by simpa using h), if_neg h, e]
theorem up_last {rs : List (Int × V)} (up : (rs.map (·.1)).Pairwise (· < ·)) {pl : Int × V} (h : rs[rs.length - 1]? = some pl) : ∀ y ∈ rs.map (·.1), y ≤ pl.1 := fun y hy => by
  obtain ⟨j, hj, e⟩ := List.getElem_of_mem hy
  obtain ⟨hi, e2⟩ := List.getElem?_eq_some_iff.mp h
  have lm : (rs.map (·.1)).length = rs.length := List.length_map _
  have e3 : (rs.map (·.1))[rs.length - 1]'(by exact om90 hi lm) = pl.1 := by rw [List.getElem_map, e2]
  by_cases q : j = rs.length - 1
  · subst q; rw [e3] at e; exact om91 e
  · have := List.pairwise_iff_getElem.mp up j (rs.length - 1) hj (by exact om90 hi lm) (by exact om92 hj lm q)
    rw [e, e3] at this; exact om38 this
end Mine
set_option Elab.async false
set_option maxRecDepth 100000
set_option maxHeartbeats 8000000
set_option linter.unusedVariables false
namespace Mine
open PySem PySem.W
def top (i : Nat) : Option Stmt := PySem.Challenge.pw_uf040024_07.main.body[i]?
def inCls (s : Option Stmt) (j : Nat) : Option Stmt := match s with
  | some (.ClassDef _ _ _ body _ _ _ _ _ _ _) => body[j]?
  | _ => none
def fdAt (s : Option Stmt) (qual : Str) (doc pm code : Value) : FuncData := match s with
  | some (.FunctionDef nm args body _ _ _ scope _ _ _) => FuncData.mk nm qual args (.stmts body) scope 3 [] .none .none doc pm none code .none 0
  | _ => default
noncomputable def KK (P : Params) : Frag := [(2, Obj.mk Value.none none (Data.dict #[]) #[]),
 (3, Obj.mk (Value.type "dict") none (Data.dict #[DictEntry.mk (PyData.keyHash P (Str.ofString "__name__")) (Value.str (Str.ofString "__name__") 165) (Value.str (Str.ofString "law_uf040024_07") 545), DictEntry.mk (PyData.keyHash P (Str.ofString "__doc__")) (Value.str (Str.ofString "__doc__") 166) Value.none, DictEntry.mk (PyData.keyHash P (Str.ofString "__package__")) (Value.str (Str.ofString "__package__") 167) Value.none, DictEntry.mk (PyData.keyHash P (Str.ofString "__loader__")) (Value.str (Str.ofString "__loader__") 168) (Value.builtin "__main__.__loader__#opaque"), DictEntry.mk (PyData.keyHash P (Str.ofString "__spec__")) (Value.str (Str.ofString "__spec__") 169) Value.none, DictEntry.mk (PyData.keyHash P (Str.ofString "__annotations__")) (Value.str (Str.ofString "__annotations__") 170) (Value.ref 6), DictEntry.mk (PyData.keyHash P (Str.ofString "__builtins__")) (Value.str (Str.ofString "__builtins__") 171) (Value.ref 4), DictEntry.mk (PyData.keyHash P (Str.ofString "__file__")) (Value.str (Str.ofString "__file__") 173) (Value.str (Str.ofString "/claim/cut.py") 172), DictEntry.mk (PyData.keyHash P (Str.ofString "__cached__")) (Value.str (Str.ofString "__cached__") 174) Value.none, DictEntry.mk (PyData.keyHash P (Str.ofString "_wall")) (Value.str (Str.ofString "_wall") 193) (Value.ref 21), DictEntry.mk (PyData.keyHash P (Str.ofString "PackError")) (Value.str (Str.ofString "PackError") 213) (Value.ref 31), DictEntry.mk (PyData.keyHash P (Str.ofString "BadBound")) (Value.str (Str.ofString "BadBound") 229) (Value.ref 44), DictEntry.mk (PyData.keyHash P (Str.ofString "BadRows")) (Value.str (Str.ofString "BadRows") 245) (Value.ref 56), DictEntry.mk (PyData.keyHash P (Str.ofString "InRing")) (Value.str (Str.ofString "InRing") 261) (Value.ref 68), DictEntry.mk (PyData.keyHash P (Str.ofString "NoFit")) (Value.str (Str.ofString "NoFit") 277) (Value.ref 80), DictEntry.mk (PyData.keyHash P (Str.ofString "NoVersion")) (Value.str (Str.ofString "NoVersion") 293) (Value.ref 92), DictEntry.mk (PyData.keyHash P (Str.ofString "TooFar")) (Value.str (Str.ofString "TooFar") 309) (Value.ref 104), DictEntry.mk (PyData.keyHash P (Str.ofString "done")) (Value.str (Str.ofString "done") 321) (Value.ref 113), DictEntry.mk (PyData.keyHash P (Str.ofString "change_of")) (Value.str (Str.ofString "change_of") 332) (Value.ref 120), DictEntry.mk (PyData.keyHash P (Str.ofString "chain_of")) (Value.str (Str.ofString "chain_of") 343) (Value.ref 127), DictEntry.mk (PyData.keyHash P (Str.ofString "GREATEST")) (Value.str (Str.ofString "GREATEST") 347) (Value.int 1000 346), DictEntry.mk (PyData.keyHash P (Str.ofString "whole")) (Value.str (Str.ofString "whole") 354) (Value.ref 134), DictEntry.mk (PyData.keyHash P (Str.ofString "text_at")) (Value.str (Str.ofString "text_at") 365) (Value.ref 141), DictEntry.mk (PyData.keyHash P (Str.ofString "Pack")) (Value.str (Str.ofString "Pack") 511) (Value.ref 254), DictEntry.mk (PyData.keyHash P (Str.ofString "check_chains")) (Value.str (Str.ofString "check_chains") 524) (Value.ref 265), DictEntry.mk (PyData.keyHash P (Str.ofString "check_changes")) (Value.str (Str.ofString "check_changes") 532) (Value.ref 272), DictEntry.mk (PyData.keyHash P (Str.ofString "opened")) (Value.str (Str.ofString "opened") 544) (Value.ref 279), DictEntry.mk (PyData.keyHash P (Str.ofString "_law_cell_at")) (Value.str (Str.ofString "_law_cell_at") 554) (Value.ref 286), DictEntry.mk (PyData.keyHash P (Str.ofString "_law_sign_by")) (Value.str (Str.ofString "_law_sign_by") 562) (Value.ref 293), DictEntry.mk (PyData.keyHash P (Str.ofString "_law_text_by")) (Value.str (Str.ofString "_law_text_by") 568) (Value.ref 298), DictEntry.mk (PyData.keyHash P (Str.ofString "_law_next_text")) (Value.str (Str.ofString "_law_next_text") 579) (Value.ref 305), DictEntry.mk (PyData.keyHash P (Str.ofString "_law_change_of")) (Value.str (Str.ofString "_law_change_of") 589) (Value.ref 312), DictEntry.mk (PyData.keyHash P (Str.ofString "_law_wide_change")) (Value.str (Str.ofString "_law_wide_change") 600) (Value.ref 319), DictEntry.mk (PyData.keyHash P (Str.ofString "_law_names")) (Value.str (Str.ofString "_law_names") 610) (Value.ref 326), DictEntry.mk (PyData.keyHash P (Str.ofString "_law_size")) (Value.str (Str.ofString "_law_size") 617) (Value.ref 333), DictEntry.mk (PyData.keyHash P (Str.ofString "_law_made")) (Value.str (Str.ofString "_law_made") 623) (Value.ref 338), DictEntry.mk (PyData.keyHash P (Str.ofString "_law_rows_of")) (Value.str (Str.ofString "_law_rows_of") 629) (Value.ref 343), DictEntry.mk (PyData.keyHash P (Str.ofString "_law_chain")) (Value.str (Str.ofString "_law_chain") 638) (Value.ref 350), DictEntry.mk (PyData.keyHash P (Str.ofString "_law_longest")) (Value.str (Str.ofString "_law_longest") 644) (Value.ref 355), DictEntry.mk (PyData.keyHash P (Str.ofString "_law_cells")) (Value.str (Str.ofString "_law_cells") 650) (Value.ref 360), DictEntry.mk (PyData.keyHash P (Str.ofString "_law_other_sign")) (Value.str (Str.ofString "_law_other_sign") 657) (Value.ref 367), DictEntry.mk (PyData.keyHash P (Str.ofString "_law_bad_change")) (Value.str (Str.ofString "_law_bad_change") 665) (Value.ref 374), DictEntry.mk (PyData.keyHash P (Str.ofString "_law_spoilt")) (Value.str (Str.ofString "_law_spoilt") 671) (Value.ref 379), DictEntry.mk (PyData.keyHash P (Str.ofString "_law_refused")) (Value.str (Str.ofString "_law_refused") 681) (Value.ref 386), DictEntry.mk (PyData.keyHash P (Str.ofString "law")) (Value.str (Str.ofString "law") 694) (Value.ref 393)] 45) #[]),
 (15, Obj.mk (Value.type "tuple") none (Data.seq #[]) #[]),
 (17, Obj.mk (Value.type "tuple") none (Data.seq #[Value.str (Str.ofString "k") 190]) #[]),
 (18, Obj.mk (Value.type "tuple") none (Data.seq #[]) #[]),
 (20, Obj.mk (Value.type "code") none (Data.fields #[Value.str (Str.ofString "_wall") 187, Value.str (Str.ofString "_wall") 188, Value.str (Str.ofString "/claim/cut.py") 189, Value.int 1 0, Value.int 1 0, Value.int 0 0, Value.int 0 0, Value.int 3 0, Value.ref 15, Value.bool true, Value.int 181 0, Value.ref 16, Value.none, Value.ref 17, Value.ref 18, Value.ref 19, Value.int 191 0, Value.int 1 0, Value.str (Str.ofString "/claim/cut.py") 192]) #[]),
 (21, Obj.mk (Value.type "function") none (Data.func (fdAt (top 0) (Str.ofString "_wall") Value.none (Value.str (Str.ofString "__main__") 164) (Value.ref 20))) #[]),
 (22, Obj.mk (Value.type "tuple") none (Data.seq #[Value.type "ValueError"]) #[]),
 (29, Obj.mk (Value.type "tuple") none (Data.seq #[]) #[]),
 (30, Obj.mk (Value.type "dict") none (Data.dict #[DictEntry.mk (PyData.keyHash P (Str.ofString "__module__")) (Value.str (Str.ofString "__module__") 203) (Value.str (Str.ofString "packdelta.errors") 194), DictEntry.mk (PyData.keyHash P (Str.ofString "__firstlineno__")) (Value.str (Str.ofString "__firstlineno__") 207) (Value.int 5 206), DictEntry.mk (PyData.keyHash P (Str.ofString "__static_attributes__")) (Value.str (Str.ofString "__static_attributes__") 208) (Value.ref 29), DictEntry.mk (PyData.keyHash P (Str.ofString "__weakref__")) (Value.str (Str.ofString "__weakref__") 210) (Value.ref 32), DictEntry.mk (PyData.keyHash P (Str.ofString "__doc__")) (Value.str (Str.ofString "__doc__") 211) Value.none] 3) #[]),
 (31, Obj.mk (Value.type "type") none (Data.cls (ClassData.mk (Str.ofString "PackError") [Value.type "ValueError"] [Value.ref 31, Value.type "ValueError", Value.type "Exception", Value.type "BaseException", Value.type "object"] 30 (Str.ofString "PackError") true [] [Value.ref 44, Value.ref 56, Value.ref 68, Value.ref 80, Value.ref 92, Value.ref 104] false none false)) #[some (Value.ref 22), none, some (Value.str (Str.ofString "PackError") 196), some (Value.str (Str.ofString "PackError") 204), some (Value.builtin "ValueError.__new__"), some (Value.bool true)]),
 (32, Obj.mk (Value.type "getset_descriptor") none (Data.fields #[Value.str (Str.ofString "__weakref__") 209, Value.ref 31, Value.builtin "ExceptionGroup.__weakref__", Value.none]) #[]),
 (35, Obj.mk (Value.type "tuple") none (Data.seq #[Value.ref 31]) #[]),
 (42, Obj.mk (Value.type "tuple") none (Data.seq #[]) #[]),
 (43, Obj.mk (Value.type "dict") none (Data.dict #[DictEntry.mk (PyData.keyHash P (Str.ofString "__module__")) (Value.str (Str.ofString "__module__") 221) (Value.str (Str.ofString "packdelta.errors") 194), DictEntry.mk (PyData.keyHash P (Str.ofString "__firstlineno__")) (Value.str (Str.ofString "__firstlineno__") 225) (Value.int 7 224), DictEntry.mk (PyData.keyHash P (Str.ofString "__static_attributes__")) (Value.str (Str.ofString "__static_attributes__") 226) (Value.ref 42), DictEntry.mk (PyData.keyHash P (Str.ofString "__doc__")) (Value.str (Str.ofString "__doc__") 227) Value.none] 2) #[]),
 (44, Obj.mk (Value.type "type") none (Data.cls (ClassData.mk (Str.ofString "BadBound") [Value.ref 31] [Value.ref 44, Value.ref 31, Value.type "ValueError", Value.type "Exception", Value.type "BaseException", Value.type "object"] 43 (Str.ofString "BadBound") true [] [] false none false)) #[some (Value.ref 35), none, some (Value.str (Str.ofString "BadBound") 214), some (Value.str (Str.ofString "BadBound") 222), some (Value.builtin "ValueError.__new__"), some (Value.bool true)]),
 (47, Obj.mk (Value.type "tuple") none (Data.seq #[Value.ref 31]) #[]),
 (54, Obj.mk (Value.type "tuple") none (Data.seq #[]) #[]),
 (55, Obj.mk (Value.type "dict") none (Data.dict #[DictEntry.mk (PyData.keyHash P (Str.ofString "__module__")) (Value.str (Str.ofString "__module__") 237) (Value.str (Str.ofString "packdelta.errors") 194), DictEntry.mk (PyData.keyHash P (Str.ofString "__firstlineno__")) (Value.str (Str.ofString "__firstlineno__") 241) (Value.int 9 240), DictEntry.mk (PyData.keyHash P (Str.ofString "__static_attributes__")) (Value.str (Str.ofString "__static_attributes__") 242) (Value.ref 54), DictEntry.mk (PyData.keyHash P (Str.ofString "__doc__")) (Value.str (Str.ofString "__doc__") 243) Value.none] 2) #[]),
 (56, Obj.mk (Value.type "type") none (Data.cls (ClassData.mk (Str.ofString "BadRows") [Value.ref 31] [Value.ref 56, Value.ref 31, Value.type "ValueError", Value.type "Exception", Value.type "BaseException", Value.type "object"] 55 (Str.ofString "BadRows") true [] [] false none false)) #[some (Value.ref 47), none, some (Value.str (Str.ofString "BadRows") 230), some (Value.str (Str.ofString "BadRows") 238), some (Value.builtin "ValueError.__new__"), some (Value.bool true)]),
 (59, Obj.mk (Value.type "tuple") none (Data.seq #[Value.ref 31]) #[]),
 (66, Obj.mk (Value.type "tuple") none (Data.seq #[]) #[]),
 (67, Obj.mk (Value.type "dict") none (Data.dict #[DictEntry.mk (PyData.keyHash P (Str.ofString "__module__")) (Value.str (Str.ofString "__module__") 253) (Value.str (Str.ofString "packdelta.errors") 194), DictEntry.mk (PyData.keyHash P (Str.ofString "__firstlineno__")) (Value.str (Str.ofString "__firstlineno__") 257) (Value.int 11 256), DictEntry.mk (PyData.keyHash P (Str.ofString "__static_attributes__")) (Value.str (Str.ofString "__static_attributes__") 258) (Value.ref 66), DictEntry.mk (PyData.keyHash P (Str.ofString "__doc__")) (Value.str (Str.ofString "__doc__") 259) Value.none] 2) #[]),
 (68, Obj.mk (Value.type "type") none (Data.cls (ClassData.mk (Str.ofString "InRing") [Value.ref 31] [Value.ref 68, Value.ref 31, Value.type "ValueError", Value.type "Exception", Value.type "BaseException", Value.type "object"] 67 (Str.ofString "InRing") true [] [] false none false)) #[some (Value.ref 59), none, some (Value.str (Str.ofString "InRing") 246), some (Value.str (Str.ofString "InRing") 254), some (Value.builtin "ValueError.__new__"), some (Value.bool true)]),
 (71, Obj.mk (Value.type "tuple") none (Data.seq #[Value.ref 31]) #[]),
 (78, Obj.mk (Value.type "tuple") none (Data.seq #[]) #[]),
 (79, Obj.mk (Value.type "dict") none (Data.dict #[DictEntry.mk (PyData.keyHash P (Str.ofString "__module__")) (Value.str (Str.ofString "__module__") 269) (Value.str (Str.ofString "packdelta.errors") 194), DictEntry.mk (PyData.keyHash P (Str.ofString "__firstlineno__")) (Value.str (Str.ofString "__firstlineno__") 273) (Value.int 13 272), DictEntry.mk (PyData.keyHash P (Str.ofString "__static_attributes__")) (Value.str (Str.ofString "__static_attributes__") 274) (Value.ref 78), DictEntry.mk (PyData.keyHash P (Str.ofString "__doc__")) (Value.str (Str.ofString "__doc__") 275) Value.none] 2) #[]),
 (80, Obj.mk (Value.type "type") none (Data.cls (ClassData.mk (Str.ofString "NoFit") [Value.ref 31] [Value.ref 80, Value.ref 31, Value.type "ValueError", Value.type "Exception", Value.type "BaseException", Value.type "object"] 79 (Str.ofString "NoFit") true [] [] false none false)) #[some (Value.ref 71), none, some (Value.str (Str.ofString "NoFit") 262), some (Value.str (Str.ofString "NoFit") 270), some (Value.builtin "ValueError.__new__"), some (Value.bool true)]),
 (83, Obj.mk (Value.type "tuple") none (Data.seq #[Value.ref 31]) #[]),
 (90, Obj.mk (Value.type "tuple") none (Data.seq #[]) #[]),
 (91, Obj.mk (Value.type "dict") none (Data.dict #[DictEntry.mk (PyData.keyHash P (Str.ofString "__module__")) (Value.str (Str.ofString "__module__") 285) (Value.str (Str.ofString "packdelta.errors") 194), DictEntry.mk (PyData.keyHash P (Str.ofString "__firstlineno__")) (Value.str (Str.ofString "__firstlineno__") 289) (Value.int 15 288), DictEntry.mk (PyData.keyHash P (Str.ofString "__static_attributes__")) (Value.str (Str.ofString "__static_attributes__") 290) (Value.ref 90), DictEntry.mk (PyData.keyHash P (Str.ofString "__doc__")) (Value.str (Str.ofString "__doc__") 291) Value.none] 2) #[]),
 (92, Obj.mk (Value.type "type") none (Data.cls (ClassData.mk (Str.ofString "NoVersion") [Value.ref 31] [Value.ref 92, Value.ref 31, Value.type "ValueError", Value.type "Exception", Value.type "BaseException", Value.type "object"] 91 (Str.ofString "NoVersion") true [] [] false none false)) #[some (Value.ref 83), none, some (Value.str (Str.ofString "NoVersion") 278), some (Value.str (Str.ofString "NoVersion") 286), some (Value.builtin "ValueError.__new__"), some (Value.bool true)]),
 (95, Obj.mk (Value.type "tuple") none (Data.seq #[Value.ref 31]) #[]),
 (102, Obj.mk (Value.type "tuple") none (Data.seq #[]) #[]),
 (103, Obj.mk (Value.type "dict") none (Data.dict #[DictEntry.mk (PyData.keyHash P (Str.ofString "__module__")) (Value.str (Str.ofString "__module__") 301) (Value.str (Str.ofString "packdelta.errors") 194), DictEntry.mk (PyData.keyHash P (Str.ofString "__firstlineno__")) (Value.str (Str.ofString "__firstlineno__") 305) (Value.int 17 304), DictEntry.mk (PyData.keyHash P (Str.ofString "__static_attributes__")) (Value.str (Str.ofString "__static_attributes__") 306) (Value.ref 102), DictEntry.mk (PyData.keyHash P (Str.ofString "__doc__")) (Value.str (Str.ofString "__doc__") 307) Value.none] 2) #[]),
 (104, Obj.mk (Value.type "type") none (Data.cls (ClassData.mk (Str.ofString "TooFar") [Value.ref 31] [Value.ref 104, Value.ref 31, Value.type "ValueError", Value.type "Exception", Value.type "BaseException", Value.type "object"] 103 (Str.ofString "TooFar") true [] [] false none false)) #[some (Value.ref 95), none, some (Value.str (Str.ofString "TooFar") 294), some (Value.str (Str.ofString "TooFar") 302), some (Value.builtin "ValueError.__new__"), some (Value.bool true)]),
 (107, Obj.mk (Value.type "tuple") none (Data.seq #[]) #[]),
 (109, Obj.mk (Value.type "tuple") none (Data.seq #[Value.str (Str.ofString "text") 315, Value.str (Str.ofString "change") 316, Value.str (Str.ofString "at") 317, Value.str (Str.ofString "gone") 318]) #[]),
 (110, Obj.mk (Value.type "tuple") none (Data.seq #[]) #[]),
 (112, Obj.mk (Value.type "code") none (Data.fields #[Value.str (Str.ofString "done") 312, Value.str (Str.ofString "done") 313, Value.str (Str.ofString "/claim/cut.py") 314, Value.int 20 0, Value.int 2 0, Value.int 0 0, Value.int 0 0, Value.int 3 0, Value.ref 107, Value.bool true, Value.int 181 0, Value.ref 108, Value.none, Value.ref 109, Value.ref 110, Value.ref 111, Value.int 319 0, Value.int 20 0, Value.str (Str.ofString "/claim/cut.py") 320]) #[]),
 (113, Obj.mk (Value.type "function") none (Data.func (fdAt (top 10) (Str.ofString "done") Value.none (Value.str (Str.ofString "packdelta.changes") 310) (Value.ref 112))) #[]),
 (114, Obj.mk (Value.type "tuple") none (Data.seq #[]) #[]),
 (116, Obj.mk (Value.type "tuple") none (Data.seq #[Value.str (Str.ofString "old") 325, Value.str (Str.ofString "new") 326, Value.str (Str.ofString "most") 327, Value.str (Str.ofString "at") 328, Value.str (Str.ofString "end") 329]) #[]),
 (117, Obj.mk (Value.type "tuple") none (Data.seq #[]) #[]),
 (119, Obj.mk (Value.type "code") none (Data.fields #[Value.str (Str.ofString "change_of") 322, Value.str (Str.ofString "change_of") 323, Value.str (Str.ofString "/claim/cut.py") 324, Value.int 26 0, Value.int 2 0, Value.int 0 0, Value.int 0 0, Value.int 3 0, Value.ref 114, Value.bool true, Value.int 181 0, Value.ref 115, Value.none, Value.ref 116, Value.ref 117, Value.ref 118, Value.int 330 0, Value.int 26 0, Value.str (Str.ofString "/claim/cut.py") 331]) #[]),
 (120, Obj.mk (Value.type "function") none (Data.func (fdAt (top 11) (Str.ofString "change_of") Value.none (Value.str (Str.ofString "packdelta.changes") 310) (Value.ref 119))) #[]),
 (121, Obj.mk (Value.type "tuple") none (Data.seq #[]) #[]),
 (123, Obj.mk (Value.type "tuple") none (Data.seq #[Value.str (Str.ofString "bases") 338, Value.str (Str.ofString "number") 339, Value.str (Str.ofString "chain") 340]) #[]),
 (124, Obj.mk (Value.type "tuple") none (Data.seq #[]) #[]),
 (126, Obj.mk (Value.type "code") none (Data.fields #[Value.str (Str.ofString "chain_of") 335, Value.str (Str.ofString "chain_of") 336, Value.str (Str.ofString "/claim/cut.py") 337, Value.int 36 0, Value.int 2 0, Value.int 0 0, Value.int 0 0, Value.int 3 0, Value.ref 121, Value.bool true, Value.int 181 0, Value.ref 122, Value.none, Value.ref 123, Value.ref 124, Value.ref 125, Value.int 341 0, Value.int 36 0, Value.str (Str.ofString "/claim/cut.py") 342]) #[]),
 (127, Obj.mk (Value.type "function") none (Data.func (fdAt (top 13) (Str.ofString "chain_of") Value.none (Value.str (Str.ofString "packdelta.trees") 333) (Value.ref 126))) #[]),
 (128, Obj.mk (Value.type "tuple") none (Data.seq #[]) #[]),
 (130, Obj.mk (Value.type "tuple") none (Data.seq #[Value.str (Str.ofString "thing") 351]) #[]),
 (131, Obj.mk (Value.type "tuple") none (Data.seq #[]) #[]),
 (133, Obj.mk (Value.type "code") none (Data.fields #[Value.str (Str.ofString "whole") 348, Value.str (Str.ofString "whole") 349, Value.str (Str.ofString "/claim/cut.py") 350, Value.int 43 0, Value.int 1 0, Value.int 0 0, Value.int 0 0, Value.int 3 0, Value.ref 128, Value.bool true, Value.int 181 0, Value.ref 129, Value.none, Value.ref 130, Value.ref 131, Value.ref 132, Value.int 352 0, Value.int 43 0, Value.str (Str.ofString "/claim/cut.py") 353]) #[]),
 (134, Obj.mk (Value.type "function") none (Data.func (fdAt (top 16) (Str.ofString "whole") Value.none (Value.str (Str.ofString "packdelta.packs") 344) (Value.ref 133))) #[]),
 (135, Obj.mk (Value.type "tuple") none (Data.seq #[]) #[]),
 (137, Obj.mk (Value.type "tuple") none (Data.seq #[Value.str (Str.ofString "held") 358, Value.str (Str.ofString "number") 359, Value.str (Str.ofString "changes") 360, Value.str (Str.ofString "text") 361, Value.str (Str.ofString "change") 362]) #[]),
 (138, Obj.mk (Value.type "tuple") none (Data.seq #[]) #[]),
 (140, Obj.mk (Value.type "code") none (Data.fields #[Value.str (Str.ofString "text_at") 355, Value.str (Str.ofString "text_at") 356, Value.str (Str.ofString "/claim/cut.py") 357, Value.int 45 0, Value.int 2 0, Value.int 0 0, Value.int 0 0, Value.int 3 0, Value.ref 135, Value.bool true, Value.int 181 0, Value.ref 136, Value.none, Value.ref 137, Value.ref 138, Value.ref 139, Value.int 363 0, Value.int 45 0, Value.str (Str.ofString "/claim/cut.py") 364]) #[]),
 (141, Obj.mk (Value.type "function") none (Data.func (fdAt (top 17) (Str.ofString "text_at") Value.none (Value.str (Str.ofString "packdelta.packs") 344) (Value.ref 140))) #[]),
 (149, Obj.mk (Value.type "tuple") none (Data.seq #[]) #[]),
 (151, Obj.mk (Value.type "tuple") none (Data.seq #[Value.str (Str.ofString "self") 381, Value.str (Str.ofString "bound") 382]) #[]),
 (152, Obj.mk (Value.type "tuple") none (Data.seq #[]) #[]),
 (154, Obj.mk (Value.type "code") none (Data.fields #[Value.str (Str.ofString "__init__") 378, Value.str (Str.ofString "Pack.__init__") 379, Value.str (Str.ofString "/claim/cut.py") 380, Value.int 56 0, Value.int 2 0, Value.int 0 0, Value.int 0 0, Value.int 3 0, Value.ref 149, Value.bool true, Value.int 181 0, Value.ref 150, Value.none, Value.ref 151, Value.ref 152, Value.ref 153, Value.int 383 0, Value.int 56 0, Value.str (Str.ofString "/claim/cut.py") 384]) #[]),
 (155, Obj.mk (Value.type "function") none (Data.func (fdAt (inCls (top 18) 0) (Str.ofString "Pack.__init__") Value.none (Value.str (Str.ofString "packdelta.packs") 344) (Value.ref 154))) #[]),
 (156, Obj.mk (Value.type "tuple") none (Data.seq #[]) #[]),
 (158, Obj.mk (Value.type "tuple") none (Data.seq #[Value.str (Str.ofString "self") 389, Value.str (Str.ofString "number") 390]) #[]),
 (159, Obj.mk (Value.type "tuple") none (Data.seq #[]) #[]),
 (161, Obj.mk (Value.type "code") none (Data.fields #[Value.str (Str.ofString "need") 386, Value.str (Str.ofString "Pack.need") 387, Value.str (Str.ofString "/claim/cut.py") 388, Value.int 63 0, Value.int 2 0, Value.int 0 0, Value.int 0 0, Value.int 3 0, Value.ref 156, Value.bool true, Value.int 181 0, Value.ref 157, Value.none, Value.ref 158, Value.ref 159, Value.ref 160, Value.int 391 0, Value.int 63 0, Value.str (Str.ofString "/claim/cut.py") 392]) #[]),
 (162, Obj.mk (Value.type "function") none (Data.func (fdAt (inCls (top 18) 1) (Str.ofString "Pack.need") Value.none (Value.str (Str.ofString "packdelta.packs") 344) (Value.ref 161))) #[]),
 (163, Obj.mk (Value.type "tuple") none (Data.seq #[]) #[]),
 (165, Obj.mk (Value.type "tuple") none (Data.seq #[Value.str (Str.ofString "self") 397, Value.str (Str.ofString "text") 398, Value.str (Str.ofString "beside") 399]) #[]),
 (166, Obj.mk (Value.type "tuple") none (Data.seq #[]) #[]),
 (168, Obj.mk (Value.type "code") none (Data.fields #[Value.str (Str.ofString "store") 394, Value.str (Str.ofString "Pack.store") 395, Value.str (Str.ofString "/claim/cut.py") 396, Value.int 67 0, Value.int 3 0, Value.int 0 0, Value.int 0 0, Value.int 3 0, Value.ref 163, Value.bool true, Value.int 181 0, Value.ref 164, Value.none, Value.ref 165, Value.ref 166, Value.ref 167, Value.int 400 0, Value.int 67 0, Value.str (Str.ofString "/claim/cut.py") 401]) #[]),
 (169, Obj.mk (Value.type "function") none (Data.func (fdAt (inCls (top 18) 2) (Str.ofString "Pack.store") Value.none (Value.str (Str.ofString "packdelta.packs") 344) (Value.ref 168))) #[]),
 (170, Obj.mk (Value.type "tuple") none (Data.seq #[]) #[]),
 (172, Obj.mk (Value.type "tuple") none (Data.seq #[Value.str (Str.ofString "self") 406, Value.str (Str.ofString "number") 407]) #[]),
 (173, Obj.mk (Value.type "tuple") none (Data.seq #[]) #[]),
 (175, Obj.mk (Value.type "code") none (Data.fields #[Value.str (Str.ofString "read") 403, Value.str (Str.ofString "Pack.read") 404, Value.str (Str.ofString "/claim/cut.py") 405, Value.int 70 0, Value.int 2 0, Value.int 0 0, Value.int 0 0, Value.int 3 0, Value.ref 170, Value.bool true, Value.int 181 0, Value.ref 171, Value.none, Value.ref 172, Value.ref 173, Value.ref 174, Value.int 408 0, Value.int 70 0, Value.str (Str.ofString "/claim/cut.py") 409]) #[]),
 (176, Obj.mk (Value.type "function") none (Data.func (fdAt (inCls (top 18) 3) (Str.ofString "Pack.read") Value.none (Value.str (Str.ofString "packdelta.packs") 344) (Value.ref 175))) #[]),
 (177, Obj.mk (Value.type "tuple") none (Data.seq #[]) #[]),
 (179, Obj.mk (Value.type "tuple") none (Data.seq #[Value.str (Str.ofString "self") 414, Value.str (Str.ofString "number") 415]) #[]),
 (180, Obj.mk (Value.type "tuple") none (Data.seq #[]) #[]),
 (182, Obj.mk (Value.type "code") none (Data.fields #[Value.str (Str.ofString "base") 411, Value.str (Str.ofString "Pack.base") 412, Value.str (Str.ofString "/claim/cut.py") 413, Value.int 74 0, Value.int 2 0, Value.int 0 0, Value.int 0 0, Value.int 3 0, Value.ref 177, Value.bool true, Value.int 181 0, Value.ref 178, Value.none, Value.ref 179, Value.ref 180, Value.ref 181, Value.int 416 0, Value.int 74 0, Value.str (Str.ofString "/claim/cut.py") 417]) #[]),
 (183, Obj.mk (Value.type "function") none (Data.func (fdAt (inCls (top 18) 4) (Str.ofString "Pack.base") Value.none (Value.str (Str.ofString "packdelta.packs") 344) (Value.ref 182))) #[]),
 (184, Obj.mk (Value.type "tuple") none (Data.seq #[]) #[]),
 (186, Obj.mk (Value.type "tuple") none (Data.seq #[Value.str (Str.ofString "self") 422, Value.str (Str.ofString "number") 423]) #[]),
 (187, Obj.mk (Value.type "tuple") none (Data.seq #[]) #[]),
 (189, Obj.mk (Value.type "code") none (Data.fields #[Value.str (Str.ofString "chain") 419, Value.str (Str.ofString "Pack.chain") 420, Value.str (Str.ofString "/claim/cut.py") 421, Value.int 78 0, Value.int 2 0, Value.int 0 0, Value.int 0 0, Value.int 3 0, Value.ref 184, Value.bool true, Value.int 181 0, Value.ref 185, Value.none, Value.ref 186, Value.ref 187, Value.ref 188, Value.int 424 0, Value.int 78 0, Value.str (Str.ofString "/claim/cut.py") 425]) #[]),
 (190, Obj.mk (Value.type "function") none (Data.func (fdAt (inCls (top 18) 5) (Str.ofString "Pack.chain") Value.none (Value.str (Str.ofString "packdelta.packs") 344) (Value.ref 189))) #[]),
 (191, Obj.mk (Value.type "tuple") none (Data.seq #[]) #[]),
 (193, Obj.mk (Value.type "tuple") none (Data.seq #[Value.str (Str.ofString "self") 430]) #[]),
 (194, Obj.mk (Value.type "tuple") none (Data.seq #[]) #[]),
 (196, Obj.mk (Value.type "code") none (Data.fields #[Value.str (Str.ofString "numbers") 427, Value.str (Str.ofString "Pack.numbers") 428, Value.str (Str.ofString "/claim/cut.py") 429, Value.int 82 0, Value.int 1 0, Value.int 0 0, Value.int 0 0, Value.int 3 0, Value.ref 191, Value.bool true, Value.int 181 0, Value.ref 192, Value.none, Value.ref 193, Value.ref 194, Value.ref 195, Value.int 431 0, Value.int 82 0, Value.str (Str.ofString "/claim/cut.py") 432]) #[]),
 (197, Obj.mk (Value.type "function") none (Data.func (fdAt (inCls (top 18) 6) (Str.ofString "Pack.numbers") Value.none (Value.str (Str.ofString "packdelta.packs") 344) (Value.ref 196))) #[]),
 (198, Obj.mk (Value.type "tuple") none (Data.seq #[]) #[]),
 (200, Obj.mk (Value.type "tuple") none (Data.seq #[Value.str (Str.ofString "self") 437, Value.str (Str.ofString "found") 438, Value.str (Str.ofString "number") 439]) #[]),
 (201, Obj.mk (Value.type "tuple") none (Data.seq #[]) #[]),
 (203, Obj.mk (Value.type "code") none (Data.fields #[Value.str (Str.ofString "bases") 434, Value.str (Str.ofString "Pack.bases") 435, Value.str (Str.ofString "/claim/cut.py") 436, Value.int 85 0, Value.int 1 0, Value.int 0 0, Value.int 0 0, Value.int 3 0, Value.ref 198, Value.bool true, Value.int 181 0, Value.ref 199, Value.none, Value.ref 200, Value.ref 201, Value.ref 202, Value.int 440 0, Value.int 85 0, Value.str (Str.ofString "/claim/cut.py") 441]) #[]),
 (204, Obj.mk (Value.type "function") none (Data.func (fdAt (inCls (top 18) 7) (Str.ofString "Pack.bases") Value.none (Value.str (Str.ofString "packdelta.packs") 344) (Value.ref 203))) #[]),
 (205, Obj.mk (Value.type "tuple") none (Data.seq #[]) #[]),
 (208, Obj.mk (Value.type "code") none (Data.fields #[Value.str (Str.ofString "rows") 443, Value.str (Str.ofString "Pack.rows") 444, Value.str (Str.ofString "/claim/cut.py") 445, Value.int 91 0, Value.int 1 0, Value.int 0 0, Value.int 0 0, Value.int 3 0, Value.ref 205, Value.bool true, Value.int 181 0, Value.ref 206, Value.none, Value.none, Value.none, Value.ref 207, Value.int 446 0, Value.int 91 0, Value.str (Str.ofString "/claim/cut.py") 447]) #[]),
 (209, Obj.mk (Value.type "function") none (Data.func (fdAt (inCls (top 18) 8) (Str.ofString "Pack.rows") Value.none (Value.str (Str.ofString "packdelta.packs") 344) (Value.ref 208))) #[]),
 (210, Obj.mk (Value.type "tuple") none (Data.seq #[]) #[]),
 (212, Obj.mk (Value.type "tuple") none (Data.seq #[Value.str (Str.ofString "self") 452]) #[]),
 (213, Obj.mk (Value.type "tuple") none (Data.seq #[]) #[]),
 (215, Obj.mk (Value.type "code") none (Data.fields #[Value.str (Str.ofString "weight") 449, Value.str (Str.ofString "Pack.weight") 450, Value.str (Str.ofString "/claim/cut.py") 451, Value.int 94 0, Value.int 1 0, Value.int 0 0, Value.int 0 0, Value.int 3 0, Value.ref 210, Value.bool true, Value.int 181 0, Value.ref 211, Value.none, Value.ref 212, Value.ref 213, Value.ref 214, Value.int 453 0, Value.int 94 0, Value.str (Str.ofString "/claim/cut.py") 454]) #[]),
 (216, Obj.mk (Value.type "function") none (Data.func (fdAt (inCls (top 18) 9) (Str.ofString "Pack.weight") Value.none (Value.str (Str.ofString "packdelta.packs") 344) (Value.ref 215))) #[]),
 (217, Obj.mk (Value.type "tuple") none (Data.seq #[]) #[]),
 (219, Obj.mk (Value.type "tuple") none (Data.seq #[Value.str (Str.ofString "self") 459, Value.str (Str.ofString "number") 460]) #[]),
 (220, Obj.mk (Value.type "tuple") none (Data.seq #[]) #[]),
 (222, Obj.mk (Value.type "code") none (Data.fields #[Value.str (Str.ofString "turn") 456, Value.str (Str.ofString "Pack.turn") 457, Value.str (Str.ofString "/claim/cut.py") 458, Value.int 97 0, Value.int 2 0, Value.int 0 0, Value.int 0 0, Value.int 3 0, Value.ref 217, Value.bool true, Value.int 181 0, Value.ref 218, Value.none, Value.ref 219, Value.ref 220, Value.ref 221, Value.int 461 0, Value.int 97 0, Value.str (Str.ofString "/claim/cut.py") 462]) #[]),
 (223, Obj.mk (Value.type "function") none (Data.func (fdAt (inCls (top 18) 10) (Str.ofString "Pack.turn") Value.none (Value.str (Str.ofString "packdelta.packs") 344) (Value.ref 222))) #[]),
 (224, Obj.mk (Value.type "tuple") none (Data.seq #[]) #[]),
 (226, Obj.mk (Value.type "tuple") none (Data.seq #[Value.str (Str.ofString "self") 467, Value.str (Str.ofString "number") 468]) #[]),
 (227, Obj.mk (Value.type "tuple") none (Data.seq #[]) #[]),
 (229, Obj.mk (Value.type "code") none (Data.fields #[Value.str (Str.ofString "root") 464, Value.str (Str.ofString "Pack.root") 465, Value.str (Str.ofString "/claim/cut.py") 466, Value.int 100 0, Value.int 2 0, Value.int 0 0, Value.int 0 0, Value.int 3 0, Value.ref 224, Value.bool true, Value.int 181 0, Value.ref 225, Value.none, Value.ref 226, Value.ref 227, Value.ref 228, Value.int 469 0, Value.int 100 0, Value.str (Str.ofString "/claim/cut.py") 470]) #[]),
 (230, Obj.mk (Value.type "function") none (Data.func (fdAt (inCls (top 18) 11) (Str.ofString "Pack.root") Value.none (Value.str (Str.ofString "packdelta.packs") 344) (Value.ref 229))) #[]),
 (231, Obj.mk (Value.type "tuple") none (Data.seq #[]) #[]),
 (233, Obj.mk (Value.type "tuple") none (Data.seq #[Value.str (Str.ofString "self") 475, Value.str (Str.ofString "number") 476, Value.str (Str.ofString "most") 477, Value.str (Str.ofString "other") 478, Value.str (Str.ofString "chain") 479]) #[]),
 (234, Obj.mk (Value.type "tuple") none (Data.seq #[]) #[]),
 (236, Obj.mk (Value.type "code") none (Data.fields #[Value.str (Str.ofString "below") 472, Value.str (Str.ofString "Pack.below") 473, Value.str (Str.ofString "/claim/cut.py") 474, Value.int 103 0, Value.int 2 0, Value.int 0 0, Value.int 0 0, Value.int 3 0, Value.ref 231, Value.bool true, Value.int 181 0, Value.ref 232, Value.none, Value.ref 233, Value.ref 234, Value.ref 235, Value.int 480 0, Value.int 103 0, Value.str (Str.ofString "/claim/cut.py") 481]) #[]),
 (237, Obj.mk (Value.type "function") none (Data.func (fdAt (inCls (top 18) 12) (Str.ofString "Pack.below") Value.none (Value.str (Str.ofString "packdelta.packs") 344) (Value.ref 236))) #[]),
 (238, Obj.mk (Value.type "tuple") none (Data.seq #[]) #[]),
 (240, Obj.mk (Value.type "tuple") none (Data.seq #[Value.str (Str.ofString "self") 486, Value.str (Str.ofString "number") 487, Value.str (Str.ofString "other") 488, Value.str (Str.ofString "chain") 489]) #[]),
 (241, Obj.mk (Value.type "tuple") none (Data.seq #[]) #[]),
 (243, Obj.mk (Value.type "code") none (Data.fields #[Value.str (Str.ofString "lean") 483, Value.str (Str.ofString "Pack.lean") 484, Value.str (Str.ofString "/claim/cut.py") 485, Value.int 111 0, Value.int 3 0, Value.int 0 0, Value.int 0 0, Value.int 3 0, Value.ref 238, Value.bool true, Value.int 181 0, Value.ref 239, Value.none, Value.ref 240, Value.ref 241, Value.ref 242, Value.int 490 0, Value.int 111 0, Value.str (Str.ofString "/claim/cut.py") 491]) #[]),
 (244, Obj.mk (Value.type "function") none (Data.func (fdAt (inCls (top 18) 13) (Str.ofString "Pack.lean") Value.none (Value.str (Str.ofString "packdelta.packs") 344) (Value.ref 243))) #[]),
 (245, Obj.mk (Value.type "tuple") none (Data.seq #[]) #[]),
 (247, Obj.mk (Value.type "tuple") none (Data.seq #[Value.str (Str.ofString "self") 496, Value.str (Str.ofString "number") 497]) #[]),
 (248, Obj.mk (Value.type "tuple") none (Data.seq #[]) #[]),
 (250, Obj.mk (Value.type "code") none (Data.fields #[Value.str (Str.ofString "forget") 493, Value.str (Str.ofString "Pack.forget") 494, Value.str (Str.ofString "/claim/cut.py") 495, Value.int 121 0, Value.int 2 0, Value.int 0 0, Value.int 0 0, Value.int 3 0, Value.ref 245, Value.bool true, Value.int 181 0, Value.ref 246, Value.none, Value.ref 247, Value.ref 248, Value.ref 249, Value.int 498 0, Value.int 121 0, Value.str (Str.ofString "/claim/cut.py") 499]) #[]),
 (251, Obj.mk (Value.type "function") none (Data.func (fdAt (inCls (top 18) 14) (Str.ofString "Pack.forget") Value.none (Value.str (Str.ofString "packdelta.packs") 344) (Value.ref 250))) #[]),
 (252, Obj.mk (Value.type "tuple") none (Data.seq #[Value.str (Str.ofString "bound") 501, Value.str (Str.ofString "coming") 502, Value.str (Str.ofString "held") 503]) #[]),
 (253, Obj.mk (Value.type "dict") none (Data.dict #[DictEntry.mk (PyData.keyHash P (Str.ofString "__module__")) (Value.str (Str.ofString "__module__") 373) (Value.str (Str.ofString "packdelta.packs") 344), DictEntry.mk (PyData.keyHash P (Str.ofString "__firstlineno__")) (Value.str (Str.ofString "__firstlineno__") 377) (Value.int 54 376), DictEntry.mk (PyData.keyHash P (Str.ofString "__init__")) (Value.str (Str.ofString "__init__") 385) (Value.ref 155), DictEntry.mk (PyData.keyHash P (Str.ofString "need")) (Value.str (Str.ofString "need") 393) (Value.ref 162), DictEntry.mk (PyData.keyHash P (Str.ofString "store")) (Value.str (Str.ofString "store") 402) (Value.ref 169), DictEntry.mk (PyData.keyHash P (Str.ofString "read")) (Value.str (Str.ofString "read") 410) (Value.ref 176), DictEntry.mk (PyData.keyHash P (Str.ofString "base")) (Value.str (Str.ofString "base") 418) (Value.ref 183), DictEntry.mk (PyData.keyHash P (Str.ofString "chain")) (Value.str (Str.ofString "chain") 426) (Value.ref 190), DictEntry.mk (PyData.keyHash P (Str.ofString "numbers")) (Value.str (Str.ofString "numbers") 433) (Value.ref 197), DictEntry.mk (PyData.keyHash P (Str.ofString "bases")) (Value.str (Str.ofString "bases") 442) (Value.ref 204), DictEntry.mk (PyData.keyHash P (Str.ofString "rows")) (Value.str (Str.ofString "rows") 448) (Value.ref 209), DictEntry.mk (PyData.keyHash P (Str.ofString "weight")) (Value.str (Str.ofString "weight") 455) (Value.ref 216), DictEntry.mk (PyData.keyHash P (Str.ofString "turn")) (Value.str (Str.ofString "turn") 463) (Value.ref 223), DictEntry.mk (PyData.keyHash P (Str.ofString "root")) (Value.str (Str.ofString "root") 471) (Value.ref 230), DictEntry.mk (PyData.keyHash P (Str.ofString "below")) (Value.str (Str.ofString "below") 482) (Value.ref 237), DictEntry.mk (PyData.keyHash P (Str.ofString "lean")) (Value.str (Str.ofString "lean") 492) (Value.ref 244), DictEntry.mk (PyData.keyHash P (Str.ofString "forget")) (Value.str (Str.ofString "forget") 500) (Value.ref 251), DictEntry.mk (PyData.keyHash P (Str.ofString "__static_attributes__")) (Value.str (Str.ofString "__static_attributes__") 504) (Value.ref 252), DictEntry.mk (PyData.keyHash P (Str.ofString "__dict__")) (Value.str (Str.ofString "__dict__") 506) (Value.ref 255), DictEntry.mk (PyData.keyHash P (Str.ofString "__weakref__")) (Value.str (Str.ofString "__weakref__") 508) (Value.ref 256), DictEntry.mk (PyData.keyHash P (Str.ofString "__doc__")) (Value.str (Str.ofString "__doc__") 509) Value.none] 4) #[]),
 (254, Obj.mk (Value.type "type") none (Data.cls (ClassData.mk (Str.ofString "Pack") [Value.type "object"] [Value.ref 254, Value.type "object"] 253 (Str.ofString "Pack") true [] [] false none false)) #[none, none, some (Value.str (Str.ofString "Pack") 366), some (Value.str (Str.ofString "Pack") 374), some (Value.builtin "object.__new__"), some (Value.bool true)]),
 (255, Obj.mk (Value.type "getset_descriptor") none (Data.fields #[Value.str (Str.ofString "__dict__") 505, Value.ref 254, Value.builtin "function.__dict__", Value.builtin "function.__dict__#set"]) #[]),
 (256, Obj.mk (Value.type "getset_descriptor") none (Data.fields #[Value.str (Str.ofString "__weakref__") 507, Value.ref 254, Value.builtin "ExceptionGroup.__weakref__", Value.none]) #[]),
 (259, Obj.mk (Value.type "tuple") none (Data.seq #[]) #[]),
 (261, Obj.mk (Value.type "tuple") none (Data.seq #[Value.str (Str.ofString "held") 517, Value.str (Str.ofString "bound") 518, Value.str (Str.ofString "number") 519, Value.str (Str.ofString "steps") 520, Value.str (Str.ofString "one") 521]) #[]),
 (262, Obj.mk (Value.type "tuple") none (Data.seq #[]) #[]),
 (264, Obj.mk (Value.type "code") none (Data.fields #[Value.str (Str.ofString "check_chains") 514, Value.str (Str.ofString "check_chains") 515, Value.str (Str.ofString "/claim/cut.py") 516, Value.int 124 0, Value.int 2 0, Value.int 0 0, Value.int 0 0, Value.int 3 0, Value.ref 259, Value.bool true, Value.int 181 0, Value.ref 260, Value.none, Value.ref 261, Value.ref 262, Value.ref 263, Value.int 522 0, Value.int 124 0, Value.str (Str.ofString "/claim/cut.py") 523]) #[]),
 (265, Obj.mk (Value.type "function") none (Data.func (fdAt (top 20) (Str.ofString "check_chains") Value.none (Value.str (Str.ofString "packdelta.opening") 512) (Value.ref 264))) #[]),
 (266, Obj.mk (Value.type "tuple") none (Data.seq #[]) #[]),
 (268, Obj.mk (Value.type "tuple") none (Data.seq #[Value.str (Str.ofString "held") 528, Value.str (Str.ofString "number") 529]) #[]),
 (269, Obj.mk (Value.type "tuple") none (Data.seq #[]) #[]),
 (271, Obj.mk (Value.type "code") none (Data.fields #[Value.str (Str.ofString "check_changes") 525, Value.str (Str.ofString "check_changes") 526, Value.str (Str.ofString "/claim/cut.py") 527, Value.int 135 0, Value.int 1 0, Value.int 0 0, Value.int 0 0, Value.int 3 0, Value.ref 266, Value.bool true, Value.int 181 0, Value.ref 267, Value.none, Value.ref 268, Value.ref 269, Value.ref 270, Value.int 530 0, Value.int 135 0, Value.str (Str.ofString "/claim/cut.py") 531]) #[]),
 (272, Obj.mk (Value.type "function") none (Data.func (fdAt (top 21) (Str.ofString "check_changes") Value.none (Value.str (Str.ofString "packdelta.opening") 512) (Value.ref 271))) #[]),
 (273, Obj.mk (Value.type "tuple") none (Data.seq #[]) #[]),
 (275, Obj.mk (Value.type "tuple") none (Data.seq #[Value.str (Str.ofString "rows") 536, Value.str (Str.ofString "bound") 537, Value.str (Str.ofString "pack") 538, Value.str (Str.ofString "held") 539, Value.str (Str.ofString "last") 540, Value.str (Str.ofString "row") 541]) #[]),
 (276, Obj.mk (Value.type "tuple") none (Data.seq #[]) #[]),
 (278, Obj.mk (Value.type "code") none (Data.fields #[Value.str (Str.ofString "opened") 533, Value.str (Str.ofString "opened") 534, Value.str (Str.ofString "/claim/cut.py") 535, Value.int 141 0, Value.int 2 0, Value.int 0 0, Value.int 0 0, Value.int 3 0, Value.ref 273, Value.bool true, Value.int 181 0, Value.ref 274, Value.none, Value.ref 275, Value.ref 276, Value.ref 277, Value.int 542 0, Value.int 141 0, Value.str (Str.ofString "/claim/cut.py") 543]) #[]),
 (279, Obj.mk (Value.type "function") none (Data.func (fdAt (top 22) (Str.ofString "opened") Value.none (Value.str (Str.ofString "packdelta.opening") 512) (Value.ref 278))) #[]),
 (280, Obj.mk (Value.type "tuple") none (Data.seq #[]) #[]),
 (282, Obj.mk (Value.type "tuple") none (Data.seq #[Value.str (Str.ofString "_law_script") 550, Value.str (Str.ofString "_law_k") 551]) #[]),
 (283, Obj.mk (Value.type "tuple") none (Data.seq #[]) #[]),
 (285, Obj.mk (Value.type "code") none (Data.fields #[Value.str (Str.ofString "_law_cell_at") 547, Value.str (Str.ofString "_law_cell_at") 548, Value.str (Str.ofString "/claim/cut.py") 549, Value.int 156 0, Value.int 2 0, Value.int 0 0, Value.int 0 0, Value.int 3 0, Value.ref 280, Value.bool true, Value.int 181 0, Value.ref 281, Value.none, Value.ref 282, Value.ref 283, Value.ref 284, Value.int 552 0, Value.int 156 0, Value.str (Str.ofString "/claim/cut.py") 553]) #[]),
 (286, Obj.mk (Value.type "function") none (Data.func (fdAt (top 24) (Str.ofString "_law_cell_at") Value.none (Value.str (Str.ofString "law_uf040024_07") 545) (Value.ref 285))) #[]),
 (287, Obj.mk (Value.type "tuple") none (Data.seq #[]) #[]),
 (289, Obj.mk (Value.type "tuple") none (Data.seq #[Value.str (Str.ofString "_law_cell") 558, Value.str (Str.ofString "_law_some") 559]) #[]),
 (290, Obj.mk (Value.type "tuple") none (Data.seq #[]) #[]),
 (292, Obj.mk (Value.type "code") none (Data.fields #[Value.str (Str.ofString "_law_sign_by") 555, Value.str (Str.ofString "_law_sign_by") 556, Value.str (Str.ofString "/claim/cut.py") 557, Value.int 160 0, Value.int 1 0, Value.int 0 0, Value.int 0 0, Value.int 3 0, Value.ref 287, Value.bool true, Value.int 181 0, Value.ref 288, Value.none, Value.ref 289, Value.ref 290, Value.ref 291, Value.int 560 0, Value.int 160 0, Value.str (Str.ofString "/claim/cut.py") 561]) #[]),
 (293, Obj.mk (Value.type "function") none (Data.func (fdAt (top 25) (Str.ofString "_law_sign_by") Value.none (Value.str (Str.ofString "law_uf040024_07") 545) (Value.ref 292))) #[]),
 (294, Obj.mk (Value.type "tuple") none (Data.seq #[]) #[]),
 (297, Obj.mk (Value.type "code") none (Data.fields #[Value.str (Str.ofString "_law_text_by") 563, Value.str (Str.ofString "_law_text_by") 564, Value.str (Str.ofString "/claim/cut.py") 565, Value.int 164 0, Value.int 2 0, Value.int 0 0, Value.int 0 0, Value.int 3 0, Value.ref 294, Value.bool true, Value.int 181 0, Value.ref 295, Value.none, Value.none, Value.none, Value.ref 296, Value.int 566 0, Value.int 164 0, Value.str (Str.ofString "/claim/cut.py") 567]) #[]),
 (298, Obj.mk (Value.type "function") none (Data.func (fdAt (top 26) (Str.ofString "_law_text_by") Value.none (Value.str (Str.ofString "law_uf040024_07") 545) (Value.ref 297))) #[]),
 (299, Obj.mk (Value.type "tuple") none (Data.seq #[]) #[]),
 (301, Obj.mk (Value.type "tuple") none (Data.seq #[Value.str (Str.ofString "_law_old") 572, Value.str (Str.ofString "_law_cell") 573, Value.str (Str.ofString "_law_way") 574, Value.str (Str.ofString "_law_at") 575, Value.str (Str.ofString "_law_left") 576]) #[]),
 (302, Obj.mk (Value.type "tuple") none (Data.seq #[]) #[]),
 (304, Obj.mk (Value.type "code") none (Data.fields #[Value.str (Str.ofString "_law_next_text") 569, Value.str (Str.ofString "_law_next_text") 570, Value.str (Str.ofString "/claim/cut.py") 571, Value.int 166 0, Value.int 2 0, Value.int 0 0, Value.int 0 0, Value.int 3 0, Value.ref 299, Value.bool true, Value.int 181 0, Value.ref 300, Value.none, Value.ref 301, Value.ref 302, Value.ref 303, Value.int 577 0, Value.int 166 0, Value.str (Str.ofString "/claim/cut.py") 578]) #[]),
 (305, Obj.mk (Value.type "function") none (Data.func (fdAt (top 27) (Str.ofString "_law_next_text") Value.none (Value.str (Str.ofString "law_uf040024_07") 545) (Value.ref 304))) #[]),
 (306, Obj.mk (Value.type "tuple") none (Data.seq #[]) #[]),
 (308, Obj.mk (Value.type "tuple") none (Data.seq #[Value.str (Str.ofString "_law_old") 583, Value.str (Str.ofString "_law_new") 584, Value.str (Str.ofString "_law_at") 585, Value.str (Str.ofString "_law_end") 586]) #[]),
 (309, Obj.mk (Value.type "tuple") none (Data.seq #[]) #[]),
 (311, Obj.mk (Value.type "code") none (Data.fields #[Value.str (Str.ofString "_law_change_of") 580, Value.str (Str.ofString "_law_change_of") 581, Value.str (Str.ofString "/claim/cut.py") 582, Value.int 179 0, Value.int 2 0, Value.int 0 0, Value.int 0 0, Value.int 3 0, Value.ref 306, Value.bool true, Value.int 181 0, Value.ref 307, Value.none, Value.ref 308, Value.ref 309, Value.ref 310, Value.int 587 0, Value.int 179 0, Value.str (Str.ofString "/claim/cut.py") 588]) #[]),
 (312, Obj.mk (Value.type "function") none (Data.func (fdAt (top 28) (Str.ofString "_law_change_of") Value.none (Value.str (Str.ofString "law_uf040024_07") 545) (Value.ref 311))) #[]),
 (313, Obj.mk (Value.type "tuple") none (Data.seq #[]) #[]),
 (315, Obj.mk (Value.type "tuple") none (Data.seq #[Value.str (Str.ofString "_law_old") 593, Value.str (Str.ofString "_law_new") 594, Value.str (Str.ofString "_law_way") 595, Value.str (Str.ofString "_law_change") 596, Value.str (Str.ofString "_law_ahead") 597]) #[]),
 (316, Obj.mk (Value.type "tuple") none (Data.seq #[]) #[]),
 (318, Obj.mk (Value.type "code") none (Data.fields #[Value.str (Str.ofString "_law_wide_change") 590, Value.str (Str.ofString "_law_wide_change") 591, Value.str (Str.ofString "/claim/cut.py") 592, Value.int 187 0, Value.int 3 0, Value.int 0 0, Value.int 0 0, Value.int 3 0, Value.ref 313, Value.bool true, Value.int 181 0, Value.ref 314, Value.none, Value.ref 315, Value.ref 316, Value.ref 317, Value.int 598 0, Value.int 187 0, Value.str (Str.ofString "/claim/cut.py") 599]) #[]),
 (319, Obj.mk (Value.type "function") none (Data.func (fdAt (top 29) (Str.ofString "_law_wide_change") Value.none (Value.str (Str.ofString "law_uf040024_07") 545) (Value.ref 318))) #[]),
 (320, Obj.mk (Value.type "tuple") none (Data.seq #[]) #[]),
 (322, Obj.mk (Value.type "tuple") none (Data.seq #[Value.str (Str.ofString "_law_cells_here") 604, Value.str (Str.ofString "_law_names_here") 605, Value.str (Str.ofString "_law_number") 606, Value.str (Str.ofString "_law_cell") 607]) #[]),
 (323, Obj.mk (Value.type "tuple") none (Data.seq #[]) #[]),
 (325, Obj.mk (Value.type "code") none (Data.fields #[Value.str (Str.ofString "_law_names") 601, Value.str (Str.ofString "_law_names") 602, Value.str (Str.ofString "/claim/cut.py") 603, Value.int 195 0, Value.int 1 0, Value.int 0 0, Value.int 0 0, Value.int 3 0, Value.ref 320, Value.bool true, Value.int 181 0, Value.ref 321, Value.none, Value.ref 322, Value.ref 323, Value.ref 324, Value.int 608 0, Value.int 195 0, Value.str (Str.ofString "/claim/cut.py") 609]) #[]),
 (326, Obj.mk (Value.type "function") none (Data.func (fdAt (top 30) (Str.ofString "_law_names") Value.none (Value.str (Str.ofString "law_uf040024_07") 545) (Value.ref 325))) #[]),
 (327, Obj.mk (Value.type "tuple") none (Data.seq #[]) #[]),
 (329, Obj.mk (Value.type "tuple") none (Data.seq #[Value.str (Str.ofString "_law_cell") 614]) #[]),
 (330, Obj.mk (Value.type "tuple") none (Data.seq #[]) #[]),
 (332, Obj.mk (Value.type "code") none (Data.fields #[Value.str (Str.ofString "_law_size") 611, Value.str (Str.ofString "_law_size") 612, Value.str (Str.ofString "/claim/cut.py") 613, Value.int 204 0, Value.int 1 0, Value.int 0 0, Value.int 0 0, Value.int 3 0, Value.ref 327, Value.bool true, Value.int 181 0, Value.ref 328, Value.none, Value.ref 329, Value.ref 330, Value.ref 331, Value.int 615 0, Value.int 204 0, Value.str (Str.ofString "/claim/cut.py") 616]) #[]),
 (333, Obj.mk (Value.type "function") none (Data.func (fdAt (top 31) (Str.ofString "_law_size") Value.none (Value.str (Str.ofString "law_uf040024_07") 545) (Value.ref 332))) #[]),
 (334, Obj.mk (Value.type "tuple") none (Data.seq #[]) #[]),
 (337, Obj.mk (Value.type "code") none (Data.fields #[Value.str (Str.ofString "_law_made") 618, Value.str (Str.ofString "_law_made") 619, Value.str (Str.ofString "/claim/cut.py") 620, Value.int 208 0, Value.int 2 0, Value.int 0 0, Value.int 0 0, Value.int 3 0, Value.ref 334, Value.bool true, Value.int 181 0, Value.ref 335, Value.none, Value.none, Value.none, Value.ref 336, Value.int 621 0, Value.int 208 0, Value.str (Str.ofString "/claim/cut.py") 622]) #[]),
 (338, Obj.mk (Value.type "function") none (Data.func (fdAt (top 32) (Str.ofString "_law_made") Value.none (Value.str (Str.ofString "law_uf040024_07") 545) (Value.ref 337))) #[]),
 (339, Obj.mk (Value.type "tuple") none (Data.seq #[]) #[]),
 (342, Obj.mk (Value.type "code") none (Data.fields #[Value.str (Str.ofString "_law_rows_of") 624, Value.str (Str.ofString "_law_rows_of") 625, Value.str (Str.ofString "/claim/cut.py") 626, Value.int 229 0, Value.int 1 0, Value.int 0 0, Value.int 0 0, Value.int 3 0, Value.ref 339, Value.bool true, Value.int 181 0, Value.ref 340, Value.none, Value.none, Value.none, Value.ref 341, Value.int 627 0, Value.int 229 0, Value.str (Str.ofString "/claim/cut.py") 628]) #[]),
 (343, Obj.mk (Value.type "function") none (Data.func (fdAt (top 33) (Str.ofString "_law_rows_of") Value.none (Value.str (Str.ofString "law_uf040024_07") 545) (Value.ref 342))) #[]),
 (344, Obj.mk (Value.type "tuple") none (Data.seq #[]) #[]),
 (346, Obj.mk (Value.type "tuple") none (Data.seq #[Value.str (Str.ofString "_law_kept") 633, Value.str (Str.ofString "_law_number") 634, Value.str (Str.ofString "_law_chain_here") 635]) #[]),
 (347, Obj.mk (Value.type "tuple") none (Data.seq #[]) #[]),
 (349, Obj.mk (Value.type "code") none (Data.fields #[Value.str (Str.ofString "_law_chain") 630, Value.str (Str.ofString "_law_chain") 631, Value.str (Str.ofString "/claim/cut.py") 632, Value.int 231 0, Value.int 2 0, Value.int 0 0, Value.int 0 0, Value.int 3 0, Value.ref 344, Value.bool true, Value.int 181 0, Value.ref 345, Value.none, Value.ref 346, Value.ref 347, Value.ref 348, Value.int 636 0, Value.int 231 0, Value.str (Str.ofString "/claim/cut.py") 637]) #[]),
 (350, Obj.mk (Value.type "function") none (Data.func (fdAt (top 34) (Str.ofString "_law_chain") Value.none (Value.str (Str.ofString "law_uf040024_07") 545) (Value.ref 349))) #[]),
 (351, Obj.mk (Value.type "tuple") none (Data.seq #[]) #[]),
 (354, Obj.mk (Value.type "code") none (Data.fields #[Value.str (Str.ofString "_law_longest") 639, Value.str (Str.ofString "_law_longest") 640, Value.str (Str.ofString "/claim/cut.py") 641, Value.int 236 0, Value.int 1 0, Value.int 0 0, Value.int 0 0, Value.int 3 0, Value.ref 351, Value.bool true, Value.int 181 0, Value.ref 352, Value.none, Value.none, Value.none, Value.ref 353, Value.int 642 0, Value.int 236 0, Value.str (Str.ofString "/claim/cut.py") 643]) #[]),
 (355, Obj.mk (Value.type "function") none (Data.func (fdAt (top 35) (Str.ofString "_law_longest") Value.none (Value.str (Str.ofString "law_uf040024_07") 545) (Value.ref 354))) #[]),
 (356, Obj.mk (Value.type "tuple") none (Data.seq #[]) #[]),
 (359, Obj.mk (Value.type "code") none (Data.fields #[Value.str (Str.ofString "_law_cells") 645, Value.str (Str.ofString "_law_cells") 646, Value.str (Str.ofString "/claim/cut.py") 647, Value.int 238 0, Value.int 3 0, Value.int 0 0, Value.int 0 0, Value.int 3 0, Value.ref 356, Value.bool true, Value.int 181 0, Value.ref 357, Value.none, Value.none, Value.none, Value.ref 358, Value.int 648 0, Value.int 238 0, Value.str (Str.ofString "/claim/cut.py") 649]) #[]),
 (360, Obj.mk (Value.type "function") none (Data.func (fdAt (top 36) (Str.ofString "_law_cells") Value.none (Value.str (Str.ofString "law_uf040024_07") 545) (Value.ref 359))) #[]),
 (361, Obj.mk (Value.type "tuple") none (Data.seq #[]) #[]),
 (363, Obj.mk (Value.type "tuple") none (Data.seq #[Value.str (Str.ofString "_law_signs") 654]) #[]),
 (364, Obj.mk (Value.type "tuple") none (Data.seq #[]) #[]),
 (366, Obj.mk (Value.type "code") none (Data.fields #[Value.str (Str.ofString "_law_other_sign") 651, Value.str (Str.ofString "_law_other_sign") 652, Value.str (Str.ofString "/claim/cut.py") 653, Value.int 240 0, Value.int 1 0, Value.int 0 0, Value.int 0 0, Value.int 3 0, Value.ref 361, Value.bool true, Value.int 181 0, Value.ref 362, Value.none, Value.ref 363, Value.ref 364, Value.ref 365, Value.int 655 0, Value.int 240 0, Value.str (Str.ofString "/claim/cut.py") 656]) #[]),
 (367, Obj.mk (Value.type "function") none (Data.func (fdAt (top 37) (Str.ofString "_law_other_sign") Value.none (Value.str (Str.ofString "law_uf040024_07") 545) (Value.ref 366))) #[]),
 (368, Obj.mk (Value.type "tuple") none (Data.seq #[]) #[]),
 (370, Obj.mk (Value.type "tuple") none (Data.seq #[Value.str (Str.ofString "_law_old") 661, Value.str (Str.ofString "_law_way") 662]) #[]),
 (371, Obj.mk (Value.type "tuple") none (Data.seq #[]) #[]),
 (373, Obj.mk (Value.type "code") none (Data.fields #[Value.str (Str.ofString "_law_bad_change") 658, Value.str (Str.ofString "_law_bad_change") 659, Value.str (Str.ofString "/claim/cut.py") 660, Value.int 244 0, Value.int 2 0, Value.int 0 0, Value.int 0 0, Value.int 3 0, Value.ref 368, Value.bool true, Value.int 181 0, Value.ref 369, Value.none, Value.ref 370, Value.ref 371, Value.ref 372, Value.int 663 0, Value.int 244 0, Value.str (Str.ofString "/claim/cut.py") 664]) #[]),
 (374, Obj.mk (Value.type "function") none (Data.func (fdAt (top 38) (Str.ofString "_law_bad_change") Value.none (Value.str (Str.ofString "law_uf040024_07") 545) (Value.ref 373))) #[]),
 (375, Obj.mk (Value.type "tuple") none (Data.seq #[]) #[]),
 (378, Obj.mk (Value.type "code") none (Data.fields #[Value.str (Str.ofString "_law_spoilt") 666, Value.str (Str.ofString "_law_spoilt") 667, Value.str (Str.ofString "/claim/cut.py") 668, Value.int 252 0, Value.int 5 0, Value.int 0 0, Value.int 0 0, Value.int 3 0, Value.ref 375, Value.bool true, Value.int 181 0, Value.ref 376, Value.none, Value.none, Value.none, Value.ref 377, Value.int 669 0, Value.int 252 0, Value.str (Str.ofString "/claim/cut.py") 670]) #[]),
 (379, Obj.mk (Value.type "function") none (Data.func (fdAt (top 39) (Str.ofString "_law_spoilt") Value.none (Value.str (Str.ofString "law_uf040024_07") 545) (Value.ref 378))) #[]),
 (380, Obj.mk (Value.type "tuple") none (Data.seq #[]) #[]),
 (382, Obj.mk (Value.type "tuple") none (Data.seq #[Value.str (Str.ofString "_law_rows") 675, Value.str (Str.ofString "_law_bound") 676, Value.str (Str.ofString "_law_by_any") 677, Value.str (Str.ofString "e") 678]) #[]),
 (383, Obj.mk (Value.type "tuple") none (Data.seq #[]) #[]),
 (385, Obj.mk (Value.type "code") none (Data.fields #[Value.str (Str.ofString "_law_refused") 672, Value.str (Str.ofString "_law_refused") 673, Value.str (Str.ofString "/claim/cut.py") 674, Value.int 275 0, Value.int 3 0, Value.int 0 0, Value.int 0 0, Value.int 3 0, Value.ref 380, Value.bool true, Value.int 181 0, Value.ref 381, Value.none, Value.ref 382, Value.ref 383, Value.ref 384, Value.int 679 0, Value.int 275 0, Value.str (Str.ofString "/claim/cut.py") 680]) #[]),
 (386, Obj.mk (Value.type "function") none (Data.func (fdAt (top 40) (Str.ofString "_law_refused") Value.none (Value.str (Str.ofString "law_uf040024_07") 545) (Value.ref 385))) #[]),
 (387, Obj.mk (Value.type "tuple") none (Data.seq #[]) #[]),
 (389, Obj.mk (Value.type "tuple") none (Data.seq #[Value.str (Str.ofString "_law_script") 685, Value.str (Str.ofString "_law_many") 686, Value.str (Str.ofString "_law_made_here") 687, Value.str (Str.ofString "_law_rows") 688, Value.str (Str.ofString "_law_bound") 689, Value.str (Str.ofString "_law_k") 690, Value.str (Str.ofString "_law_handed") 691]) #[]),
 (390, Obj.mk (Value.type "tuple") none (Data.seq #[]) #[]),
 (392, Obj.mk (Value.type "code") none (Data.fields #[Value.str (Str.ofString "law") 682, Value.str (Str.ofString "law") 683, Value.str (Str.ofString "/claim/cut.py") 684, Value.int 289 0, Value.int 1 0, Value.int 0 0, Value.int 0 0, Value.int 3 0, Value.ref 387, Value.bool true, Value.int 181 0, Value.ref 388, Value.none, Value.ref 389, Value.ref 390, Value.ref 391, Value.int 692 0, Value.int 289 0, Value.str (Str.ofString "/claim/cut.py") 693]) #[]),
 (393, Obj.mk (Value.type "function") none (Data.func (fdAt (top 41) (Str.ofString "law") Value.none (Value.str (Str.ofString "law_uf040024_07") 545) (Value.ref 392))) #[])]
def adr : List Addr := [2, 3, 15, 17, 18, 20, 21, 22, 29, 30, 31, 32, 35, 42, 43, 44, 47, 54, 55, 56, 59, 66, 67, 68, 71, 78, 79, 80, 83, 90, 91, 92, 95, 102, 103, 104, 107, 109, 110, 112, 113, 114, 116, 117, 119, 120, 121, 123, 124, 126, 127, 128, 130, 131, 133, 134, 135, 137, 138, 140, 141, 149, 151, 152, 154, 155, 156, 158, 159, 161, 162, 163, 165, 166, 168, 169, 170, 172, 173, 175, 176, 177, 179, 180, 182, 183, 184, 186, 187, 189, 190, 191, 193, 194, 196, 197, 198, 200, 201, 203, 204, 205, 208, 209, 210, 212, 213, 215, 216, 217, 219, 220, 222, 223, 224, 226, 227, 229, 230, 231, 233, 234, 236, 237, 238, 240, 241, 243, 244, 245, 247, 248, 250, 251, 252, 253, 254, 255, 256, 259, 261, 262, 264, 265, 266, 268, 269, 271, 272, 273, 275, 276, 278, 279, 280, 282, 283, 285, 286, 287, 289, 290, 292, 293, 294, 297, 298, 299, 301, 302, 304, 305, 306, 308, 309, 311, 312, 313, 315, 316, 318, 319, 320, 322, 323, 325, 326, 327, 329, 330, 332, 333, 334, 337, 338, 339, 342, 343, 344, 346, 347, 349, 350, 351, 354, 355, 356, 359, 360, 361, 363, 364, 366, 367, 368, 370, 371, 373, 374, 375, 378, 379, 380, 382, 383, 385, 386, 387, 389, 390, 392, 393]
end Mine
namespace Mine
open PySem PySem.W PyProof.Rows PySem.F
section
variable {c : Cx} {P : Params} {sc : Addr} {ns : List Int}
theorem not_dec {p : Prop} [Decidable p] : (!decide p) = true ↔ ¬ p := by simp
theorem gb_len (W : Lw c (KK P) sc ns) : GN c (Str.ofString "len") (.builtin "len") := W.blt rfl (by decide) bt_len
theorem Fn.gen {n : Nat} {v : Value} {ds : List V} {H : AH} {Q : V → AH → Prop} {X : Value → AH → Prop} (h : ∀ Q' : V → AH → Prop, (∀ d H', Q d H' → Q' d H') → Fn c n v ds H Q' X) : Fn c n v ds H Q X := h Q fun _ _ q => q
theorem gb_isinstance (W : Lw c (KK P) sc ns) : GN c (Str.ofString "isinstance") (.builtin "isinstance") := W.blt rfl (by decide) bt_isinstance
theorem gb_int (W : Lw c (KK P) sc ns) : GN c (Str.ofString "int") (.type "int") := W.blt rfl (by decide) bt_int
theorem gb_bool (W : Lw c (KK P) sc ns) : GN c (Str.ofString "bool") (.type "bool") := W.blt rfl (by decide) bt_bool
theorem gb_list (W : Lw c (KK P) sc ns) : GN c (Str.ofString "list") (.type "list") := W.blt rfl (by decide) bt_list
theorem gb_range (W : Lw c (KK P) sc ns) : GN c (Str.ofString "range") (.type "range") := W.blt rfl (by decide) bt_range
theorem gb_min (W : Lw c (KK P) sc ns) : GN c (Str.ofString "min") (.builtin "min") := W.blt rfl (by decide) bt_min
theorem gb_max (W : Lw c (KK P) sc ns) : GN c (Str.ofString "max") (.builtin "max") := W.blt rfl (by decide) bt_max
theorem sp_cell_at (W : Lw c (KK P) sc ns) (H : AH) (k : Int) (h0 : 0 ≤ k) : Fn c 1 (.ref 286) [.ref sc, .int k] H (fun d H' => d = .int (cellAt ns k) ∧ H' = H) (fun _ _ => False) := by
  refine Fn_def W.ok.lim (W.kx 286 _ rfl) rfl rfl (codeRec_of W.kx rfl) rfl (names := ["_law_script", "_law_k"]) (bind2 rfl fun _ _ => rfl) rfl (by decide) (fun n => mem2 (.inl rfl) (.inl rfl)) rfl rfl rfl fun A L frs hE R O => ?_
  refine Ex_ifp (P := k < ns.length) (Tp_cmp (Pe_var rfl) (Pe_B1 W.ok (gb_len W) (Pe_var rfl) (L_base W)) B_lt (by simp)) (fun h => ?_) (fun h => ?_)
  · refine Ex_ret (Pe.ev (Pe_sub (Pe_var rfl) (Pe_var rfl) (G_base W h0 h)) ⟨by rw [cellAt, if_pos h], rfl⟩)
  · refine Ex_ret (Ev_int ⟨by rw [cellAt, if_neg h], rfl⟩)
theorem Pe_cellE (W : Lw c (KK P) sc ns) {f : Fx} {m : Loc} {H : AH} {k : Int} {e : Expr} {p₁ p₂ p : Pos} (R : Room 1 f.A) (hf : f.A.frames = some f.frs) (hm : m (Str.ofString "_law_script") = some (.ref sc)) (he : Pe c f e m H (.int k)) (h0 : 0 ≤ k)
    (hg : f.env.globals = mainGlobals := by rfl) (hb : f.env.builtins = builtinsNs := by rfl) (hk : f.env.scope.kind = .function := by rfl) (hn : f.env.kindOf (Str.ofString "_law_cell_at") = some .globalImplicit := by rfl) (hst : starEach [e] f.env = (false, eval e f.env) :: starEach [] f.env := by rfl) :
    Pe c f (.Call (.Name (Str.ofString "_law_cell_at") p₁) [.Name (Str.ofString "_law_script") p₂, e] [] p) m H (.int (cellAt ns k)) :=
  Pe_F2 W.ok (W.glob rfl) (W.kx 286 _ rfl) rfl R hf (Pe_var hm hk) he (sp_cell_at W H k h0) hg hb hk hn (by decide) rfl hst
theorem Pe_cell (W : Lw c (KK P) sc ns) {f : Fx} {m : Loc} {H : AH} {k : Int} {n : Nat} {p₁ p₂ p₃ p : Pos} (R : Room 1 f.A) (hf : f.A.frames = some f.frs) (hm : m (Str.ofString "_law_script") = some (.ref sc)) (h0 : 0 ≤ k := by decide)
    (hg : f.env.globals = mainGlobals := by rfl) (hb : f.env.builtins = builtinsNs := by rfl) (hk : f.env.scope.kind = .function := by rfl) (hn : f.env.kindOf (Str.ofString "_law_cell_at") = some .globalImplicit := by rfl) :
    Pe c f (.Call (.Name (Str.ofString "_law_cell_at") p₁) [.Name (Str.ofString "_law_script") p₂, .Constant (.int k) n p₃] [] p) m H (.int (cellAt ns k)) :=
  Pe_F2 W.ok (W.glob rfl) (W.kx 286 _ rfl) rfl R hf (Pe_var hm hk) Pe_int (sp_cell_at W H k h0) hg hb hk hn
theorem sp_done (W : Lw c (KK P) sc ns) (U : Own c (KK P)) (H : AH) (l gone come : List Nat) (at_ : Int) (hsz : l.length ≤ 100000) (hsz2 : come.length ≤ 100000) (hsz3 : gone.length ≤ 100000) :
    Fn c 1 (.ref 113) [.s l, .tup [.int at_, .s gone, .s come]] H (fun d H' => Fit l gone at_ ∧ d = .s (l.take at_.toNat ++ come ++ l.drop (at_ + gone.length).toNat) ∧ H' = H) (fun C H' => ¬ Fit l gone at_ ∧ C = .ref 80 ∧ H' = H) := by
  have hs : 1000000 ≤ sizeLine := by decide
  refine Fn_def W.ok.lim (W.kx 113 _ rfl) rfl rfl (codeRec_of W.kx rfl) rfl (names := ["text", "change"]) (bind2 rfl fun _ _ => rfl) rfl (by decide) (fun n => mem2 (.inl rfl) (.inl rfl)) rfl rfl rfl fun A L frs hE R O => ?_
  refine Ex_assign (Pe.ev (Pe_sub (Pe_var rfl) Pe_int (G_tup (j := 0) rfl rfl (by decide))) ?_) (.inl rfl)
  refine Ex_assign (Pe.ev (Pe_sub (Pe_var rfl) Pe_int (G_tup (j := 1) rfl rfl (by decide))) ?_) (.inl rfl)
  refine Ex_ifp (Tp_or (Tpo_cons (Tp_cmp (Pe_var rfl) Pe_int B_lt decide_eq_true_iff) fun g1 => Tpo_cons (Tp_cmp (Pe_var rfl) (Pe_B1 W.ok (gb_len W) (Pe_var rfl) (L_str (by exact om93 hsz hs))) B_gt decide_eq_true_iff) fun g2 => Tpo_cons (Tp_cmp (Pe_slice_ss (Pe_var rfl) (Pe_var rfl) (Pe_bin (Pe_var rfl) (Pe_B1 W.ok (gb_len W) (Pe_var rfl) (L_str (by exact om93 hsz3 hs))) B_add) (by exact om41 g1) (by exact om94 g1) (by exact om93 hsz hs)) (Pe_var rfl) B_ness not_dec) fun _ => Tpo_nil)) (fun g => ?_) (fun g => ?_)
  · refine Ex_raise W.ok (U.cls _ 80 _ _ rfl (by kernel_rfl)) excBase_ValueError R.handled Pe_str ⟨?_, rfl, rfl⟩
    rintro rz4; refine e0a3 rz4 fun q1 q2 q3 => ?_; clear rz4
    rcases g with g | g | g | g
    · exact om95 q1 g
    · exact om96 q2 g
    · exact g q3
    · exact g
  · have q1 : ¬ at_ < 0 := fun z => g (.inl z)
    have q2 : ¬ (l.length : Int) < at_ := fun z => g (.inr (.inl z))
    have q3 : (l.take (at_ + gone.length).toNat).drop at_.toNat = gone := Classical.byContradiction fun z => g (.inr (.inr (.inl z)))
    refine Ex_ret (Pe.ev (Pe_bin (Pe_bin (Pe_slice_ns (Pe_var rfl) (Pe_var rfl) (by omega) (by exact om93 hsz hs)) (Pe_sub (Pe_var rfl) Pe_int (G_tup (j := 2) rfl rfl (by decide))) (B_cats ?_)) (Pe_slice_sn (Pe_var rfl) (Pe_bin (Pe_var rfl) (Pe_B1 W.ok (gb_len W) (Pe_var rfl) (L_str (by exact om93 hsz3 hs))) B_add) (by omega) (by exact om93 hsz hs)) (B_cats ?_)) ⟨⟨by omega, by omega, q3⟩, rfl, rfl⟩)
    · rw [List.length_take]; exact om97 hsz hsz2 hs
    · rw [List.length_append, List.length_take, List.length_drop]; exact om98 hsz hsz2 hs
theorem dset_new {kvs : List (Int × V)} {k : Int} {d : V} (h : k ∉ kvs.map (·.1)) : dset kvs k d = kvs ++ [(k, d)] := by
  unfold dset
  rw [if_neg]
  rw [List.any_eq_true]
  rintro rz5; refine e1a2 rz5 fun x hx e => ?_; clear rz5
  exact h (List.mem_map.mpr ⟨x, hx, by simpa using e⟩)
theorem nd_take {l : List Int} {i : Nat} {k : Int} (nd : l.Nodup) (h : l[i]? = some k) : k ∉ l.take i := by
  intro hm
  obtain ⟨j, hj, e⟩ := List.getElem_of_mem hm
  rw [List.getElem_take] at e
  rw [List.length_take] at hj
  obtain ⟨hi, e2⟩ := List.getElem?_eq_some_iff.mp h
  have := (List.getElem_inj (h₀ := by exact om99 hj) (h₁ := hi) nd).mp (e.trans e2.symm)
  exact om100 hj this
theorem keys_of (ks : List Int) (g : Int → V) : (ks.map fun k => (k, g k)).map (·.1) = ks := by rw [List.map_map]; simp [Function.comp_def]
theorem gb_sorted (W : Lw c (KK P) sc ns) : GN c (Str.ofString "sorted") (.builtin "sorted") := W.blt rfl (by decide) bt_sorted
theorem pc : Plain (KK P) 254 := ⟨by kernel_rfl, by kernel_rfl, by kernel_rfl, by kernel_rfl, by kernel_rfl⟩
theorem tk_bound : takerIn (KK P) 254 (Str.ofString "bound") = some none := by kernel_rfl
theorem tk_held : takerIn (KK P) 254 (Str.ofString "held") = some none := by kernel_rfl
theorem tk_coming : takerIn (KK P) 254 (Str.ofString "coming") = some none := by kernel_rfl
def pk (b h n : V) : List (Str × V) := [(Str.ofString "bound", b), (Str.ofString "held", h), (Str.ofString "coming", n)]
theorem lookup_snoc {fs : List (Str × V)} {n : Str} {d : V} (h : fs.lookup n = none) (y : Str) : (fs ++ [(n, d)]).lookup y = if y = n then some d else fs.lookup y := by
  induction fs with
  | nil =>
    by_cases e : y = n
    · subst e; simp
    · rw [if_neg e]; simp only [List.nil_append, List.lookup_cons, beq_false_of_ne e, List.lookup_nil]
  | cons p r ih =>
    rw [List.lookup_cons] at h
    by_cases q : n = p.1
    · rw [q] at h; simp at h
    rw [beq_false_of_ne q] at h
    rw [List.cons_append, List.lookup_cons, List.lookup_cons]
    by_cases e : y = p.1
    · have : ¬ y = n := fun z => q (z ▸ e)
      rw [if_neg this, e]; simp
    · rw [beq_false_of_ne e]; exact ih h
theorem pk_set_held (b h n h' : V) (y : Str) : (pk b h' n).lookup y = if y = Str.ofString "held" then some h' else (pk b h n).lookup y := by
  by_cases e1 : y = Str.ofString "bound"
  · subst e1; rfl
  · by_cases e2 : y = Str.ofString "held"
    · subst e2; rfl
    · rw [if_neg e2]; unfold pk; simp only [List.lookup_cons, beq_false_of_ne e1, beq_false_of_ne e2]
theorem pk_set_coming (b h n n' : V) (y : Str) : (pk b h n').lookup y = if y = Str.ofString "coming" then some n' else (pk b h n).lookup y := by
  by_cases e1 : y = Str.ofString "bound"
  · subst e1; rfl
  · by_cases e2 : y = Str.ofString "held"
    · subst e2; rfl
    · by_cases e3 : y = Str.ofString "coming"
      · subst e3; rfl
      · rw [if_neg e3]; unfold pk; simp only [List.lookup_cons, beq_false_of_ne e1, beq_false_of_ne e2, beq_false_of_ne e3]
structure PackAt (H : AH) (x dx hd : Addr) (b n : Int) (kvs : List (Int × V)) : Prop where
  i : InstIs H x 254 dx (pk (.int b) (.ref hd) (.int n))
  d : DictIs H hd kvs
theorem PackAt.ext {H H' : AH} {x dx hd : Addr} {b n : Int} {kvs : List (Int × V)} (p : PackAt H x dx hd b n kvs) (e : Ext H H') : PackAt H' x dx hd b n kvs := ⟨p.i.ext e, e.dict p.d⟩
theorem PackAt.some_x {H : AH} {x dx hd : Addr} {b n : Int} {kvs : List (Int × V)} (p : PackAt H x dx hd b n kvs) : H x ≠ none ∧ H dx ≠ none ∧ H hd ≠ none := by
  obtain ⟨⟨⟨o, a⟩, od, b⟩, oh, d⟩ := p
  exact ⟨by rw [a]; exact fun z => (nomatch z), by rw [b]; exact fun z => (nomatch z), by rw [d]; exact fun z => (nomatch z)⟩
theorem sp_pwhole (W : Lw c (KK P) sc ns) (H : AH) (i : Int) : Fn c 1 (.ref 134) [.int i] H (fun d' H' => d' = .bool true ∧ H' = H) (fun _ _ => False) := by
  refine Fn_def W.ok.lim (W.kx 134 _ rfl) rfl rfl (codeRec_of W.kx rfl) rfl (names := ["thing"]) (bind1 rfl fun _ => rfl) rfl (by decide) (fun n => mem1 (.inl rfl)) rfl rfl rfl fun A L frs hE R O => ?_
  exact Ex_ret (Pe.ev (Pb.pe (Pb_and (Pb_isi W.ok (gb_isinstance W) (gb_int W) (Pe_var rfl) I_int) fun _ => Pb_and1 (Pb_not (Pb_isi W.ok (gb_isinstance W) (gb_bool W) (Pe_var rfl) I_int_bool))) (by simp)) ⟨rfl, rfl⟩)
theorem sp_init (W : Lw c (KK P) sc ns) (H : AH) (x dx : Addr) (b : Int) (I : InstIs H x 254 dx []) (h0 : 0 ≤ b) (h1 : b ≤ 1000) :
    Fn c 2 (.ref 155) [.ref x, .int b] H (fun d H' => d = .none ∧ ∃ hd, H hd = none ∧ PackAt H' x dx hd b 0 [] ∧ ∀ a, a ≠ dx → H a ≠ none → H' a = H a) (fun _ _ => False) := by
  refine Fn_def W.ok.lim (W.kx 155 _ rfl) rfl rfl (codeRec_of W.kx rfl) rfl (names := ["self", "bound"]) (bind2 rfl fun _ _ => rfl) rfl (by decide) (fun n => mem2 (.inl rfl) (.inl rfl)) rfl rfl rfl fun A L frs hE R O => ?_
  refine Ex_ifp (Tp_or (Tpo_cons (Tp_not (Tp_val (P := True) (Pe_F1 W.ok (W.glob rfl) (W.kx 134 _ rfl) rfl R O.frames (Pe_var rfl) (sp_pwhole W _ _)) (by simp))) fun _ => Tpo_cons (Tp_cmp (Pe_var rfl) Pe_int B_lt decide_eq_true_iff) fun _ => Tpo_cons (Tp_cmp (Pe_var rfl) (Pe_globI W.ok (W.glob rfl)) B_gt decide_eq_true_iff) fun _ => Tpo_nil)) (fun g => ?_) (fun _ => ?_)
  · exfalso
    rcases g with g | g | g | g
    · exact g trivial
    · exact om95 h0 g
    · exact om101 h1 g
    · exact g
  have na := I.apart
  refine Ex_setattr W.kx pc (Pe.ev (Pe_var rfl) (Pe.ev (Pe_var rfl) ⟨x, dx, [], [(Str.ofString "bound", .int b)], rfl, I, by decide, fun y => lookup_snoc (fs := []) rfl y, fun od => ?_⟩)) tk_bound
  have I1 : InstIs (H.set dx ⟨od, .attrs [(Str.ofString "bound", .int b)]⟩) x 254 dx [(Str.ofString "bound", .int b)] := by
    obtain ⟨⟨o, a⟩, _⟩ := I
    exact ⟨⟨o, (set_ne _ _ na).trans a⟩, od, set_same _ _ _⟩
  have e1 : ∀ a, a ≠ dx → (H.set dx ⟨od, .attrs [(Str.ofString "bound", .int b)]⟩) a = H a := fun a ha => set_ne _ _ ha
  generalize H.set dx ⟨od, .attrs [(Str.ofString "bound", .int b)]⟩ = H1 at I1 e1 ⊢
  refine Ex_setattr W.kx pc (Ev_dict0 W.ok fun hd oh hh => Pe.ev (Pe_var rfl) ⟨x, dx, _, [(Str.ofString "bound", .int b)] ++ [(Str.ofString "held", .ref hd)], rfl, I1.ext (Ext.set (Ext.refl _) hh), (by show 1 ≤ 1000; decide), fun y => lookup_snoc rfl y, fun od2 => ?_⟩) tk_held
  have xh : x ≠ hd := fun e => by obtain ⟨⟨o, a⟩, _⟩ := I1; rw [e, hh] at a; cases a
  have dh : dx ≠ hd := fun e => by obtain ⟨_, o, a⟩ := I1; rw [e, hh] at a; cases a
  have I2 : InstIs ((H1.set hd ⟨oh, .dict []⟩).set dx ⟨od2, .attrs ([(Str.ofString "bound", .int b)] ++ [(Str.ofString "held", .ref hd)])⟩) x 254 dx ([(Str.ofString "bound", .int b)] ++ [(Str.ofString "held", .ref hd)]) := by
    obtain ⟨⟨o, a⟩, _⟩ := I1
    exact ⟨⟨o, (set_ne _ _ na).trans ((set_ne _ _ xh).trans a)⟩, od2, set_same _ _ _⟩
  have D2 : DictIs ((H1.set hd ⟨oh, .dict []⟩).set dx ⟨od2, .attrs ([(Str.ofString "bound", .int b)] ++ [(Str.ofString "held", .ref hd)])⟩) hd [] := (DictIs.same _ _ _ _).ne dh.symm
  have e2 : ∀ a, a ≠ dx → H1 a ≠ none → ((H1.set hd ⟨oh, .dict []⟩).set dx ⟨od2, .attrs ([(Str.ofString "bound", .int b)] ++ [(Str.ofString "held", .ref hd)])⟩) a = H1 a := fun a ha hn => (set_ne _ _ ha).trans (set_ne _ _ fun e => hn (e ▸ hh))
  generalize (H1.set hd ⟨oh, .dict []⟩).set dx ⟨od2, .attrs ([(Str.ofString "bound", .int b)] ++ [(Str.ofString "held", .ref hd)])⟩ = H2 at I2 D2 e2 ⊢
  refine Ex_setattr W.kx pc (Pe.ev Pe_int (Pe.ev (Pe_var rfl) ⟨x, dx, _, [(Str.ofString "bound", .int b)] ++ [(Str.ofString "held", .ref hd)] ++ [(Str.ofString "coming", .int 0)], rfl, I2, (by show 2 ≤ 1000; decide), fun y => lookup_snoc rfl y, fun od3 => ?_⟩)) tk_coming
  refine Ex_nil ⟨rfl, hd, ?_, ⟨?_, D2.ne dh.symm⟩, fun a ha hn => ?_⟩
  · by_cases q : H hd = none
    · exact q
    · exact absurd hh (by rw [e1 hd dh.symm]; exact q)
  · obtain ⟨⟨o, a⟩, _⟩ := I2
    exact ⟨⟨o, (set_ne _ _ na).trans a⟩, od3, set_same _ _ _⟩
  · rw [set_ne _ _ ha, e2 a ha (by rw [e1 a ha]; exact hn), e1 a ha]
theorem Ev_pack (W : Lw c (KK P) sc ns) {f : Fx} {m : Loc} {H : AH} {X : Value → AH → Prop} {Q : V → AH → Prop} {e : Expr} {b : Int} {p₁ p : Pos} (R : Room 3 f.A) (hfr : f.A.frames = some f.frs) (he : Pe c f e m H (.int b)) (h0 : 0 ≤ b) (h1 : b ≤ 1000)
    (q : ∀ x dx hd H', Ext H H' → H x = none → H dx = none → H hd = none → PackAt H' x dx hd b 0 [] → Q (.ref x) H')
    (hg : f.env.globals = mainGlobals := by rfl) (hb : f.env.builtins = builtinsNs := by rfl) (hk : f.env.scope.kind = .function := by rfl) (hn : f.env.kindOf (Str.ofString "Pack") = some .globalImplicit := by rfl) (hst : starEach [e] f.env = (false, eval e f.env) :: starEach [] f.env := by rfl) :
    Ev c f (.Call (.Name (Str.ofString "Pack") p₁) [e] [] p) m H Q X := by
  refine Ev_make W.kx (fI := 155) (k := 2) W.ok (W.glob rfl) R hfr (by kernel_rfl) (by kernel_rfl) (by kernel_rfl) (by kernel_rfl) he (fun x dx oi od hx hdx hne => ?_) hg hb hk hn (by decide) hst
  have I : InstIs ((H.set dx ⟨od, .attrs []⟩).set x ⟨oi, .inst 254 dx⟩) x 254 dx [] := ⟨⟨oi, set_same _ _ _⟩, od, (set_ne _ _ hne.symm).trans (set_same _ _ _)⟩
  have ex : Ext H ((H.set dx ⟨od, .attrs []⟩).set x ⟨oi, .inst 254 dx⟩) := Ext.upd (Ext.set (Ext.refl _) hdx) hx
  refine Fn.mono (sp_init W _ x dx b I h0 h1) (fun d H' z => ?_) fun _ _ z => z.elim
  obtain ⟨rfl, hd, hh, pa, kp⟩ := z
  refine ⟨rfl, q x dx hd H' (fun a ha => ?_) hx hdx (ex.none hh) pa⟩
  have hna : a ≠ dx := fun e => ha (e ▸ hdx)
  rw [kp a hna (by rw [ex a ha]; exact ha), ex a ha]
theorem Sim.symm {kvs kvs' : List (Int × V)} (h : Sim kvs kvs') : Sim kvs' kvs := fun k => (h k).symm
theorem gb_reversed (W : Lw c (KK P) sc ns) : GN c (Str.ofString "reversed") (.type "reversed") := W.blt rfl (by decide) bt_reversed
theorem no_ref {d : V} (h : d = .none) : ∀ h v, Is h d v → ∀ a, v ≠ .ref a := fun _ v i a e => by subst h; rw [is_raw i] at e; exact nomatch e
theorem G_held {c : Cx} {f : Fx} {H : AH} {kvs : List (Int × V)} {tx : Int → List Nat} {rk : Int → Nat} {k : Int} (E : Held kvs tx rk) (hk : Key kvs k) : G2 c f H (dgetD kvs k) (.int 0) (base0 (dgetD kvs k)) ∧ G2 c f H (dgetD kvs k) (.int 1) (body0 (dgetD kvs k)) := by
  have e := E.pair (dgetD_key hk)
  generalize dgetD kvs k = d at e ⊢
  constructor
  · have : G2 c f H (.tup [base0 d, body0 d]) (.int 0) (base0 d) := G_tup (j := 0) rfl rfl (by decide)
    rwa [← e] at this
  · have : G2 c f H (.tup [base0 d, body0 d]) (.int 1) (body0 d) := G_tup (j := 1) rfl rfl (by decide)
    rwa [← e] at this
theorem Held.heldOf {kvs : List (Int × V)} {tx : Int → List Nat} {rk : Int → Nat} (E : Held kvs tx rk) {srt : List Int} (S : Srt kvs srt) : Held (heldOf kvs srt) tx rk :=
  E.sim (fun k => (dget_heldOf S k).symm) (by rw [keys_heldOf]; exact S.nd E.nd) (by unfold Mine.heldOf; rw [List.length_map, S.len]; exact E.few)
theorem heldOf_sim {kvs : List (Int × V)} {srt : List Int} (S : Srt kvs srt) : Sim (heldOf kvs srt) kvs := dget_heldOf S
@[irreducible] def tabA : List Nat := (Str.ofString " !\"#$&'()*+,-./0123456789:;<=>?@ABCDEFGHIJKLMNOPQRSTUVWXYZ[\\]^_`").cps.toList
@[irreducible] def tabB : List Nat := (Str.ofString "abcdefghijklmnopqrstuvwxyz{|}~\n\t").cps.toList
theorem tabA_eq : (Str.ofString " !\"#$&'()*+,-./0123456789:;<=>?@ABCDEFGHIJKLMNOPQRSTUVWXYZ[\\]^_`").cps.toList = tabA := by unfold tabA; rfl
theorem tabB_eq : (Str.ofString "abcdefghijklmnopqrstuvwxyz{|}~\n\t").cps.toList = tabB := by unfold tabB; rfl
theorem tabA_length : tabA.length = 64 := by unfold tabA; decide +kernel
theorem tabB_length : tabB.length = 32 := by unfold tabB; decide +kernel
def sg (cell : Int) : Nat := (tabA ++ tabB).getD (cell % 96).toNat 0
theorem Pe_strl {f : Fx} {m : Loc} {H : AH} {x : Str} {k : Nat} {p : Pos} {l : List Nat} (h : x.cps.toList = l) : Pe c f (.Constant (.str x) k p) m H (.s l) := h ▸ Pe_strc
theorem sp_sign_by (W : Lw c (KK P) sc ns) (H : AH) (cell : Int) : Fn c 1 (.ref 293) [.int cell] H (fun d H' => d = .s [sg cell] ∧ H' = H) (fun _ _ => False) := by
  refine Fn_def W.ok.lim (W.kx 293 _ rfl) rfl rfl (codeRec_of W.kx rfl) rfl (names := ["_law_cell"]) (bind1 rfl fun _ => rfl) rfl (by decide) (fun n => mem1 (.inl rfl)) rfl rfl rfl fun A L frs hE R O => ?_
  refine Ex_assign (Pe.ev (Pe_strl tabA_eq) ?_) (.inl rfl)
  refine Ex_assign (Pe.ev (Pe_bin (Pe_var rfl) (Pe_strl tabB_eq) (B_cats (by rw [tabA_length, tabB_length]; decide))) ?_) (.inl rfl)
  refine Ex_ret (Pe.ev (Pe_sub (Pe_var rfl) (Pe_bin (Pe_var rfl) Pe_int (B_mod (by decide))) (G_str (ch := sg cell) (seqIndex_pos (by exact om102) ?_) ?_ (by exact om103))) ⟨rfl, rfl⟩)
  · rw [List.length_append, tabA_length, tabB_length]; exact om104
  · rw [sg, List.getD_eq_getElem?_getD, List.getElem?_eq_getElem (by rw [List.length_append, tabA_length, tabB_length]; exact om105)]; rfl
def txt (cell size : Int) : List Nat := (List.range size.toNat).map fun k : Nat => sg (cell + 7 * ((k : Int) / (1 + cell % 3)))
theorem txt_length (cell size : Int) : (txt cell size).length = size.toNat := by simp [txt]
theorem sp_text_by (W : Lw c (KK P) sc ns) (H : AH) (cell size : Int) (h0 : 0 ≤ size) (h1 : size ≤ 100000) : Fn c 2 (.ref 298) [.int cell, .int size] H (fun d H' => d = .s (txt cell size) ∧ H' = H) (fun _ _ => False) := by
  refine Fn_def W.ok.lim (W.kx 298 _ rfl) rfl rfl (codeRec_of W.kx rfl) rfl (names := ["_law_cell", "_law_size_here"]) (bind2 rfl fun _ _ => rfl) rfl (by decide) (fun n => mem2 (.inr ⟨rfl, rfl⟩) (.inl rfl)) rfl rfl rfl fun A L frs hE R O => ?_
  refine Ex_ret (Pe.ev (Pe.of_ext ?_) ⟨rfl, rfl⟩)
  refine Ev_meth plainAttrs_str slot_str_join (Pe_str.ev ⟨has_str, Evs_cons ?_⟩) type_str_join
  refine Ev_comp W.ok (EvIt_range1 R.handled ((Pe_glob W.ok (gb_range W)).ev ⟨rfl, Pe.ev (Pe_var rfl) ⟨size, rfl, by omega, by omega, ?_⟩⟩)) rfl (by decide) rfl (by decide) rfl (clN ⟨rfl, rfl, rfl⟩ cl0)
  · refine CompOk_map (((List.range size.toNat).map fun k : Nat => [sg (cell + 7 * ((k : Int) / (1 + cell % 3)))]).map V.s) (by simp) ?_ ?_ ?_
    · rw [List.length_map, List.length_range]; exact Nat.le_trans (by exact om106 h1 : size.toNat ≤ 100000) (by decide : 100000 ≤ sizeLine)
    · intro i d C hE hd
      refine e1a2 (map_item hd) fun k hk rq164 => ?_; obtain rfl := rq164
      refine ⟨_, map_item' (map_item' hk), ?_⟩
      refine Pe_F1 W.ok (W.glob rfl) (W.kx 293 _ rfl) rfl R O.frames (Pe_bin (Pe_var rfl) (Pe_bin Pe_int (Pe_bin (Pe_var rfl) (Pe_bin Pe_int (Pe_bin (Pe_var rfl) Pe_int (B_mod (by decide))) B_add) (B_div (by exact om107) (by exact om108))) (B_mul (mul_small (by decide)))) B_add) (sp_sign_by W H _)
    · intro a o ha
      refine Evs_nil ((J_join (set_same _ _ _) ?_).op ⟨?_, Ext.set (Ext.refl _) ha⟩)
      · rw [flat1, List.length_map, List.length_range]; exact om109 h1
      · rw [flat1]; rfl
theorem sp_next_text (W : Lw c (KK P) sc ns) (H : AH) (old : List Nat) (cell : Int) (ho : old.length ≤ 10000) :
    Fn c 3 (.ref 305) [.s old, .int cell] H (fun d H' => H' = H ∧ ∃ l : List Nat, d = .s l ∧ l.length ≤ old.length + 9) (fun _ _ => False) := by
  have hs : 1000000 ≤ sizeLine := by decide
  refine Fn_def W.ok.lim (W.kx 305 _ rfl) rfl rfl (codeRec_of W.kx rfl) rfl (names := ["_law_old", "_law_cell"]) (bind2 rfl fun _ _ => rfl) rfl (by decide) (fun n => mem2 (.inl rfl) (.inl rfl)) rfl rfl rfl fun A L frs hE R O => ?_
  have R1 : Room 1 A := R.le (by exact om110)
  refine Ex_assign (Pe.ev (Pe_bin (Pe_var rfl) Pe_int (B_mod (by decide))) ?_) (.inl rfl)
  refine Ex_assign (Pe.ev (Pe_bin (Pe_bin (Pe_var rfl) Pe_int (B_div (by decide) (by decide))) (Pe_bin (Pe_B1 W.ok (gb_len W) (Pe_var rfl) (L_str (by exact om111 ho hs))) Pe_int B_add) (B_mod (by exact om112))) ?_) (.inl rfl)
  refine Ex_assign (Pe.ev (Pe_bin (Pe_bin (Pe_var rfl) Pe_int (B_div (by decide) (by decide))) (Pe_bin (Pe_B1 W.ok (gb_len W) (Pe_var rfl) (L_str (by exact om111 ho hs))) Pe_int B_add) (B_div (by exact om112) (by exact om113 ho))) ?_) (.inl rfl)
  have a0 : 0 ≤ cell / 5 % ((old.length : Int) + 1) := Int.emod_nonneg _ (by exact om114)
  generalize cell / 5 % ((old.length : Int) + 1) = a at a0
  generalize cell / 5 / ((old.length : Int) + 1) = left
  refine Ex_ifp (Tp_cmp (Pe_var rfl) Pe_int B_eq beq_iff_eq) (fun _ => Ex_ret (Pe.ev (Pe_var rfl) ⟨rfl, old, rfl, by exact om115⟩)) (fun _ => ?_)
  refine Ex_ifp (Tp_cmp (Pe_var rfl) Pe_int B_eq beq_iff_eq) (fun _ => ?_) (fun _ => ?_)
  · refine Ex_ret (Pe.ev (Pe_bin (Pe_bin (Pe_bin (Pe_slice_ns (Pe_var rfl) (Pe_var rfl) a0 (by exact om111 ho hs)) (Pe_F1 W.ok (W.glob rfl) (W.kx 293 _ rfl) rfl R1 O.frames (Pe_var rfl) (sp_sign_by W _ _)) (B_cats ?_)) (Pe_F1 W.ok (W.glob rfl) (W.kx 293 _ rfl) rfl R1 O.frames (Pe_bin (Pe_var rfl) Pe_int (B_div (by decide) (by decide))) (sp_sign_by W _ _)) (B_cats ?_)) (Pe_slice_sn (Pe_var rfl) (Pe_var rfl) a0 (by exact om111 ho hs)) (B_cats ?_)) ⟨rfl, _, rfl, ?_⟩)
    all_goals simp only [List.length_append, List.length_take, List.length_drop, List.length_cons, List.length_nil]; omega
  refine Ex_ifp (Tp_cmp (Pe_var rfl) Pe_int B_eq beq_iff_eq) (fun _ => ?_) (fun _ => ?_)
  · refine Ex_ret (Pe.ev (Pe_bin (Pe_slice_ns (Pe_var rfl) (Pe_var rfl) a0 (by exact om111 ho hs)) (Pe_slice_sn (Pe_var rfl) (Pe_bin (Pe_bin (Pe_var rfl) Pe_int B_add) (Pe_bin (Pe_var rfl) Pe_int (B_mod (by decide))) B_add) (by exact om116 a0) (by exact om111 ho hs)) (B_cats ?_)) ⟨rfl, _, rfl, ?_⟩)
    all_goals simp only [List.length_append, List.length_take, List.length_drop, List.length_cons, List.length_nil]; omega
  refine Ex_ifp (Tp_cmp (Pe_var rfl) Pe_int B_eq beq_iff_eq) (fun _ => ?_) (fun _ => ?_)
  · refine Ex_ret (Pe.ev (Pe_bin (Pe_bin (Pe_slice_ns (Pe_var rfl) (Pe_var rfl) a0 (by exact om111 ho hs)) (Pe_F1 W.ok (W.glob rfl) (W.kx 293 _ rfl) rfl R1 O.frames (Pe_var rfl) (sp_sign_by W _ _)) (B_cats ?_)) (Pe_slice_sn (Pe_var rfl) (Pe_bin (Pe_var rfl) Pe_int B_add) (by exact om117 a0) (by exact om111 ho hs)) (B_cats ?_)) ⟨rfl, _, rfl, ?_⟩)
    all_goals simp only [List.length_append, List.length_take, List.length_drop, List.length_cons, List.length_nil]; omega
  refine Ex_ret (Pe.ev (Pe_F2 W.ok (W.glob rfl) (W.kx 298 _ rfl) rfl R O.frames (Pe_var rfl) (Pe_bin (Pe_var rfl) Pe_int (B_mod (by decide))) (sp_text_by W _ _ _ (by exact om118) (by exact om119))) ⟨rfl, _, rfl, ?_⟩)
  rw [txt_length]; exact om120
theorem one_iff {l r : List Nat} {i j : Nat} {x y : Nat} (hl : l[i]? = some x) (hr : r[j]? = some y) : decide ([x] = [y]) = true ↔ l[i]? = r[j]? := by
  rw [hl, hr]; simp
theorem sp_law_change_of (W : Lw c (KK P) sc ns) (H : AH) (old new : List Nat) (ho : old.length ≤ 100000) (hn : new.length ≤ 100000) :
    Fn c 1 (.ref 312) [.s old, .s new] H (fun d H' => H' = H ∧ ∃ a e : Nat, Chg old new a e ∧ d = .tup [.int a, .s ((old.take (old.length - e)).drop a), .s ((new.take (new.length - e)).drop a)]) (fun _ _ => False) := by
  have hs : 1000000 ≤ sizeLine := by decide
  refine Fn_def W.ok.lim (W.kx 312 _ rfl) rfl rfl (codeRec_of W.kx rfl) rfl (names := ["_law_old", "_law_new"]) (bind2 rfl fun _ _ => rfl) rfl (by decide) (fun n => mem2 (.inl rfl) (.inl rfl)) rfl rfl rfl fun A L frs hE R O => ?_
  obtain ⟨most, hm⟩ : ∃ k : Nat, k = min old.length new.length := ⟨_, rfl⟩
  have hmi : min (old.length : Int) (new.length : Int) = (most : Int) := by exact om121 hm
  refine Ex_assign (Pe.ev Pe_int ?_) (.inl rfl)
  refine Ex_while1 O (fun a : Nat => .int a) (fun a => most - a) (fun a => a ≤ most ∧ old.take a = new.take a) (fun a => (a : Int) < most ∧ old[a]? = new[a]? ∧ True) 0 ⟨by exact om122, by simp⟩ rfl (fun a ⟨h1, h2⟩ => ?_) (fun a ⟨h1, h2⟩ ⟨h3, h4, _⟩ => ?_) (fun a ⟨h1, h2⟩ h3 => ?_)
  · refine Tp_and (Tpa_cons (Tp_cmp (Pe_var rfl) (Pe_B2 W.ok (gb_min W) (Pe_B1 W.ok (gb_len W) (Pe_var rfl) (L_str (by exact om93 ho hs))) (Pe_B1 W.ok (gb_len W) (Pe_var rfl) (L_str (by exact om93 hn hs))) (M_min R.handled)) B_lt (by rw [hmi]; exact decide_eq_true_iff)) fun g => Tpa_cons ?_ fun _ => Tpa_nil)
    have e1 : old[a]? = some old[a] := List.getElem?_eq_getElem (by exact om123 hm g)
    have e2 : new[a]? = some new[a] := List.getElem?_eq_getElem (by exact om124 hm g)
    exact Tp_cmp (Pe_sub (Pe_var rfl) (Pe_var rfl) (G_str (seqIndex_pos (by exact om68) (by exact om125 hm g)) e1 (by exact om126 hn hm g))) (Pe_sub (Pe_var rfl) (Pe_var rfl) (G_str (seqIndex_pos (by exact om68) (by exact om127 hm g)) e2 (by exact om126 hn hm g))) B_eqss (one_iff e1 e2)
  · refine Ex_assign (Pe.ev (Pe_bin (Pe_var rfl) Pe_int B_add) (Ex_nil ⟨rfl, rfl, a + 1, ⟨by omega, ?_⟩, by omega, Loc.set_set _ _ _ _⟩)) (.inl rfl)
    rw [List.take_add_one, List.take_add_one, h2, h4]
  have sA : a = min old.length new.length ∨ old[a]? ≠ new[a]? := by
    by_cases q : a = most
    · exact .inl (q.trans hm)
    · exact .inr fun z => h3 ⟨by omega, z, trivial⟩
  refine Ex_assign (Pe.ev Pe_int ?_) (.inl rfl)
  refine Ex_while1 O (fun e : Nat => .int e) (fun e => most - e) (fun e => a + e ≤ most ∧ old.drop (old.length - e) = new.drop (new.length - e)) (fun e => (e : Int) < (most : Int) - (a : Int) ∧ old[old.length - 1 - e]? = new[new.length - 1 - e]? ∧ True) 0 ⟨by omega, by simp⟩ rfl (fun e ⟨k1, k2⟩ => ?_) (fun e ⟨k1, k2⟩ ⟨k3, k4, _⟩ => ?_) (fun e ⟨k1, k2⟩ k3 => ?_)
  · refine Tp_and (Tpa_cons (Tp_cmp (Pe_var rfl) (Pe_bin (Pe_B2 W.ok (gb_min W) (Pe_B1 W.ok (gb_len W) (Pe_var rfl) (L_str (by exact om93 ho hs))) (Pe_B1 W.ok (gb_len W) (Pe_var rfl) (L_str (by exact om93 hn hs))) (M_min R.handled)) (Pe_var rfl) B_sub) B_lt (by rw [hmi]; exact decide_eq_true_iff)) fun g => Tpa_cons ?_ fun _ => Tpa_nil)
    have e1 : old[old.length - 1 - e]? = some old[old.length - 1 - e] := List.getElem?_eq_getElem (by omega)
    have e2 : new[new.length - 1 - e]? = some new[new.length - 1 - e] := List.getElem?_eq_getElem (by omega)
    have s1 : seqIndex? (-1 - (e : Int)) old.length = some (old.length - 1 - e) := (seqIndex_neg (by exact om128) (by omega)).trans (congrArg some (by exact om129))
    have s2 : seqIndex? (-1 - (e : Int)) new.length = some (new.length - 1 - e) := (seqIndex_neg (by exact om128) (by omega)).trans (congrArg some (by exact om129))
    exact Tp_cmp (Pe_sub (Pe_var rfl) (Pe_bin (Pe_neg Pe_int) (Pe_var rfl) B_sub) (G_str s1 e1 (by omega))) (Pe_sub (Pe_var rfl) (Pe_bin (Pe_neg Pe_int) (Pe_var rfl) B_sub) (G_str s2 e2 (by omega))) B_eqss (one_iff e1 e2)
  · refine Ex_assign (Pe.ev (Pe_bin (Pe_var rfl) Pe_int B_add) (Ex_nil ⟨rfl, rfl, e + 1, ⟨by omega, ?_⟩, by omega, Loc.set_set _ _ _ _⟩)) (.inl rfl)
    have e1 : old[old.length - 1 - e]? = some old[old.length - 1 - e] := List.getElem?_eq_getElem (by omega)
    have e2 : new[new.length - 1 - e]? = some new[new.length - 1 - e] := List.getElem?_eq_getElem (by omega)
    rw [show old.length - (e + 1) = old.length - 1 - e by exact om130, show new.length - (e + 1) = new.length - 1 - e by exact om130, List.drop_eq_getElem_cons (l := old) (i := old.length - 1 - e) (by omega), List.drop_eq_getElem_cons (l := new) (i := new.length - 1 - e) (by omega), show old.length - 1 - e + 1 = old.length - e by omega, show new.length - 1 - e + 1 = new.length - e by omega, k2]
    rw [e1, e2] at k4
    injection k4 with k4
    rw [k4]
  have sE : a + e = min old.length new.length ∨ old[old.length - 1 - e]? ≠ new[new.length - 1 - e]? := by
    by_cases q : a + e = most
    · exact .inl (q.trans hm)
    · exact .inr fun z => k3 ⟨by omega, z, trivial⟩
  refine Ex_ret (Pe.ev (Pe_tuple (Pes_cons (Pe_var rfl) (Pes_cons (Pe_slice_ss (Pe_var rfl) (Pe_var rfl) (Pe_bin (Pe_B1 W.ok (gb_len W) (Pe_var rfl) (L_str (by exact om93 ho hs))) (Pe_var rfl) B_sub) (by exact om68) (by omega) (by exact om93 ho hs)) (Pes_cons (Pe_slice_ss (Pe_var rfl) (Pe_var rfl) (Pe_bin (Pe_B1 W.ok (gb_len W) (Pe_var rfl) (L_str (by exact om93 hn hs))) (Pe_var rfl) B_sub) (by exact om68) (by omega) (by exact om93 hn hs)) Pes_nil))) (three_fits _ _ _)) ⟨rfl, a, e, ⟨by omega, by omega, h2, k2, sA, sE⟩, ?_⟩)
  rw [show ((old.length : Int) - (e : Int)).toNat = old.length - e by exact om131, show ((new.length : Int) - (e : Int)).toNat = new.length - e by exact om131]
  rfl
theorem sp_wide_change (W : Lw c (KK P) sc ns) (H : AH) (old new : List Nat) (way : Int) (ho : old.length ≤ 20000) (hn : new.length ≤ 20000) :
    Fn c 2 (.ref 319) [.s old, .s new, .int way] H (fun d H' => H' = H ∧ ∃ a gone come, d = chg a gone come ∧ Step old new a gone come) (fun _ _ => False) := by
  have hs : 1000000 ≤ sizeLine := by decide
  refine Fn_def W.ok.lim (W.kx 319 _ rfl) rfl rfl (codeRec_of W.kx rfl) rfl (names := ["_law_old", "_law_new", "_law_way"]) (bind3 rfl fun _ _ _ => rfl) rfl (by decide) (fun n => mem3 (.inl rfl) (.inl rfl) (.inl rfl)) rfl rfl rfl fun A L frs hE R O => ?_
  refine Ex_assign (Ev_F2 W.ok (W.glob rfl) (W.kx 312 _ rfl) rfl R O.frames (Pe_var rfl) (Pe_var rfl) (Fn.mono (sp_law_change_of W H old new (by exact om132 ho) (by exact om132 hn)) (fun d H' z => ?_) fun _ _ z => z.elim)) (.inl rfl)
  obtain ⟨rfl, a, e, C, rfl⟩ := z
  have c1 := C.le
  have c2 := C.le'
  refine Ex_assign (Pe.ev (Pe_sub (Pe_var rfl) Pe_int (G_tup (d := .int a) (j := 0) rfl rfl (by decide))) ?_) (.inl rfl)
  refine Ex_if_set (Tp_cmp (Pe_var rfl) Pe_int B_eq beq_iff_eq) (fun _ => Pe_B2 W.ok (gb_max W) Pe_int (Pe_bin (Pe_var rfl) Pe_int B_sub) (M_max R.handled)) (fun d hd => ?_) (.inl rfl)
  obtain ⟨p, rfl, hp⟩ : ∃ p : Nat, d = .int p ∧ p ≤ a := by
    rcases hd with ⟨_, rfl⟩ | ⟨_, rfl⟩
    · exact ⟨a - 2, congrArg V.int (by exact om133), by exact om134⟩
    · exact ⟨a, rfl, Nat.le_refl _⟩
  refine Ex_ifp (Tp_cmp (Pe_var rfl) Pe_int B_eq beq_iff_eq) (fun _ => ?_) (fun _ => ?_)
  · exact Ex_ret (Pe.ev (Pe_tuple (Pes_cons Pe_int (Pes_cons (Pe_var rfl) (Pes_cons (Pe_var rfl) Pes_nil))) (three_fits _ _ _)) ⟨rfl, 0, old, new, rfl, Step.whole old new⟩)
  · refine Ex_ret (Pe.ev (Pe_tuple (Pes_cons (Pe_var rfl) (Pes_cons (Pe_bin (Pe_slice_ss (Pe_var rfl) (Pe_var rfl) (Pe_sub (Pe_var rfl) Pe_int (G_tup (d := .int a) (j := 0) rfl rfl (by decide))) (by exact om68) (by exact om68) (by exact om135 ho hs)) (Pe_sub (Pe_var rfl) Pe_int (G_tup (d := .s ((old.take (old.length - e)).drop a)) (j := 1) rfl rfl (by decide))) (B_cats ?_)) (Pes_cons (Pe_bin (Pe_slice_ss (Pe_var rfl) (Pe_var rfl) (Pe_sub (Pe_var rfl) Pe_int (G_tup (d := .int a) (j := 0) rfl rfl (by decide))) (by exact om68) (by exact om68) (by exact om135 ho hs)) (Pe_sub (Pe_var rfl) Pe_int (G_tup (d := .s ((new.take (new.length - e)).drop a)) (j := 2) rfl rfl (by decide))) (B_cats ?_)) Pes_nil))) (three_fits _ _ _)) ⟨rfl, p, _, _, rfl, ?_⟩)
    · simp only [List.length_drop, List.length_take]; exact Nat.le_trans (Nat.add_le_add (Nat.le_trans (Nat.sub_le _ _) (Nat.min_le_right _ _)) (Nat.le_trans (Nat.sub_le _ _) (Nat.min_le_right _ _))) (by exact om136 ho hs)
    · simp only [List.length_drop, List.length_take]; exact Nat.le_trans (Nat.add_le_add (Nat.le_trans (Nat.sub_le _ _) (Nat.min_le_left (Int.toNat ((a : Nat) : Int)) _)) (Nat.le_trans (Nat.sub_le _ _) (Nat.min_le_right _ _))) (show a + new.length ≤ sizeLine by exact om137 ho hn hs c1)
    · exact C.step hp
theorem sp_names (W : Lw c (KK P) sc ns) (H : AH) (ca : Addr) (cs : List Int) (lc : ListAt H ca (cs.map V.int)) (few : cs.length ≤ 100) :
    Fn c 1 (.ref 326) [.ref ca] H (fun d H' => ∃ (a : Addr) (nm : List Int), d = .ref a ∧ Ext H H' ∧ H a = none ∧ ListAt H' a (nm.map V.int) ∧ nm.length = cs.length ∧ nm.Nodup ∧ ∀ x ∈ nm, 0 ≤ x) (fun _ _ => False) := by
  have hs : 1000000 ≤ sizeLine := by decide
  refine Fn_def W.ok.lim (W.kx 326 _ rfl) rfl rfl (codeRec_of W.kx rfl) rfl (names := ["_law_cells_here"]) (bind1 rfl fun _ => rfl) rfl (by decide) (fun n => mem1 (.inl rfl)) rfl rfl rfl fun A L frs hE R O => ?_
  refine Ex_assign (Ev_list W.ok (Evs_nil ⟨Nat.zero_le _, fun a o ha => ?_⟩)) (.inl rfl)
  have cna : ca ≠ a := lc.ne_new ha
  refine Ex_assign (Pe.ev (Pe_neg Pe_int) ?_) (.inl rfl)
  refine Ex_for O (EvIt_list R.handled (Pe.ev (Pe_var rfl) ⟨ca, _, rfl, lc.ne cna, fun i m' H' => ∃ (o : Obj) (nm : List Int) (num : Int), H' = H.set a ⟨o, .list (nm.map V.int)⟩ ∧ nm.length = i ∧ nm.Nodup ∧ (∀ x ∈ nm, 0 ≤ x ∧ x ≤ num) ∧ -1 ≤ num ∧ m' (Str.ofString "_law_names_here") = some (.ref a) ∧ m' (Str.ofString "_law_number") = some (.int num), ⟨o, [], -1, rfl, rfl, List.nodup_nil, (fun _ h => nomatch h), Int.le_refl _, rfl, rfl⟩, ?_, ?_⟩)) (.inl rfl)
  · rintro i d m' H' kp hd rz6 _; refine e3a7 rz6 fun o nm num rq165 hl nd hx h1 mn mu => ?_; clear rz6; obtain rfl := rq165
    refine e1a2 (map_item hd) fun cell hc rq166 => ?_; obtain rfl := rq166
    have il : i < cs.length := (List.getElem?_eq_some_iff.mp hc).1
    refine Ex_assign (Pe.ev (Pe_bin (Pe_bin (Pe_var mu) Pe_int B_add) (Pe_bin (Pe_bin (Pe_var rfl) Pe_int (B_div (by decide) (by decide))) Pe_int (B_mod (by decide))) B_add) ?_) (.inl rfl)
    refine Ex_if_set (Tp_cmp (Pe_bin (Pe_bin (Pe_var rfl) Pe_int (B_div (by decide) (by decide))) Pe_int (B_mod (by decide))) Pe_int B_eq beq_iff_eq) (fun _ => Pe_bin (Pe_var rfl) (Pe_bin Pe_int Pe_int (B_pow (by decide) (by decide) (by decide))) B_add) (fun d hd2 => ?_) (.inl rfl)
    obtain ⟨nx, rfl, hnx⟩ : ∃ nx : Int, d = .int nx ∧ num < nx := by
      rcases hd2 with ⟨_, rfl⟩ | ⟨_, rfl⟩
      · exact ⟨_, rfl, by show num < num + 1 + cell / 3 % 3 + 10 ^ 12; omega⟩
      · exact ⟨_, rfl, by exact om138⟩
    refine Ex_appendS (Pe_var mn) (Pe_var rfl) (ListAt.same _ _ _ _) (by rw [List.length_map]; exact om139 few hs hl il) fun o' => Ex_nil ⟨⟨o', nm ++ [nx], nx, ?_, by simp [hl], ?_, fun x h => ?_, by exact om140 h1 hnx, mn, rfl⟩, fun y hy => ?_⟩
    · rw [AH.set_set, List.map_append]; rfl
    · rw [List.nodup_append]
      refine ⟨nd, by simp, fun x h y h' e => ?_⟩
      simp at h'; subst h'; have := (hx x h).2; exact om141 e hnx this
    · rcases List.mem_append.mp h with h | h
      · have := hx x h; exact om142 hnx this
      · rw [List.mem_singleton] at h; exact om143 h1 hnx h
    · rw [List.mem_singleton] at hy; subst hy
      rw [AH.set_set, set_ne _ _ cna, set_ne _ _ cna]
  · rintro m' H' rz7 _; refine e3a7 rz7 fun o nm num rq167 hl nd hx h1 mn mu => ?_; clear rz7; obtain rfl := rq167
    rw [List.length_map] at hl
    exact Ex_ret (Pe.ev (Pe_var mn) ⟨a, nm, rfl, Ext.set (Ext.refl _) ha, ha, ListAt.same _ _ _ _, hl, nd, fun x h => (hx x h).1⟩)
theorem sp_size (W : Lw c (KK P) sc ns) (H : AH) (cell : Int) : Fn c 1 (.ref 333) [.int cell] H (fun d H' => H' = H ∧ ∃ s : Int, d = .int s ∧ 0 ≤ s ∧ s < 400) (fun _ _ => False) := by
  refine Fn_def W.ok.lim (W.kx 333 _ rfl) rfl rfl (codeRec_of W.kx rfl) rfl (names := ["_law_cell"]) (bind1 rfl fun _ => rfl) rfl (by decide) (fun n => mem1 (.inl rfl)) rfl rfl rfl fun A L frs hE R O => ?_
  refine Ex_ifp (Tp_cmp (Pe_bin (Pe_bin (Pe_var rfl) Pe_int (B_div (by decide) (by decide))) Pe_int (B_mod (by decide))) Pe_int B_eq beq_iff_eq) (fun _ => ?_) (fun _ => ?_)
  · exact Ex_ret (Pe.ev (Pe_bin (Pe_bin Pe_int (Pe_bin (Pe_var rfl) Pe_int (B_div (by decide) (by decide))) (B_mul (mul_small (by decide)))) Pe_int (B_mod (by decide))) ⟨rfl, _, rfl, by exact om144, by exact om145⟩)
  · exact Ex_ret (Pe.ev (Pe_bin (Pe_var rfl) Pe_int (B_mod (by decide))) ⟨rfl, _, rfl, by exact om118, by exact om146⟩)
theorem sp_rows_of (W : Lw c (KK P) sc ns) (H : AH) (hd : Addr) (kvs : List (Int × V)) (tx : Int → List Nat) (rk : Int → Nat) (D : DictIs H hd kvs) (E : Held kvs tx rk) :
    Fn c 1 (.ref 343) [.ref hd] H (fun d H' => ∃ a srt, d = .ref a ∧ Ext H H' ∧ H a = none ∧ Srt kvs srt ∧ ListAt H' a (rowsOf kvs srt)) (fun _ _ => False) := by
  have hs : 1000000 ≤ sizeLine := by decide
  have few := E.few
  refine Fn_def W.ok.lim (W.kx 343 _ rfl) rfl rfl (codeRec_of W.kx rfl) rfl (names := ["_law_kept"]) (bind1 rfl fun _ => rfl) rfl (by decide) (fun n => mem1 (.inr ⟨rfl, rfl⟩)) rfl rfl rfl fun A L frs hE R O => ?_
  refine Ex_ret (Ev_comp W.ok (EvIt_list R.handled (Ev_B1e W.ok (gb_sorted W) (Pe.ev (Pe_var rfl) (O_sorted W.ok R.handled D (by exact om147 few) fun asr osr srt hsr pm pw => ⟨asr, _, rfl, ListAt.same _ _ _ _, ?_⟩)))) rfl (by decide) rfl (by decide) rfl (clN ⟨rfl, rfl, rfl⟩ cl0))
  have S : Srt kvs srt := ⟨pm, pw⟩
  have D1 := D.fresh (x := ⟨osr, .list (srt.map V.int)⟩) hsr
  refine CompOk_map (rowsOf kvs srt) (by unfold rowsOf; simp) (by have := S.len; simp; exact om148 hs few this) ?_ ?_
  · intro i d C hE hdd
    refine e1a2 (map_item hdd) fun k hk rq168 => ?_; obtain rfl := rq168
    have kk := S.mem.mp (List.mem_of_getElem? hk)
    refine ⟨_, map_item' hk, ?_⟩
    exact Pe_tuple (Pes_cons (Pe_var rfl) (Pes_cons (Pe_sub (Pe_sub (Pe_var rfl) (Pe_var rfl) (G_dict D1 (dgetD_key kk))) Pe_int (G_held E kk).1) (Pes_cons (Pe_sub (Pe_sub (Pe_var rfl) (Pe_var rfl) (G_dict D1 (dgetD_key kk))) Pe_int (G_held E kk).2) Pes_nil))) (three_fits _ _ _)
  · intro a o ha
    exact ⟨a, srt, rfl, Ext.set (Ext.set (Ext.refl _) hsr) ha, (Ext.set (x := ⟨osr, .list (srt.map V.int)⟩) (Ext.refl _) hsr).none ha, S, ListAt.same _ _ _ _⟩
theorem sp_kchain (W : Lw c (KK P) sc ns) (H : AH) (b : Addr) (kvs : List (Int × V)) (tx : Int → List Nat) (rk : Int → Nat) (n : Int) (hb : DictIs H b kvs) (E : Held kvs tx rk) (hn : Key kvs n) :
    Fn c 1 (.ref 350) [.ref b, .int n] H (fun d H' => ∃ a o xs, d = .ref a ∧ H a = none ∧ H' = H.set a ⟨o, .list (xs.map V.int)⟩ ∧ IsChain (bases kvs) n xs ∧ xs.length ≤ 50) (fun _ _ => False) := by
  have hs : 1000000 ≤ sizeLine := by decide
  refine Fn_def W.ok.lim (W.kx 350 _ rfl) rfl rfl (codeRec_of W.kx rfl) rfl (names := ["_law_kept", "_law_number"]) (bind2 rfl fun _ _ => rfl) rfl (by decide) (fun n => mem2 (.inl rfl) (.inl rfl)) rfl rfl rfl fun A L frs hE R O => ?_
  refine Ex_assign (Ev_list W.ok (Pes.evs (Pes_cons (Pe_var rfl) Pes_nil) ⟨by show 1 ≤ sizeLine; exact om149 hs, fun a o ha => ?_⟩)) (.inl rfl)
  have hba : b ≠ a := hb.ne_new ha
  refine Ex_while O (fun k m' H' => ∃ (o : Obj) (pre : List Int) (x : Int), H' = H.set a ⟨o, .list ((pre ++ [x]).map V.int)⟩ ∧ k = rk x ∧ Key kvs x ∧ pre.length + rk x ≤ rk n ∧ (∀ xs, IsChain (bases kvs) x xs → IsChain (bases kvs) n (pre ++ xs)) ∧ m' (Str.ofString "_law_kept") = some (.ref b) ∧ m' (Str.ofString "_law_chain_here") = some (.ref a)) (rk n) ⟨o, [], n, rfl, rfl, hn, by simp, fun xs h => by simpa using h, rfl, rfl⟩ ?_
  rintro k m' H' rz8; refine e3a7 rz8 fun o pre x rq169 rq170 hx hlen hpre mb mc => ?_; clear rz8; obtain rfl := rq169; obtain rfl := rq170
  have hl : ListAt (H.set a ⟨o, .list ((pre ++ [x]).map V.int)⟩) a ((pre ++ [x]).map V.int) := ListAt.same _ _ _ _
  have hb' : DictIs (H.set a ⟨o, .list ((pre ++ [x]).map V.int)⟩) b kvs := hb.ne hba
  have low := E.low n
  have hlen1 : ((pre ++ [x]).map V.int).length = pre.length + 1 := by simp
  have s1 : seqIndex? (-1) ((pre ++ [x]).map V.int).length = some pre.length := by rw [hlen1]; exact (seqIndex_neg (by exact om150) (by exact om151)).trans (congrArg some (by exact om152))
  have g1 : ((pre ++ [x]).map V.int)[pre.length]? = some (.int x) := by simp
  refine Ts.mono (Tp_isNotNone (Pe_sub (Pe_sub (Pe_var mb) (Pe_sub (Pe_var mc) (Pe_neg Pe_int) (G_list hl s1 g1 (by exact om153))) (G_dict hb' (dgetD_key hx))) Pe_int (G_held E hx).1)) (fun t H' ⟨e, q⟩ => ?_) fun _ _ z => z.elim
  subst e
  have gb : dget (bases kvs) x = some (base0 (dgetD kvs x)) := by rw [dget_bases, dgetD_key hx]; rfl
  have ent := E.ent x _ (dgetD_key hx)
  refine ⟨fun ht => ?_, fun ht => ?_⟩
  · obtain ⟨y, hy0, hy, hlt⟩ : ∃ y, base0 (dgetD kvs x) = .int y ∧ Key kvs y ∧ rk y < rk x := by
      generalize dgetD kvs x = d0 at ent q
      cases ent with
      | root => exact (q.mp ht rfl).elim
      | lean bb at_ gone come hbb hlt stp => exact ⟨bb, rfl, hbb, hlt⟩
    refine Ex_appendS (Pe_var mc) (Pe_sub (Pe_sub (Pe_var mb) (Pe_sub (Pe_var mc) (Pe_neg Pe_int) (G_list hl s1 g1 (by exact om153))) (G_dict hb' (dgetD_key hx))) Pe_int (G_held E hx).1) hl (by exact om154 hs hlen low hlen1) (fun o' => Ex_nil ⟨rk y, hlt, o', pre ++ [x], y, ?_, rfl, hy, by simp; exact om155 hlen hlt, fun xs h => ?_, mb, mc⟩)
    · rw [AH.set_set, hy0]; simp
    · simpa using hpre _ (.step (hy0 ▸ gb) h)
  · have h0 : base0 (dgetD kvs x) = .none := by
      apply Classical.byContradiction; intro z
      rw [q.mpr z] at ht; cases ht
    exact Ex_ret (Pe.ev (Pe_var mc) ⟨a, o, pre ++ [x], rfl, ha, rfl, hpre _ (.stop (h0 ▸ gb)), by simp; exact om156 hlen low⟩)
theorem sp_longest (W : Lw c (KK P) sc ns) (H : AH) (hd : Addr) (kvs : List (Int × V)) (tx : Int → List Nat) (rk : Int → Nat) (D : DictIs H hd kvs) (E : Held kvs tx rk) (hne : kvs ≠ []) :
    Fn c 2 (.ref 355) [.ref hd] H (fun d H' => H' = H ∧ ∃ M : Int, d = .int M ∧ 0 ≤ M ∧ M ≤ 60 ∧ (∃ k xs, Key kvs k ∧ IsChain (bases kvs) k xs ∧ (xs.length : Int) = M + 1) ∧ ∀ k xs, IsChain (bases kvs) k xs → (xs.length : Int) ≤ M + 1) (fun _ _ => False) := by
  have hs : 1000000 ≤ sizeLine := by decide
  have few := E.few
  obtain ⟨cl, hcl⟩ : ∃ cl : Int → List Int, ∀ k, Key kvs k → IsChain (bases kvs) k (cl k) ∧ (cl k).length ≤ 41 := by
    classical
    refine ⟨fun k => if h : Key kvs k then Classical.choose (E.chain h) else [], fun k h => ?_⟩
    dsimp only; rw [dif_pos h]; exact Classical.choose_spec (E.chain h)
  have key : ∀ k xs, IsChain (bases kvs) k xs → Key kvs k := fun k xs h => by
    have : ∃ d, dget (bases kvs) k = some d := by cases h with | stop e => exact ⟨_, e⟩ | step e _ => exact ⟨_, e⟩
    obtain ⟨d, e⟩ := this
    rw [dget_bases] at e
    cases q : dget kvs k with
    | none => rw [q] at e; cases e
    | some d' => exact ⟨d', q⟩
  refine e1a2 (exists_max ((kvs.map (·.1)).map fun k => ((cl k).length : Int) - 1) (by simpa using hne)) fun M hM1 hM2 => ?_
  refine Fn.of_ext (Fn.mono (Q := fun d H' => Ext H H' ∧ d = .int M) (X := fun _ _ => False) ?_ (fun d H' z => ⟨z.1, rfl, M, z.2, ?_⟩) fun _ _ z => z.elim)
  case refine_2 =>
    refine e1a2 (List.mem_map.mp hM1) fun k hk rq171 => ?_; obtain rfl := rq171
    obtain ⟨c1, c2⟩ := hcl k (key_iff.mpr hk)
    obtain ⟨r, hr⟩ := c1.head
    have : 1 ≤ (cl k).length := by rw [hr]; simp
    refine ⟨by exact om157 this, by exact om158 c2, ⟨k, cl k, key_iff.mpr hk, c1, by exact om159⟩, fun k' xs h => ?_⟩
    have kk := key k' xs h
    have e := h.uniq (hcl k' kk).1
    subst e
    have := hM2 _ (List.mem_map.mpr ⟨k', key_iff.mp kk, rfl⟩)
    exact om160 this
  refine Fn_def W.ok.lim (W.kx 355 _ rfl) rfl rfl (codeRec_of W.kx rfl) rfl (names := ["_law_kept"]) (bind1 rfl fun _ => rfl) rfl (by decide) (fun n => mem1 (.inr ⟨rfl, rfl⟩)) rfl rfl rfl fun A L frs hE R O => ?_
  refine Ex_ret (Ev_B1e W.ok (gb_max W) (Ev_comp W.ok (EvIt_dict R.handled (Pe.ev (Pe_var rfl) ⟨hd, kvs, rfl, D, ?_⟩)) rfl (by decide) rfl (by decide) rfl (clN ⟨rfl, rfl, rfl⟩ cl0)))
  refine CompOk_map (((kvs.map (·.1)).map fun k => ((cl k).length : Int) - 1).map V.int) (by simp) (by simp; exact om161 hs few) ?_ ?_
  · intro i d C hE hdd
    refine e1a2 (map_item hdd) fun rq172 hk rq173 => ?_; obtain ⟨k, dk⟩ := rq172; obtain rfl := rq173
    have kk : Key kvs k := ⟨dk, dget_of_mem E.nd (List.mem_of_getElem? hk)⟩
    refine ⟨_, map_item' (map_item' (map_item' hk)), ?_⟩
    refine Pe_bin (Pe.of_ext (d := .int (cl k).length) (Ev_B1e W.ok (gb_len W) (Ev_F2 W.ok (W.glob rfl) (W.kx 350 _ rfl) rfl R O.frames (Pe_var rfl) (Pe_var rfl) (Fn.mono (sp_kchain W H hd kvs tx rk k D E kk) (fun d H3 z => ?_) fun _ _ z => z.elim)))) Pe_int B_sub
    refine e3a5 z fun a3 o3 xs rq174 h3 rq175 ch xl => ?_; clear z; obtain rfl := rq174; obtain rfl := rq175
    have e := ch.uniq (hcl k kk).1
    subst e
    exact (L_list (ListAt.same H a3 o3 ((cl k).map V.int)) (by rw [List.length_map]; exact om162 hs xl)).op ⟨congrArg V.int (by rw [List.length_map]), Ext.set (Ext.refl _) h3⟩
  · intro a o ha
    exact (M_maxL R.handled (ListAt.same _ _ _ _) hM1 hM2).op ⟨Ext.set (Ext.refl _) ha, rfl⟩
theorem rot_ok {nm : List Int} {many : Nat} {s : Int} (h1 : 1 ≤ many) (nl : nm.length = many) (nd : nm.Nodup) (np : ∀ x ∈ nm, 0 ≤ x) :
    ((List.range many).map fun k : Nat => nm.getD (((k : Int) + s) % (many : Int)).toNat 0).Nodup ∧ ∀ x ∈ (List.range many).map fun k : Nat => nm.getD (((k : Int) + s) % (many : Int)).toNat 0, 0 ≤ x := by
  have lt : ∀ k : Nat, (((k : Int) + s) % (many : Int)).toNat < nm.length := fun k => by
    have a := Int.emod_nonneg ((k : Int) + s) (b := (many : Int)) (by exact om163 h1)
    have b := Int.emod_lt_of_pos ((k : Int) + s) (b := (many : Int)) (by exact om164 h1)
    exact om165 h1 nl b
  have ge : ∀ k : Nat, nm.getD (((k : Int) + s) % (many : Int)).toNat 0 = nm[(((k : Int) + s) % (many : Int)).toNat]'(lt k) := fun k => by
    rw [List.getD_eq_getElem?_getD, List.getElem?_eq_getElem (lt k)]; rfl
  constructor
  · refine List.Pairwise.map _ ?_ (List.Pairwise.and_mem.mp List.nodup_range)
    rintro a b rz9 e; refine e0a3 rz9 fun ha hb hne => ?_; clear rz9
    rw [ge a, ge b] at e
    have e2 := (List.getElem_inj (h₀ := lt a) (h₁ := lt b) nd).mp e
    have pa := Int.emod_nonneg ((a : Int) + s) (b := (many : Int)) (by omega)
    have pb := Int.emod_nonneg ((b : Int) + s) (b := (many : Int)) (by omega)
    have ha := List.mem_range.mp ha
    have hb := List.mem_range.mp hb
    have := mod_inj (m := (many : Int)) (by omega) (a := (a : Int) + s) (b := (b : Int) + s) (by omega) (by omega) (by omega)
    exact hne (by omega)
  · intro x hx
    refine e1a2 (List.mem_map.mp hx) fun k _ rq176 => ?_; obtain rfl := rq176
    rw [ge k]; exact np _ (List.getElem_mem _)
theorem sp_made (W : Lw c (KK P) sc ns) (H : AH) (ca : Addr) (cs : List Int) (many : Nat) (shift : Int) (lc : ListAt H ca (cs.map V.int)) (hl : cs.length = 3 * many) (h1 : 1 ≤ many) (h2 : many ≤ 14) :
    Fn c 4 (.ref 338) [.ref ca, .int shift] H (fun d H' => ∃ (ar ak ta : Addr) (kvs : List (Int × V)) (tx : Int → List Nat) (rk : Int → Nat), d = .ref ar ∧ Ext H H' ∧ H ar = none ∧ H ak = none ∧ H ta = none ∧ ListAt H' ar [.ref ak, .ref ta] ∧ DictIs H' ak kvs ∧ DictIs H' ta (kvs.map fun p => (p.1, V.s (tx p.1))) ∧ Held kvs tx rk ∧ kvs.length = many ∧ ak ≠ ta ∧ ∀ k, Key kvs k → 0 ≤ k ∧ (tx k).length ≤ 600) (fun _ _ => False) := by
  have hs : 1000000 ≤ sizeLine := by decide
  refine Fn_def W.ok.lim (W.kx 338 _ rfl) rfl rfl (codeRec_of W.kx rfl) rfl (names := ["_law_cells_here", "_law_shift"]) (bind2 rfl fun _ _ => rfl) rfl (by decide) (fun n => mem2 (.inl rfl) (.inr ⟨rfl, rfl⟩)) rfl rfl rfl fun A L frs hE R O => ?_
  have R1 : Room 1 A := R.le (by exact om166)
  have R2 : Room 2 A := R.le (by exact om167)
  have hlm : (cs.map V.int).length = 3 * many := by rw [List.length_map]; exact hl
  refine Ex_assign (Pe.ev (Pe_bin (Pe_B1 W.ok (gb_len W) (Pe_var rfl) (L_list lc (by exact om168 h2 hs hlm))) Pe_int (B_div (by decide) (by decide))) ?_) (.inr ⟨rfl, rfl⟩)
  rw [show ((cs.map V.int).length : Int) / 3 = (many : Int) by exact om169 hlm]
  refine Ex_assign (Ev_F1e W.ok (W.glob rfl) (W.kx 326 _ rfl) rfl R1 O.frames (Ev_lslice_sn W.ok (Pe_var rfl) (Pe_bin Pe_int (Pe_var rfl) (B_mul (mul_small (by decide)))) lc (by exact om170) (by exact om171 hlm) (by exact om168 h2 hs hlm) fun sa so hsa => ?_)) (.inr ⟨rfl, rfl⟩)
  have e0 : Ext H (H.set sa ⟨so, .list ((cs.map V.int).drop (2 * (many : Int)).toNat)⟩) := Ext.set (Ext.refl _) hsa
  have dl : (cs.drop (2 * (many : Int)).toNat).length = many := by rw [List.length_drop]; exact om172 hl
  refine Fn.mono (sp_names W _ sa (cs.drop (2 * (many : Int)).toNat) (by rw [List.map_drop]; exact ListAt.same _ _ _ _) (by exact om173 h2 dl)) (fun d H1 z => ?_) fun _ _ z => z.elim
  refine e2a7 z fun an nm rq177 e1 han ln nl nnd npos => ?_; clear z; obtain rfl := rq177
  rw [dl] at nl
  have ex1 := e0.trans e1
  have lc1 := ex1.list lc
  obtain ⟨or1, or2⟩ := rot_ok (s := shift / 2) h1 nl nnd npos
  refine Ex_assign_comp W.ok (EvIt_range1 R.handled ((Pe_glob W.ok (gb_range W)).ev ⟨rfl, Pe.ev (Pe_var rfl) ⟨many, rfl, by omega, by omega, ?_⟩⟩)) rfl rfl (by decide) rfl (by decide) rfl (clN ⟨rfl, rfl, rfl⟩ (clN ⟨rfl, rfl, rfl⟩ (clN ⟨rfl, rfl, rfl⟩ cl0))) (.inl rfl)
  refine CompOk_map (((List.range many).map fun k : Nat => nm.getD (((k : Int) + shift / 2) % (many : Int)).toNat 0).map V.int) (by simp) (by rw [List.length_map, List.length_range]; simp; exact om174 h2 hs) ?_ ?_
  · intro i d C hE hd
    refine e1a2 (map_item hd) fun k hk rq178 => ?_; obtain rfl := rq178
    refine ⟨_, map_item' (map_item' (by simpa using hk)), ?_⟩
    have a := Int.emod_nonneg ((k : Int) + shift / 2) (b := (many : Int)) (by exact om163 h1)
    have b := Int.emod_lt_of_pos ((k : Int) + shift / 2) (b := (many : Int)) (by exact om164 h1)
    have gi : (((k : Int) + shift / 2) % (many : Int)).toNat < nm.length := by exact om175 h1 nl b
    refine Pe_sub (Pe_var rfl) (Pe_bin (Pe_bin (Pe_var rfl) (Pe_bin (Pe_var rfl) Pe_int (B_div (by decide) (by decide))) B_add) (Pe_var rfl) (B_mod (by exact om164 h1))) (G_list (j := (((k : Int) + shift / 2) % (many : Int)).toNat) ln (seqIndex_pos a (by rw [List.length_map]; exact om176 nl b)) ?_ (by exact om177 h2 a b))
    rw [List.getElem?_map, List.getElem?_eq_getElem gi, List.getD_eq_getElem?_getD, List.getElem?_eq_getElem gi]; rfl
  intro ao oo hao
  have cao : ca ≠ ao := lc1.ne_new hao
  refine Ex_ifj (fun m2 H' => (∃ (o : Obj) (ord : List Int), H' = H1.set ao ⟨o, .list (ord.map V.int)⟩ ∧ ord.length = many ∧ ord.Nodup ∧ ∀ x ∈ ord, 0 ≤ x) ∧ m2 (Str.ofString "_law_cells_here") = some (.ref ca) ∧ m2 (Str.ofString "_law_many") = some (.int many) ∧ m2 (Str.ofString "_law_order") = some (.ref ao)) (Tp_cmp (Pe_bin (Pe_var rfl) Pe_int (B_mod (by decide))) Pe_int B_eq beq_iff_eq) (fun _ => ?_) (fun _ => ?_) ?_
  · refine Ex_expr (Ev_meth0 plainAttrs_list slot_list_reverse (Pe.ev (Pe_var rfl) ⟨has_listAt (ListAt.same _ _ _ _), O_reverse (ListAt.same _ _ _ _) (by simp; exact om174 h2 hs) fun o' => ⟨fun h v i a e => (by rw [is_raw i] at e; exact nomatch e), Ex_nil ⟨rfl, ⟨o', ((List.range many).map fun k : Nat => nm.getD (((k : Int) + shift / 2) % (many : Int)).toNat 0).reverse, ?_, by simp, List.pairwise_reverse.mpr (or1.imp fun h => h.symm), fun x hx => or2 x (List.mem_reverse.mp hx)⟩, rfl, rfl, rfl⟩⟩⟩) type_list_reverse)
    rw [AH.set_set, List.map_reverse]
  · exact Ex_nil ⟨rfl, ⟨oo, (List.range many).map fun k : Nat => nm.getD (((k : Int) + shift / 2) % (many : Int)).toNat 0, rfl, by simp, or1, or2⟩, rfl, rfl, rfl⟩
  rintro m2 H' rz10; refine e0a4 rz10 fun rq179 mc mm mo => ?_; clear rz10; obtain ⟨o2, ord, rfl, ol, ond, opos⟩ := rq179
  have lo : ListAt (H1.set ao ⟨o2, .list (ord.map V.int)⟩) ao (ord.map V.int) := ListAt.same _ _ _ _
  have lc2 := lc1.ne (x := ⟨o2, .list (ord.map V.int)⟩) cao
  have ex2 : Ext H (H1.set ao ⟨o2, .list (ord.map V.int)⟩) := Ext.upd ex1 (ex1.none hao)
  generalize H1.set ao ⟨o2, .list (ord.map V.int)⟩ = H2 at lo lc2 ex2 ⊢
  refine Ex_assign (Ev_dict0 W.ok fun ak ok hak => ?_) (.inl rfl)
  refine Ex_assign (Ev_dict0 W.ok fun ta ot hta => ?_) (.inl rfl)
  have hta2 : H2 ta = none := (Ext.set (x := ⟨ok, .dict []⟩) (Ext.refl H2) hak).none hta
  have akta : ak ≠ ta := (DictIs.same H2 ak ok []).ne_new hta
  have rkord : ∀ {i : Nat} {x : Int}, ord[i]? = some x → ord.idxOf x = i := fun h => idx_of ond h
  have gC : ∀ {H' : AH} {f : Fx} {i : Int} {k : Nat}, ListAt H' ca (cs.map V.int) → i = (k : Int) → k < 3 * many → G2 c f H' (.ref ca) (.int i) (.int (cs.getD k 0)) := fun {H' f i k} h hi hk => by
    subst hi
    refine G_list (j := k) h ((seqIndex_pos (by exact om68) (by exact om178 hlm hk)).trans (congrArg some (by exact om179))) ?_ (by exact om180 h2 hk)
    rw [List.getElem?_map, List.getElem?_eq_getElem (by exact om181 hl hk), List.getD_eq_getElem?_getD, List.getElem?_eq_getElem (by exact om181 hl hk)]; rfl
  have gO : ∀ {H' : AH} {f : Fx} {i : Int} {k : Nat} {x : Int}, ListAt H' ao (ord.map V.int) → i = (k : Int) → ord[k]? = some x → G2 c f H' (.ref ao) (.int i) (.int x) := fun {H' f i k x} h hi hx => by
    subst hi
    have := (List.getElem?_eq_some_iff.mp hx).1
    exact G_list (j := k) h ((seqIndex_pos (by exact om68) (by rw [List.length_map]; exact om182 this)).trans (congrArg some (by exact om179))) (map_item' hx) (by exact om183 h2 ol this)
  refine Ex_for O (EvIt_range1 R.handled ((Pe_glob W.ok (gb_range W)).ev ⟨rfl, Pe.ev (Pe_var mm) ⟨many, rfl, by omega, by omega, fun i m' H' => ∃ (kvs : List (Int × V)) (tx : Int → List Nat), Held kvs tx (fun x => ord.idxOf x) ∧ kvs.map (·.1) = ord.take i ∧ Ext H2 H' ∧ DictIs H' ak kvs ∧ DictIs H' ta ((ord.take i).map fun x => (x, V.s (tx x))) ∧ (∀ x, Key kvs x → (tx x).length ≤ 400 + 9 * i) ∧ m' (Str.ofString "_law_cells_here") = some (.ref ca) ∧ m' (Str.ofString "_law_many") = some (.int many) ∧ m' (Str.ofString "_law_order") = some (.ref ao) ∧ m' (Str.ofString "_law_kept") = some (.ref ak) ∧ m' (Str.ofString "_law_texts") = some (.ref ta),
    ⟨[], fun _ => [], Held.nil fun k => by have := List.idxOf_le_length (a := k) (l := ord); exact om184 h2 ol this, by simp, Ext.set (Ext.set (Ext.refl _) hak) hta, (DictIs.same _ _ _ _).fresh hta, by simpa using DictIs.same _ _ _ _, (fun x ⟨d, e⟩ => nomatch e), mc, mm, mo, rfl, rfl⟩, ?_, ?_⟩⟩)) (.inl rfl)
  · rintro i d m' H' kp hd hJJ _
    refine Ex.gen fun QQ hQ => ?_
    refine e2a11 hJJ fun kvs tx E hkv ex dk dt short mc mm mo mk mt => ?_; clear hJJ
    refine e1a2 (map_item hd) fun k hk rq180 => ?_; obtain rfl := rq180
    obtain ⟨hi, rfl⟩ := range_item hk
    have him : k < many := by exact om185 hi
    obtain ⟨x, hx⟩ : ∃ x, ord[k]? = some x := ⟨_, List.getElem?_eq_getElem (by exact om186 ol him)⟩
    have xnot := nd_take ond hx
    have xk : x ∉ kvs.map (·.1) := by rw [hkv]; exact xnot
    have kl : kvs.length = k := by have := congrArg List.length hkv; rw [List.length_map, List.length_take] at this; exact om187 ol him this
    have lc3 := ex.list lc2
    have lo3 := ex.list lo
    have hak2 := hak
    refine Ex_assign (Pe.ev (Pe_sub (Pe_var mc) (Pe_var rfl) (gC lc3 (k := k) rfl (by exact om188 him))) ?_) (.inl rfl)
    refine Ex_assign (Pe.ev (Pe_sub (Pe_var mc) (Pe_bin (Pe_var mm) (Pe_var rfl) B_add) (gC lc3 (k := many + k) (by exact om189) (by exact om190 him))) ?_) (.inl rfl)
    generalize cs.getD k 0 = one
    generalize cs.getD (many + k) 0 = two
    -- both stores
    have fin : ∀ {l : List Nat} {dd : V} {o' o'' : Obj}, l.length ≤ 400 + 9 * (k + 1) → (dd = .tup [.none, .s l] ∨ ∃ b a gone come, dd = .tup [.int b, chg a gone come] ∧ Key kvs b ∧ ord.idxOf b < ord.idxOf x ∧ Step (tx b) l a gone come) →
        Held (kvs ++ [(x, dd)]) (fun y => if y = x then l else tx y) (fun x => ord.idxOf x) ∧ (kvs ++ [(x, dd)]).map (·.1) = ord.take (k + 1) ∧ Ext H2 ((H'.set ta ⟨o', .dict (((ord.take k).map fun x => (x, V.s (tx x))) ++ [(x, .s l)])⟩).set ak ⟨o'', .dict (kvs ++ [(x, dd)])⟩) ∧ DictIs ((H'.set ta ⟨o', .dict (((ord.take k).map fun x => (x, V.s (tx x))) ++ [(x, .s l)])⟩).set ak ⟨o'', .dict (kvs ++ [(x, dd)])⟩) ak (kvs ++ [(x, dd)]) ∧ DictIs ((H'.set ta ⟨o', .dict (((ord.take k).map fun x => (x, V.s (tx x))) ++ [(x, .s l)])⟩).set ak ⟨o'', .dict (kvs ++ [(x, dd)])⟩) ta ((ord.take (k + 1)).map fun y => (y, V.s (if y = x then l else tx y))) ∧ ∀ y, Key (kvs ++ [(x, dd)]) y → (if y = x then l else tx y).length ≤ 400 + 9 * (k + 1) := by
      intro l dd o' o'' hll hdd
      have et : ord.take (k + 1) = ord.take k ++ [x] := by rw [List.take_add_one, hx]; rfl
      refine ⟨E.put xk (by exact om191 h2 him kl) (by exact om192 h2 him hll) hdd, by rw [List.map_append, hkv, et]; rfl, Ext.upd (Ext.upd ex hta2) hak, DictIs.same _ _ _ _, ?_, fun y hy => ?_⟩
      · rw [et, List.map_append]
        have e1 : ((ord.take k).map fun y => (y, V.s (if y = x then l else tx y))) = (ord.take k).map fun x => (x, V.s (tx x)) := List.map_congr_left fun y hy => by rw [if_neg (fun e : y = x => xnot (e ▸ hy))]
        rw [e1]
        simp only [List.map_cons, List.map_nil, if_true]
        exact (DictIs.same _ _ _ _).ne akta.symm
      · by_cases e : y = x
        · rw [if_pos e]; exact hll
        · rw [if_neg e]
          rw [key_iff, List.map_append] at hy
          rcases List.mem_append.mp hy with q | q
          · have := short y (key_iff.mpr q); exact om193 this
          · simp at q; exact (e q).elim
    have gx : ∀ {l : List Nat}, dget (((ord.take k).map fun x => (x, V.s (tx x))) ++ [(x, .s l)]) x = some (.s l) := fun {l} => by rw [dget_snoc (by rw [keys_of]; exact xnot), if_pos rfl]
    refine Ex_ifp (Tp_or (Tpo_cons (Tp_cmp (Pe_var rfl) Pe_int B_eq beq_iff_eq) fun _ => Tpo_cons (Tp_cmp (Pe_bin (Pe_var rfl) Pe_int (B_mod (by decide))) Pe_int B_eq beq_iff_eq) fun _ => Tpo_nil)) (fun _ => ?_) (fun g => ?_)
    · refine Ex_store (Ev_F2e W.ok (W.glob rfl) (W.kx 298 _ rfl) rfl R2 O.frames (Pe.ev (Pe_bin (Pe_var rfl) Pe_int (B_div (by decide) (by decide))) (Ev_F1 W.ok (W.glob rfl) (W.kx 333 _ rfl) rfl R1 O.frames (Pe_var rfl) (Fn.mono (sp_size W H' two) (fun d H4 z => ?_) fun _ _ z => z.elim))))
      obtain ⟨rfl, s, rfl, s0, s1⟩ := z
      refine Fn.mono (sp_text_by W H4 (two / 9) s s0 (by exact om194 s1)) (fun d H5 z => ?_) fun _ _ z => z.elim
      obtain ⟨rfl, rfl⟩ := z
      have hll := txt_length (two / 9) s
      generalize txt (two / 9) s = l at hll
      refine Pe.ev (Pe_var mt) (Pe.ev (Pe_sub (Pe_var mo) (Pe_var rfl) (gO lo3 (k := k) rfl hx)) ⟨ta, _, x, rfl, rfl, dt, by simp; exact om195 h2 hs him, fun o' => ?_⟩)
      rw [dset_new (by rw [keys_of]; exact xnot)]
      have tne : ao ≠ ta := lo.ne_new hta2
      have dt4 : DictIs (H5.set ta ⟨o', .dict (((ord.take k).map fun x => (x, V.s (tx x))) ++ [(x, .s l)])⟩) ta (((ord.take k).map fun x => (x, V.s (tx x))) ++ [(x, .s l)]) := DictIs.same _ _ _ _
      have lo4 := lo3.ne (x := ⟨o', .dict (((ord.take k).map fun x => (x, V.s (tx x))) ++ [(x, .s l)])⟩) tne
      have dk4 := dk.ne (x := ⟨o', .dict (((ord.take k).map fun x => (x, V.s (tx x))) ++ [(x, .s l)])⟩) akta
      refine Ex_store (Pe.ev (Pe_tuple (Pes_cons Pe_none (Pes_cons (Pe_sub (Pe_var mt) (Pe_sub (Pe_var mo) (Pe_var rfl) (gO lo4 (k := k) rfl hx)) (G_dict dt4 gx)) Pes_nil)) (by show 2 ≤ sizeLine; exact om196 hs)) (Pe.ev (Pe_var mk) (Pe.ev (Pe_sub (Pe_var mo) (Pe_var rfl) (gO lo4 (k := k) rfl hx)) ⟨ak, _, x, rfl, rfl, dk4, by exact om197 h2 hs him kl, fun o'' => ?_⟩)))
      rw [dset_new xk]
      obtain ⟨f1, f2, f3, f4, f5, f6⟩ := fin (l := l) (o' := o') (o'' := o'') (by exact om198 s1 hll) (.inl rfl)
      exact Ex_nil (hQ _ _ _ ⟨⟨_, _, f1, f2, f3, f4, f5, f6, mc, mm, mo, mk, mt⟩, fun _ h => nomatch h⟩)
    · have hk1 : 1 ≤ k := by
        apply Classical.byContradiction; intro q
        exact g (.inl (by exact om199 q))
      obtain ⟨y1, hy1⟩ : ∃ y, ord[k - 1]? = some y := ⟨_, List.getElem?_eq_getElem (by exact om200 ol him)⟩
      have q0 : 0 ≤ one / 5 % (k : Int) := Int.emod_nonneg _ (by exact om163 hk1)
      have q1 : one / 5 % (k : Int) < k := Int.emod_lt_of_pos _ (by exact om164 hk1)
      obtain ⟨y2, hy2⟩ : ∃ y, ord[(one / 5 % (k : Int)).toNat]? = some y := ⟨_, List.getElem?_eq_getElem (by exact om201 ol him q1)⟩
      refine Ex_assign (Pe.ev (Pe_sub (Pe_var mo) (Pe_bin (Pe_var rfl) Pe_int B_sub) (gO lo3 (k := k - 1) (by exact om202 hk1) hy1)) ?_) (.inl rfl)
      refine Ex_if_set (Tp_cmp (Pe_bin (Pe_var rfl) Pe_int (B_mod (by decide))) Pe_int B_gt decide_eq_true_iff) (fun _ => Pe_sub (Pe_var mo) (Pe_bin (Pe_bin (Pe_var rfl) Pe_int (B_div (by decide) (by decide))) (Pe_var rfl) (B_mod (by exact om164 hk1))) (gO lo3 (k := (one / 5 % (k : Int)).toNat) (by exact om203 q0) hy2)) (fun d hd2 => ?_) (.inl rfl)
      obtain ⟨b, j, rfl, hj, hb⟩ : ∃ (b : Int) (j : Nat), d = .int b ∧ j < k ∧ ord[j]? = some b := by
        rcases hd2 with ⟨_, rfl⟩ | ⟨_, rfl⟩
        · exact ⟨y2, _, rfl, by exact om204 q0 q1, hy2⟩
        · exact ⟨y1, _, rfl, by exact om205 hk1, hy1⟩
      have bt : b ∈ ord.take k := by
        refine List.mem_of_getElem? (i := j) ?_
        rw [List.getElem?_take, if_pos hj]; exact hb
      have kb : Key kvs b := key_iff.mpr (by rw [hkv]; exact bt)
      have sb := short b kb
      have gb : dget ((ord.take k).map fun x => (x, V.s (tx x))) b = some (.s (tx b)) := dget_map (g := fun x => V.s (tx x)) bt
      refine Ex_store (Ev_F2 W.ok (W.glob rfl) (W.kx 305 _ rfl) rfl R O.frames (Pe_sub (Pe_var mt) (Pe_var rfl) (G_dict dt gb)) (Pe_var rfl) (Fn.mono (sp_next_text W H' (tx b) two (by exact om206 h2 him sb)) (fun d H4 z => ?_) fun _ _ z => z.elim))
      obtain ⟨rfl, l, rfl, hll⟩ := z
      refine Pe.ev (Pe_var mt) (Pe.ev (Pe_sub (Pe_var mo) (Pe_var rfl) (gO lo3 (k := k) rfl hx)) ⟨ta, _, x, rfl, rfl, dt, by simp; exact om195 h2 hs him, fun o' => ?_⟩)
      rw [dset_new (by rw [keys_of]; exact xnot)]
      have tne : ao ≠ ta := lo.ne_new hta2
      have cne : ca ≠ ta := lc2.ne_new hta2
      have dt4 : DictIs (H4.set ta ⟨o', .dict (((ord.take k).map fun x => (x, V.s (tx x))) ++ [(x, .s l)])⟩) ta (((ord.take k).map fun x => (x, V.s (tx x))) ++ [(x, .s l)]) := DictIs.same _ _ _ _
      have lo4 := lo3.ne (x := ⟨o', .dict (((ord.take k).map fun x => (x, V.s (tx x))) ++ [(x, .s l)])⟩) tne
      have lc4 := lc3.ne (x := ⟨o', .dict (((ord.take k).map fun x => (x, V.s (tx x))) ++ [(x, .s l)])⟩) cne
      have dk4 := dk.ne (x := ⟨o', .dict (((ord.take k).map fun x => (x, V.s (tx x))) ++ [(x, .s l)])⟩) akta
      have gb4 : dget (((ord.take k).map fun x => (x, V.s (tx x))) ++ [(x, .s l)]) b = some (.s (tx b)) := by rw [dget_snoc (by rw [keys_of]; exact xnot), if_neg (fun e : b = x => xnot (e ▸ bt))]; exact gb
      refine Ex_store (Ev_tuple (Evs_cons (Pe.ev (Pe_var rfl) (Evs_cons (Ev_F3 W.ok (W.glob rfl) (W.kx 319 _ rfl) rfl R2 O.frames (Pe_sub (Pe_var mt) (Pe_var rfl) (G_dict dt4 gb4)) (Pe_sub (Pe_var mt) (Pe_sub (Pe_var mo) (Pe_var rfl) (gO lo4 (k := k) rfl hx)) (G_dict dt4 gx)) (Pe_bin (Pe_sub (Pe_var mc) (Pe_bin (Pe_bin Pe_int (Pe_var mm) (B_mul (mul_small (by decide)))) (Pe_var rfl) B_add) (gC lc4 (k := 2 * many + k) (by exact om207) (by exact om208 him))) Pe_int (B_mod (by decide))) (Fn.mono (sp_wide_change W _ (tx b) l _ (by exact om209 h2 him sb) (by exact om210 h2 him sb hll)) (fun d H5 z => ?_) fun _ _ z => z.elim))))))
      obtain ⟨rfl, a, gone, come, rfl, st⟩ := z
      refine Evs_nil ⟨by show 2 ≤ sizeLine; exact om196 hs, ?_⟩
      refine Pe.ev (Pe_var mk) (Pe.ev (Pe_sub (Pe_var mo) (Pe_var rfl) (gO lo4 (k := k) rfl hx)) ⟨ak, _, x, rfl, rfl, dk4, by exact om197 h2 hs him kl, fun o'' => ?_⟩)
      rw [dset_new xk]
      obtain ⟨f1, f2, f3, f4, f5, f6⟩ := fin (l := l) (o' := o') (o'' := o'') (by exact om211 sb hll) (.inr ⟨b, a, gone, come, rfl, kb, by rw [rkord hb, rkord hx]; exact hj, st⟩)
      exact Ex_nil (hQ _ _ _ ⟨⟨_, _, f1, f2, f3, f4, f5, f6, mc, mm, mo, mk, mt⟩, fun _ h => nomatch h⟩)
  · rintro m' H' rz11 _; refine e2a11 rz11 fun kvs tx E hkv ex dk dt short mc mm mo mk mt => ?_; clear rz11
    rw [List.length_map, List.length_range] at hkv dt short
    rw [List.take_of_length_le (by simp; exact om212 ol)] at hkv dt
    refine Ex_ret (Ev_list W.ok (Pes.evs (Pes_cons (Pe_var mk) (Pes_cons (Pe_var mt) Pes_nil)) ⟨by show 2 ≤ sizeLine; exact om196 hs, fun ar o har => ?_⟩))
    have kl : kvs.length = many := by have := congrArg List.length hkv; rw [List.length_map] at this; exact om213 ol this
    refine ⟨ar, ak, ta, kvs, tx, _, rfl, Ext.set (ex2.trans ex) har, (ex2.trans ex).none har, ex2.none hak, ex2.none hta2, ListAt.same _ _ _ _, dk.fresh har, ?_, E, kl, akta, fun k hk => ⟨?_, ?_⟩⟩
    · rw [show (kvs.map fun p => (p.1, V.s (tx p.1))) = (kvs.map (·.1)).map fun x => (x, V.s (tx x)) by rw [List.map_map]; rfl, hkv]; exact dt.fresh har
    · exact opos k (by rw [← hkv]; exact key_iff.mp hk)
    · have := short k hk; simp at this; exact om214 h2 this
theorem sp_cells (W : Lw c (KK P) sc ns) (H : AH) (start : Int) (many : Nat) (h0 : 0 ≤ start) (h2 : many ≤ 100) :
    Fn c 2 (.ref 360) [.ref sc, .int start, .int many] H (fun d H' => ∃ (a : Addr) (cs : List Int), d = .ref a ∧ Ext H H' ∧ H a = none ∧ ListAt H' a (cs.map V.int) ∧ cs.length = 3 * many) (fun _ _ => False) := by
  have hs : 1000000 ≤ sizeLine := by decide
  refine Fn_def W.ok.lim (W.kx 360 _ rfl) rfl rfl (codeRec_of W.kx rfl) rfl (names := ["_law_script", "_law_start", "_law_many"]) (bind3 rfl fun _ _ _ => rfl) rfl (by decide) (fun n => mem3 (.inr ⟨rfl, rfl⟩) (.inr ⟨rfl, rfl⟩) (.inl rfl)) rfl rfl rfl fun A L frs hE R O => ?_
  refine Ex_ret (Ev_comp W.ok (EvIt_range1 R.handled ((Pe_glob W.ok (gb_range W)).ev ⟨rfl, Pe.ev (Pe_bin Pe_int (Pe_var rfl) (B_mul (mul_small (by decide)))) ⟨_, rfl, by omega, by omega, ?_⟩⟩)) rfl (by decide) rfl (by decide) rfl (clN ⟨rfl, rfl, rfl⟩ (clN ⟨rfl, rfl, rfl⟩ cl0)))
  refine CompOk_map (((List.range (3 * (many : Int)).toNat).map fun k : Nat => cellAt ns (start + k)).map V.int) (by simp) (by rw [List.length_map, List.length_range]; exact om215 h2 hs) ?_ ?_
  · intro i d C hE hd
    refine e1a2 (map_item hd) fun k hk rq181 => ?_; obtain rfl := rq181
    exact ⟨_, map_item' (map_item' hk), Pe_cellE W R O.frames rfl (Pe_bin (Pe_var rfl) (Pe_var rfl) B_add) (by exact om216 h0)⟩
  · intro a o ha
    exact ⟨a, _, rfl, Ext.set (Ext.refl _) ha, ha, ListAt.same _ _ _ _, by rw [List.length_map, List.length_range]; exact om217⟩
theorem dget_texts {kvs : List (Int × V)} {tx : Int → List Nat} {k : Int} (hk : Key kvs k) : dget (kvs.map fun p => (p.1, V.s (tx p.1))) k = some (.s (tx k)) := by
  rw [show (kvs.map fun p => (p.1, V.s (tx p.1))) = (kvs.map (·.1)).map fun x => (x, V.s (tx x)) by rw [List.map_map]; rfl]
  exact dget_map (g := fun x => V.s (tx x)) (key_iff.mp hk)
def lastOf (l : List Int) : Int := l.getLast?.getD (-1)
theorem lastOf_snoc (l : List Int) (k : Int) : lastOf (l ++ [k]) = k := by unfold lastOf; simp
theorem lastOf_at {srt : List Int} (h : srt ≠ []) : srt[srt.length - 1]? = some (lastOf srt) := by
  unfold lastOf
  rw [← List.getLast?_eq_getElem?]
  cases q : srt.getLast? with
  | none => exact (h (List.getLast?_eq_none_iff.mp q)).elim
  | some y => rfl
theorem le_lastOf {srt : List Int} (pw : srt.Pairwise (· ≤ ·)) {k : Int} (h : k ∈ srt) : k ≤ lastOf srt := by
  have hne : srt ≠ [] := List.ne_nil_of_mem h
  obtain ⟨j, hj, e⟩ := List.getElem_of_mem h
  obtain ⟨hl, e2⟩ := List.getElem?_eq_some_iff.mp (lastOf_at hne)
  by_cases q : j = srt.length - 1
  · subst q; exact om218 e2 e
  · have := List.pairwise_iff_getElem.mp pw j (srt.length - 1) hj hl (by exact om219 hj q)
    exact om220 e e2 this
theorem sp_check_any (W : Lw c (KK P) sc ns) (U : Own c (KK P)) (H : AH) (hd : Addr) (b : Int) (rs : List (Int × V)) (D : DictIs H hd rs) (nd : (rs.map (·.1)).Nodup) (ok : ∀ p ∈ rs, EntOk p.2) (h0 : 0 ≤ b) :
    Fn c 1 (.ref 265) [.ref hd, .int b] H (fun d H' => d = .none ∧ H' = H ∧ ∀ k, Key rs k → ∃ xs, IsChain (bases rs) k xs ∧ (xs.length : Int) ≤ b + 1) (fun C H' => C = .ref 56 ∧ H' = H) := by
  refine Fn_def W.ok.lim (W.kx 265 _ rfl) rfl rfl (codeRec_of W.kx rfl) rfl (names := ["held", "bound"]) (bind2 rfl fun _ _ => rfl) rfl (by decide) (fun n => mem2 (.inl rfl) (.inl rfl)) rfl rfl rfl fun A L frs hE R O => ?_
  refine Ex_for O (EvIt_dict R.handled (Pe.ev (Pe_var rfl) ⟨hd, rs, rfl, D, fun i m' H' => H' = H ∧ (∀ (j : Nat) p, j < i → rs[j]? = some p → ∃ xs, IsChain (bases rs) p.1 xs ∧ (xs.length : Int) ≤ b + 1) ∧ m' (Str.ofString "held") = some (.ref hd) ∧ m' (Str.ofString "bound") = some (.int b), ⟨rfl, fun j p hj => absurd hj (Nat.not_lt_zero _), rfl, rfl⟩, ?_, ?_⟩)) (.inl rfl)
  · rintro i d m' H' kp hdd rz12 _; refine e0a4 rz12 fun rq182 done mh mb => ?_; clear rz12; obtain rfl := rq182
    refine e1a2 (map_item hdd) fun rq183 hk rq184 => ?_; obtain ⟨k, dk⟩ := rq183; obtain rfl := rq184
    refine Ex_assign (Pe.ev Pe_int ?_) (.inl rfl)
    refine Ex_assign (Pe.ev (Pe_var rfl) ?_) (.inl rfl)
    refine Ex_while (O.kept kp) (fun q m2 H2 => H2 = H' ∧ ∃ (x : Int) (st : Nat), q = b.toNat + 1 - st ∧ (st : Int) ≤ b ∧ Key rs x ∧ (∀ xs, IsChain (bases rs) x xs → ∃ ys, IsChain (bases rs) k ys ∧ ys.length = st + xs.length) ∧ m2 (Str.ofString "held") = some (.ref hd) ∧ m2 (Str.ofString "bound") = some (.int b) ∧ m2 (Str.ofString "one") = some (.int x) ∧ m2 (Str.ofString "steps") = some (.int st)) (b.toNat + 1) ⟨rfl, k, 0, rfl, by exact om221 h0, ⟨dk, dget_of_mem nd (List.mem_of_getElem? hk)⟩, fun xs h => ⟨xs, h, by exact om222⟩, mh, mb, rfl, rfl⟩ ?_
    rintro q m2 H2 rz13; obtain ⟨rfl, x, st, rfl, hst, ⟨dx, gx⟩, hc, mh, mb, mo, ms⟩ := rz13
    rcases ok _ (dget_mem gx) with ⟨l, e0, _⟩ | ⟨bb, a, g, e, e0, _, _⟩
    · have e0 : dx = .tup [.none, .s l] := e0
      subst e0
      refine Ts.mono (Tp_isNotNone (Pe_sub (Pe_sub (Pe_var mh) (Pe_var mo) (G_dict D gx)) Pe_int (G_tup (d := .none) (j := 0) rfl rfl (by decide)))) (fun t H3 ⟨e, r⟩ => ?_) fun _ _ z => z.elim
      subst e
      refine ⟨fun ht => (r.mp ht rfl).elim, fun _ => Ex_nil ⟨⟨rfl, fun j p hj hp => ?_, mh, mb⟩, fun _ _ => rfl⟩⟩
      by_cases q : j < i
      · exact done j p q hp
      · have : j = i := by exact om223 hj q
        subst this
        rw [hk] at hp; cases hp
        refine e1a2 (hc [x] (.stop (by rw [dget_bases, gx]; rfl))) fun ys h1 h2 => ?_
        exact ⟨ys, h1, by rw [h2]; simp; exact om224 hst⟩
    · have e0 : dx = .tup [.int bb, chg a g e] := e0
      subst e0
      refine Ts.mono (Tp_isNotNone (Pe_sub (Pe_sub (Pe_var mh) (Pe_var mo) (G_dict D gx)) Pe_int (G_tup (d := .int bb) (j := 0) rfl rfl (by decide)))) (fun t H3 ⟨e, r⟩ => ?_) fun _ _ z => z.elim
      subst e
      refine ⟨fun _ => ?_, fun ht => by rw [r.mpr (fun z => nomatch z)] at ht; cases ht⟩
      refine Ex_assign (Pe.ev (Pe_sub (Pe_sub (Pe_var mh) (Pe_var mo) (G_dict D gx)) Pe_int (G_tup (d := .int bb) (j := 0) rfl rfl (by decide))) ?_) (.inl rfl)
      refine Ex_assign (Pe.ev (Pe_bin (Pe_var ms) Pe_int B_add) ?_) (.inl rfl)
      refine Ex_ifp (P := dget rs bb = none) (Tp_cmp (Pe_var rfl) (Pe_var mh) (B_notIn D) (by cases dget rs bb <;> simp)) (fun g => ?_) (fun g => ?_)
      · exact Ex_raise W.ok (U.cls _ 56 _ _ rfl (by kernel_rfl)) excBase_ValueError R.handled Pe_str ⟨rfl, rfl⟩
      refine Ex_ifp (Tp_cmp (Pe_var rfl) (Pe_var mb) B_gt decide_eq_true_iff) (fun _ => ?_) (fun g2 => ?_)
      · exact Ex_raise W.ok (U.cls _ 56 _ _ rfl (by kernel_rfl)) excBase_ValueError R.handled Pe_str ⟨rfl, rfl⟩
      have kb : Key rs bb := by
        cases q : dget rs bb with
        | none => exact (g q).elim
        | some d => exact ⟨d, q⟩
      refine Ex_nil ⟨b.toNat + 1 - (st + 1), by exact om225 g2, rfl, bb, st + 1, rfl, by exact om226 g2, kb, fun xs h => ?_, mh, mb, rfl, rfl⟩
      refine e1a2 (hc (x :: xs) (.step (by rw [dget_bases, gx]; rfl) h)) fun ys h1 h2 => ?_
      exact ⟨ys, h1, by rw [h2, List.length_cons]; exact om21⟩
  · rintro m' H' rz14 _; refine e0a4 rz14 fun rq185 done mh mb => ?_; clear rz14; obtain rfl := rq185
    refine Ex_nil ⟨rfl, rfl, fun k hk => ?_⟩
    obtain ⟨d, hd'⟩ := hk
    obtain ⟨j, hj⟩ := List.getElem?_of_mem (dget_mem hd')
    exact done j _ (by have := (List.getElem?_eq_some_iff.mp hj).1; rw [List.length_map]; exact this) hj
theorem sp_text_any (W : Lw c (KK P) sc ns) (U : Own c (KK P)) (H : AH) (hd : Addr) (k : Int) (rs : List (Int × V)) (xs : List Int) (D : DictIs H hd rs) (ok : ∀ p ∈ rs, EntOk p.2) (hx : IsChain (bases rs) k xs) (xl : xs.length ≤ 100) :
    Fn c 2 (.ref 141) [.ref hd, .int k] H (fun d H' => H' = H ∧ ∃ t, d = .s t ∧ TextOf rs k t) (fun C H' => C = .ref 80 ∧ H' = H) := by
  have hs : 1000000 ≤ sizeLine := by decide
  refine Fn.of_ext (Fn.mono (Q := fun d H' => Ext H H' ∧ ∃ t, d = .s t ∧ TextOf rs k t) (X := fun C H' => Ext H H' ∧ C = .ref 80) ?_ (fun d H' z => ⟨z.1, rfl, z.2⟩) fun C H' z => ⟨z.1, z.2, rfl⟩)
  refine Fn_def W.ok.lim (W.kx 141 _ rfl) rfl rfl (codeRec_of W.kx rfl) rfl (names := ["held", "number"]) (bind2 rfl fun _ _ => rfl) rfl (by decide) (fun n => mem2 (.inl rfl) (.inl rfl)) rfl rfl rfl fun A L frs hE R O => ?_
  refine Ex_assign (Ev_list W.ok (Evs_nil ⟨Nat.zero_le _, fun a o ha => ?_⟩)) (.inl rfl)
  have hda : hd ≠ a := D.ne_new ha
  have x0 : xs[0]? = some k := by obtain ⟨r, e⟩ := hx.head; rw [e]; rfl
  refine Ex_while O (fun q m' H' => ∃ (o : Obj) (pre : List V) (x : Int), H' = H.set a ⟨o, .list pre⟩ ∧ q = xs.length - pre.length ∧ xs[pre.length]? = some x ∧ (∀ i, i < pre.length → ∃ y z at_ g e, xs[i]? = some y ∧ xs[i + 1]? = some z ∧ pre[i]? = some (chg at_ g e) ∧ dget rs y = some (.tup [.int z, chg at_ g e]) ∧ g.length ≤ 700 ∧ e.length ≤ 700) ∧ m' (Str.ofString "held") = some (.ref hd) ∧ m' (Str.ofString "number") = some (.int x) ∧ m' (Str.ofString "changes") = some (.ref a)) xs.length
    ⟨o, [], k, rfl, by simp, x0, fun i hi => absurd hi (by simp), rfl, rfl, rfl⟩ ?_
  rintro q m' H' rz15; refine e3a7 rz15 fun o pre x rq186 rq187 hxj steps mh mn mc => ?_; clear rz15; obtain rfl := rq186; obtain rfl := rq187
  have DD' : DictIs (H.set a ⟨o, .list pre⟩) hd rs := D.ne hda
  have la : ListAt (H.set a ⟨o, .list pre⟩) a pre := ListAt.same _ _ _ _
  have ex : Ext H (H.set a ⟨o, .list pre⟩) := Ext.set (Ext.refl _) ha
  have plt := (List.getElem?_eq_some_iff.mp hxj).1
  obtain ⟨dx, gx⟩ := key_bases.mp (hx.keys x (List.mem_of_getElem? hxj))
  have nx := hx.next _ _ hxj
  rw [dget_bases, gx] at nx
  have G0 : ∀ {u v : V} {f : Fx}, G2 c f (H.set a ⟨o, .list pre⟩) (.tup [u, v]) (.int 0) u := fun {u v f} => G_tup (j := 0) rfl rfl (by decide)
  have G1 : ∀ {u v : V} {f : Fx}, G2 c f (H.set a ⟨o, .list pre⟩) (.tup [u, v]) (.int 1) v := fun {u v f} => G_tup (j := 1) rfl rfl (by decide)
  rcases ok _ (dget_mem gx) with ⟨l, e0, hll⟩ | ⟨bb, at_, g, e, e0, hgl, hel⟩
  · have e0 : dx = .tup [.none, .s l] := e0
    subst e0
    refine Ts.mono (Tp_isNotNone (Pe_sub (Pe_sub (Pe_var mh) (Pe_var mn) (G_dict DD' gx)) Pe_int G0)) (fun t H'' ⟨e, r⟩ => ?_) fun _ _ z => z.elim
    subst e
    refine ⟨fun ht => (r.mp ht rfl).elim, fun _ => ?_⟩
    refine Ex_assign (Pe.ev (Pe_sub (Pe_sub (Pe_var mh) (Pe_var mn) (G_dict DD' gx)) Pe_int G1) ?_) (.inl rfl)
    refine Ex_for O (EvIt_rev R.handled ((Pe_glob W.ok (gb_reversed W)).ev ⟨rfl, Pe.ev (Pe_var mc) ⟨a, pre, rfl, la, fun i m2 H2 => H2 = H.set a ⟨o, .list pre⟩ ∧ i ≤ pre.length ∧ ∃ t y, m2 (Str.ofString "text") = some (.s t) ∧ xs[pre.length - i]? = some y ∧ TextOf rs y t ∧ t.length ≤ 700 * (i + 1), ⟨rfl, Nat.zero_le _, l, x, rfl, hxj, .root gx, by exact om227 hll⟩, ?_, ?_⟩⟩)) (.inl rfl)
    · rintro i d m2 H2 kp hdd rz16 _; refine e0a3 rz16 fun rq188 hi rq189 => ?_; clear rz16; obtain rfl := rq188; refine e2a4 rq189 fun t y mt hy hty htl => ?_; clear rq189
      have hi2 := (List.getElem?_eq_some_iff.mp hdd).1
      rw [List.length_reverse] at hi2
      rw [List.getElem?_reverse hi2] at hdd
      obtain ⟨y', z, at_, g, e, e1, e2, e3, e4, e5, e6⟩ := steps (pre.length - 1 - i) (by exact om228 hi2)
      rw [e3] at hdd; injection hdd with hdd; subst hdd
      rw [show pre.length - 1 - i + 1 = pre.length - i by exact om229 hi2, hy] at e2
      cases e2
      refine Ex_assign (Ev_F2 W.ok (W.glob rfl) (W.kx 113 _ rfl) rfl (R.le (by exact om230)) O.frames (Pe_var mt) (Pe_var rfl) (Fn.mono (sp_done W U _ t g e at_ (by exact om231 xl plt htl hi2) (by exact om232 e6) (by exact om232 e5)) (fun d H3 z => ?_) fun C H3 z => ?_)) (.inl rfl)
      · refine e0a3 z fun hf rq190 rq191 => ?_; clear z; obtain rfl := rq190; obtain rfl := rq191
        refine Ex_nil ⟨⟨rfl, by exact om233 hi2, _, y', rfl, by rw [show pre.length - (i + 1) = pre.length - 1 - i by exact om130]; exact e1, .lean e4 hty hf, ?_⟩, fun _ _ => rfl⟩
        simp only [List.length_append, List.length_take, List.length_drop]; exact om234 htl e6
      · refine e0a3 z fun _ rq192 rq193 => ?_; clear z; obtain rfl := rq192; obtain rfl := rq193
        exact ⟨ex, rfl⟩
    · rintro m2 H2 rz17 _; refine e0a3 rz17 fun rq194 hi rq195 => ?_; clear rz17; obtain rfl := rq194; refine e2a4 rq195 fun t y mt hy hty _ => ?_; clear rq195
      rw [List.length_reverse, Nat.sub_self, x0] at hy
      cases hy
      exact Ex_ret (Pe.ev (Pe_var mt) ⟨ex, t, rfl, hty⟩)
  · have e0 : dx = .tup [.int bb, chg at_ g e] := e0
    subst e0
    refine Ts.mono (Tp_isNotNone (Pe_sub (Pe_sub (Pe_var mh) (Pe_var mn) (G_dict DD' gx)) Pe_int G0)) (fun t H'' ⟨e, r⟩ => ?_) fun _ _ z => z.elim
    subst e
    refine ⟨fun _ => ?_, fun ht => by rw [r.mpr (fun z => nomatch z)] at ht; cases ht⟩
    have hnx : xs[pre.length + 1]? = some bb := by
      cases q : xs[pre.length + 1]? with
      | none => rw [q] at nx; cases nx
      | some y => rw [q] at nx; simp only [Option.map_some, Option.some.injEq, optV] at nx; cases nx; rfl
    refine Ex_appendS (Pe_var mc) (Pe_sub (Pe_sub (Pe_var mh) (Pe_var mn) (G_dict DD' gx)) Pe_int G1) la (by exact om235 xl hs plt) (fun o' => ?_)
    rw [AH.set_set]
    have DD2 : DictIs (H.set a ⟨o', .list (pre ++ [chg at_ g e])⟩) hd rs := D.ne hda
    refine Ex_assign (Pe.ev (Pe_sub (Pe_sub (Pe_var mh) (Pe_var mn) (G_dict DD2 gx)) Pe_int (G_tup (d := .int bb) (j := 0) rfl rfl (by decide))) ?_) (.inl rfl)
    have lp : (pre ++ [chg at_ g e]).length = pre.length + 1 := by simp
    refine Ex_nil ⟨xs.length - (pre ++ [chg at_ g e]).length, by rw [lp]; exact om236 plt, o', pre ++ [chg at_ g e], bb, rfl, rfl, by rw [lp]; exact hnx, fun i hi => ?_, mh, rfl, mc⟩
    rw [lp] at hi
    by_cases q : i < pre.length
    · refine e5a4 (steps i q) fun y z at2 g2 e2 q1 q2 q3 q4 => ?_
      exact ⟨y, z, at2, g2, e2, q1, q2, by rw [List.getElem?_append_left q]; exact q3, q4⟩
    · have : i = pre.length := by exact om223 hi q
      subst this
      exact ⟨x, bb, at_, g, e, hxj, hnx, by simp, gx, hgl, hel⟩
theorem sp_changes_any (W : Lw c (KK P) sc ns) (U : Own c (KK P)) (H : AH) (hd : Addr) (rs : List (Int × V)) (D : DictIs H hd rs) (nd : (rs.map (·.1)).Nodup) (ok : ∀ p ∈ rs, EntOk p.2) (few : rs.length ≤ 100) (ch : ∀ k, Key rs k → ∃ xs, IsChain (bases rs) k xs) :
    Fn c 3 (.ref 272) [.ref hd] H (fun d H' => d = .none ∧ H' = H ∧ ∀ k, Key rs k → ∃ t, TextOf rs k t) (fun C H' => C = .ref 56 ∧ H' = H) := by
  refine Fn_def W.ok.lim (W.kx 272 _ rfl) rfl rfl (codeRec_of W.kx rfl) rfl (names := ["held"]) (bind1 rfl fun _ => rfl) rfl (by decide) (fun n => mem1 (.inl rfl)) rfl rfl rfl fun A L frs hE R O => ?_
  have R2 : Room 2 A := R.le (by exact om237)
  refine Ex_try O (Ex_for O (EvIt_dict R.handled (Pe.ev (Pe_var rfl) ⟨hd, rs, rfl, D, fun i m' H' => H' = H ∧ (∀ (j : Nat) p, j < i → rs[j]? = some p → ∃ t, TextOf rs p.1 t) ∧ m' (Str.ofString "held") = some (.ref hd), ⟨rfl, fun j p hj => absurd hj (Nat.not_lt_zero _), rfl⟩, ?_, ?_⟩)) (.inl rfl))
  · rintro i d m' H' kp hdd rz18 _; refine e0a3 rz18 fun rq196 done mh => ?_; clear rz18; obtain rfl := rq196
    refine e1a2 (map_item hdd) fun rq197 hk rq198 => ?_; obtain ⟨k, dk⟩ := rq197; obtain rfl := rq198
    obtain ⟨xs, hx⟩ := ch k ⟨dk, dget_of_mem nd (List.mem_of_getElem? hk)⟩
    have xl := hx.few_rows
    refine Ex_exprA (Ev_F2 W.ok (W.glob rfl) (W.kx 141 _ rfl) rfl R2 O.frames (Pe_var mh) (Pe_var rfl) (Fn.mono (sp_text_any W U _ hd k rs xs D ok hx (by exact om238 few xl)) (fun d H2 z => ?_) fun C H2 z => ?_))
    · obtain ⟨rfl, t, rfl, ht⟩ := z
      refine Ex_nil ⟨⟨rfl, fun j p hj hp => ?_, mh⟩, fun _ _ => rfl⟩
      by_cases q : j < i
      · exact done j p q hp
      · have : j = i := by exact om223 hj q
        subst this
        rw [hk] at hp; cases hp
        exact ⟨t, ht⟩
    · obtain ⟨rfl, rfl⟩ := z
      exact fun e => Hd_raise W.kx O W.ok (fun kp => Pe_glob W.ok (W.glob rfl)) (Mt_one (by kernel_rfl)) (fun z => by unfold Dirty at z; cases z) (U.cls _ 56 _ _ rfl (by kernel_rfl)) excBase_ValueError rfl R.handled (fun kp => Pe_str) ⟨rfl, rfl⟩
  · rintro m' H' rz19 _; refine e0a3 rz19 fun rq199 done mh => ?_; clear rz19; obtain rfl := rq199
    refine Ex_nil (Ex_nil ⟨rfl, rfl, fun k hk => ?_⟩)
    obtain ⟨d, hd'⟩ := hk
    obtain ⟨j, hj⟩ := List.getElem?_of_mem (dget_mem hd')
    exact done j _ (by have := (List.getElem?_eq_some_iff.mp hj).1; rw [List.length_map]; exact this) hj
theorem lastOf_ge {l : List Int} (h : ∀ k ∈ l, 0 ≤ k) : -1 ≤ lastOf l := by
  unfold lastOf
  cases q : l.getLast? with
  | none => show (-1 : Int) ≤ -1; exact om239
  | some y => have := h y (List.mem_of_getLast? q); show (-1 : Int) ≤ y; exact om240 this
theorem sp_opened_any (W : Lw c (KK P) sc ns) (U : Own c (KK P)) (H : AH) (r : Addr) (b : Int) (rs : List (Int × V)) (LL : ListAt H r (rs.map rowV)) (ok : ∀ p ∈ rs, EntOk p.2) (few : rs.length ≤ 40) (h0 : 0 ≤ b) (h1 : b ≤ 1000) :
    Fn c 4 (.ref 279) [.ref r, .int b] H (fun d H' => RowsOk rs b) (fun C H' => Ext H H' ∧ C = .ref 56) := by
  have hs : 1000000 ≤ sizeLine := by decide
  refine Fn_def W.ok.lim (W.kx 279 _ rfl) rfl rfl (codeRec_of W.kx rfl) rfl (names := ["rows", "bound"]) (bind2 rfl fun _ _ => rfl) rfl (by decide) (fun n => mem2 (.inl rfl) (.inl rfl)) rfl rfl rfl fun A L frs hE R O => ?_
  have R1 : Room 1 A := R.le (by exact om166)
  have R3 : Room 3 A := R.le (by exact om241)
  refine Ex_assign (Ev_pack W R3 O.frames (Pe_var rfl) h0 h1 fun x dx hd0 H1 e1 hx hdx hhd PA => ?_) (.inl rfl)
  refine Ex_assign (Ev_dict0 W.ok fun ah oh hh => ?_) (.inl rfl)
  have hah : H ah = none := e1.none hh
  refine Ex_assign (Pe.ev (Pe_neg Pe_int) ?_) (.inl rfl)
  have rah : r ≠ ah := (e1.list LL).ne_new hh
  refine Ex_for O (EvIt_list R.handled (Pe.ev (Pe_var rfl) ⟨r, _, rfl, (e1.list LL).fresh hh, fun i m' H' => Ext H H' ∧ PackAt H' x dx hd0 b 0 [] ∧ DictIs H' ah (rs.take i) ∧ ((rs.take i).map (·.1)).Pairwise (· < ·) ∧ (∀ k ∈ (rs.take i).map (·.1), 0 ≤ k) ∧ m' (Str.ofString "pack") = some (.ref x) ∧ m' (Str.ofString "held") = some (.ref ah) ∧ m' (Str.ofString "bound") = some (.int b) ∧ m' (Str.ofString "last") = some (.int (lastOf ((rs.take i).map (·.1)))), ⟨Ext.set e1 hh, PA.ext (Ext.set (Ext.refl _) hh), DictIs.same _ _ _ _, by simp, (fun k hk => by simp at hk), rfl, rfl, rfl, rfl⟩, ?_, ?_⟩)) (.inl rfl)
  · rintro i d m' H' kp hdd rz20 tr; refine e0a9 rz20 fun ex PA' df up pos mp mh mb ml => ?_; clear rz20
    refine e1a2 (map_item hdd) fun p hp rq200 => ?_; obtain rfl := rq200
    have et : rs.take (i + 1) = rs.take i ++ [p] := by rw [List.take_add_one, hp]; rfl
    have okp := ok p (List.mem_of_getElem? hp)
    refine Ex_ifp (Tp_cmp (Pe_sub (Pe_var rfl) Pe_int (G_tup (d := .int p.1) (j := 0) rfl rfl (by decide))) (Pe_var ml) B_le decide_eq_true_iff) (fun _ => ?_) (fun g => ?_)
    · exact Ex_raise W.ok (U.cls _ 56 _ _ rfl (by kernel_rfl)) excBase_ValueError R.handled Pe_str ⟨ex, rfl⟩
    have lt : ∀ y ∈ (rs.take i).map (·.1), y < p.1 := fun y hy => by
      have := le_lastOf (up.imp fun h => Int.le_of_lt h) hy
      exact om242 g this
    have ge := lastOf_ge pos
    refine Ex_assign (Pe.ev (Pe_sub (Pe_var rfl) Pe_int (G_tup (d := .int p.1) (j := 0) rfl rfl (by decide))) ?_) (.inl rfl)
    refine Ex_store (Pe.ev (Pe_tuple (Pes_cons (Pe_sub (Pe_var rfl) Pe_int (G_tup (d := base0 p.2) (j := 1) rfl rfl (by decide))) (Pes_cons (Pe_sub (Pe_var rfl) Pe_int (G_tup (d := body0 p.2) (j := 2) rfl rfl (by decide))) Pes_nil)) (by show 2 ≤ sizeLine; exact om196 hs)) (Pe.ev (Pe_var mh) (Pe.ev (Pe_var rfl) ⟨ah, _, p.1, rfl, rfl, df, by rw [List.length_take]; exact om243 few hs, fun o' => ?_⟩)))
    rw [dset_new (fun q => by have := lt _ q; exact om244 this), ← okp.two, show (p.1, p.2) = p from rfl, ← et]
    have nn := PA'.i.ne_dict df
    have nh : hd0 ≠ ah := fun e => by have q := hhd; rw [e] at q; exact (PA.some_x.2.2) (by rw [e]; exact hh)
    refine Ex_nil ⟨⟨Ext.upd ex hah, ⟨PA'.i.ne nn.1 nn.2, PA'.d.ne nh⟩, DictIs.same _ _ _ _, ?_, fun k hk => ?_, mp, mh, mb, ?_⟩, fun y hy => ?_⟩
    · rw [et, List.map_append, List.pairwise_append]
      refine ⟨up, List.pairwise_singleton _ _, fun y hy z hz => ?_⟩
      rw [List.map_singleton, List.mem_singleton] at hz; subst hz; exact lt y hy
    · rw [et, List.map_append, List.mem_append] at hk
      rcases hk with hk | hk
      · exact pos k hk
      · rw [List.map_singleton, List.mem_singleton] at hk; subst hk; exact om245 g ge
    · rw [et, List.map_append, List.map_singleton, lastOf_snoc]; rfl
    · rw [List.mem_singleton] at hy; subst hy
      rw [set_ne _ _ rah]; exact tr _ (.head _)
  rintro m' H' rz21 _; refine e0a9 rz21 fun ex PA' df up pos mp mh mb ml => ?_; clear rz21
  rw [List.take_of_length_le (by simp)] at df ml up pos
  have nd := nd_of_up up
  refine Ex_expr (Ev_F2 W.ok (W.glob rfl) (W.kx 265 _ rfl) rfl R1 O.frames (Pe_var mh) (Pe_var mb) (Fn.mono (sp_check_any W U H' ah b rs df nd ok h0) (fun d H2 z => ?_) fun C H2 z => ⟨by obtain ⟨_, rfl⟩ := z; exact ex, z.1⟩))
  refine e0a3 z fun rq201 rq202 ch => ?_; clear z; obtain rfl := rq201; obtain rfl := rq202
  refine ⟨no_ref rfl, ?_⟩
  refine Ex_expr (Ev_F1 W.ok (W.glob rfl) (W.kx 272 _ rfl) rfl R3 O.frames (Pe_var mh) (Fn.mono (sp_changes_any W U _ ah rs df nd ok (by exact om246 few) fun k hk => let ⟨xs, h, _⟩ := ch k hk; ⟨xs, h⟩) (fun d H2 z => ?_) fun C H2 z => ⟨by obtain ⟨_, rfl⟩ := z; exact ex, z.1⟩))
  refine e0a3 z fun rq203 rq204 tx => ?_; clear z; obtain rfl := rq203; obtain rfl := rq204
  refine ⟨no_ref rfl, ?_⟩
  have nn := PA'.i.ne_dict df
  refine Ex_setattr W.kx pc (Pe.ev (Pe_var mh) (Pe.ev (Pe_var mp) ⟨x, dx, _, pk (.int b) (.ref ah) (.int 0), rfl, PA'.i, (by show 3 ≤ 1000; decide), pk_set_held _ _ _ _, fun od => ?_⟩)) tk_held
  have I3 : InstIs (H2.set dx ⟨od, .attrs (pk (.int b) (.ref ah) (.int 0))⟩) x 254 dx (pk (.int b) (.ref ah) (.int 0)) := by
    obtain ⟨⟨o, q⟩, _⟩ := id PA'.i
    exact ⟨⟨o, (set_ne _ _ PA'.i.apart).trans q⟩, od, set_same _ _ _⟩
  generalize H2.set dx ⟨od, .attrs (pk (.int b) (.ref ah) (.int 0))⟩ = H3 at I3 ⊢
  refine Ex_setattr W.kx pc (Pe.ev (Pe_bin (Pe_var ml) Pe_int B_add) (Pe.ev (Pe_var mp) ⟨x, dx, _, pk (.int b) (.ref ah) (.int (lastOf (rs.map (·.1)) + 1)), rfl, I3, (by show 3 ≤ 1000; decide), pk_set_coming _ _ _ _, fun od2 => ?_⟩)) tk_coming
  exact Ex_ret (Pe.ev (Pe_var mp) ⟨up, pos, ch, tx⟩)
theorem gb_ValueError (W : Lw c (KK P) sc ns) : GN c (Str.ofString "ValueError") (.type "ValueError") := W.blt rfl (by decide) bt_ValueError
theorem sp_refused7 (W : Lw c (KK P) sc ns) (U : Own c (KK P)) (H : AH) (r : Addr) (b : Int) (bb : Bool) (rs : List (Int × V)) (LL : ListAt H r (rs.map rowV)) (ok : ∀ p ∈ rs, EntOk p.2) (few : rs.length ≤ 40) (h0 : 0 ≤ b) (h1 : b ≤ 1000) (bad : ¬ RowsOk rs b) :
    Fn c 5 (.ref 386) [.ref r, .int b, .bool bb] H (fun d H' => d = .bool true ∧ H' = H) (fun _ _ => False) := by
  refine Fn.of_ext (Fn.mono (Q := fun d H' => Ext H H' ∧ d = .bool true) (X := fun _ _ => False) ?_ (fun d H' z => ⟨z.1, z.2, rfl⟩) fun _ _ z => z.elim)
  refine Fn_def W.ok.lim (W.kx 386 _ rfl) rfl rfl (codeRec_of W.kx rfl) rfl (names := ["_law_rows", "_law_bound", "_law_by_any"]) (bind3 rfl fun _ _ _ => rfl) rfl (by decide) (fun n => mem3 (.inl rfl) (.inl rfl) (.inl rfl)) rfl rfl rfl fun A L frs hE R O => ?_
  have R4 : Room 4 A := R.le (by exact om247)
  refine Ex_ifp (Tp_val (P := bb = true) (Pe_var rfl) Iff.rfl) (fun _ => ?_) (fun _ => ?_)
  · refine Ex_try O (Ex_exprA (Ev_F2 W.ok (W.glob rfl) (W.kx 279 _ rfl) rfl R4 O.frames (Pe_var rfl) (Pe_var rfl) (Fn.mono (sp_opened_any W U H r b rs LL ok few h0 h1) (fun _ _ z => (bad z).elim) fun C H2 z => ?_)))
    obtain ⟨e1, rfl⟩ := z
    intro e
    refine Hd_miss W.kx (fun kp => Pe_tuple (Pes_cons (Pe_glob W.ok (W.glob rfl)) (Pes_cons (Pe_glob W.ok (W.glob rfl)) (Pes_cons (Pe_glob W.ok (W.glob rfl)) (Pes_cons (Pe_glob W.ok (W.glob rfl)) (Pes_cons (Pe_glob W.ok (W.glob rfl)) Pes_nil))))) (by show 5 ≤ sizeLine; decide)) (Mt_miss5 (by kernel_rfl) (by kernel_rfl) (by kernel_rfl) (by kernel_rfl) (by kernel_rfl)) ?_
    refine Hd_hit_as W.kx (fun kp => Pe_glob W.ok (W.glob rfl)) (Mt_one (by kernel_rfl)) (fun oe hoe => ?_)
    exact Ex_ret (Pb.ev (Pb_isi W.ok (gb_isinstance W) (gb_ValueError W) (Pe_var rfl) (I_kept W.kx (.head _) (by rw [hoe]; rfl) (by rw [hoe]; kernel_rfl))) fun b r => ⟨(fun C q => nomatch q), e1, by rw [show b = true from r.mpr rfl]⟩)
  · refine Ex_try O (Ex_exprA (Ev_F2 W.ok (W.glob rfl) (W.kx 279 _ rfl) rfl R4 O.frames (Pe_var rfl) (Pe_var rfl) (Fn.mono (sp_opened_any W U H r b rs LL ok few h0 h1) (fun _ _ z => (bad z).elim) fun C H2 z => ?_)))
    obtain ⟨e1, rfl⟩ := z
    exact fun e => Hd_hit W.kx (fun kp => Pe_glob W.ok (W.glob rfl)) (Mt_one (by kernel_rfl)) (Ex_ret (Pe.ev Pe_bool ⟨(fun C q => nomatch q), e1, rfl⟩))
theorem sp_other_sign (W : Lw c (KK P) sc ns) (H : AH) (l : List Nat) : Fn c 1 (.ref 367) [.s l] H (fun d H' => d = .s (otherS l) ∧ H' = H) (fun _ _ => False) := by
  refine Fn_def W.ok.lim (W.kx 367 _ rfl) rfl rfl (codeRec_of W.kx rfl) rfl (names := ["_law_signs"]) (bind1 rfl fun _ => rfl) rfl (by decide) (fun n => mem1 (.inl rfl)) rfl rfl rfl fun A L frs hE R O => ?_
  refine Ex_ifp (P := l = [97]) (Tp_cmp (Pe_var rfl) (Pe_strl (l := [97]) (by decide)) B_eqss decide_eq_true_iff) (fun g => ?_) (fun g => ?_)
  · exact Ex_ret (Pe.ev (Pe_strl (l := [98]) (by decide)) ⟨by unfold otherS; rw [if_pos g], rfl⟩)
  · exact Ex_ret (Pe.ev (Pe_strl (l := [97]) (by decide)) ⟨by unfold otherS; rw [if_neg g], rfl⟩)
theorem sp_bad_change (W : Lw c (KK P) sc ns) (H : AH) (old : List Nat) (way : Int) (ho : old.length ≤ 600) : Fn c 2 (.ref 374) [.s old, .int way] H (fun d H' => d = chg (badC old way).1 (badC old way).2.1 (badC old way).2.2 ∧ H' = H) (fun _ _ => False) := by
  have hs : 1000000 ≤ sizeLine := by decide
  refine Fn_def W.ok.lim (W.kx 374 _ rfl) rfl rfl (codeRec_of W.kx rfl) rfl (names := ["_law_old", "_law_way"]) (bind2 rfl fun _ _ => rfl) rfl (by decide) (fun n => mem2 (.inl rfl) (.inl rfl)) rfl rfl rfl fun A L frs hE R O => ?_
  have R1 : Room 1 A := R.le (by exact om230)
  refine Ex_ifp (Tp_cmp (Pe_var rfl) Pe_int B_eq beq_iff_eq) (fun g => ?_) (fun g5 => ?_)
  · exact Ex_ret (Pe.ev (Pe_tuple (Pes_cons Pe_int (Pes_cons (Pe_bin (Pe_var rfl) (Pe_strl (l := [97]) (by decide)) (B_cats (by show old.length + 1 ≤ _; exact om248 ho hs))) (Pes_cons (Pe_strl (l := []) (by decide)) Pes_nil))) (three_fits _ _ _)) ⟨by unfold badC; rw [if_pos g], rfl⟩)
  refine Ex_ifp (Tp_cmp (Pe_var rfl) Pe_int B_eq beq_iff_eq) (fun g => ?_) (fun g6 => ?_)
  · exact Ex_ret (Pe.ev (Pe_tuple (Pes_cons Pe_int (Pes_cons (Pe_F1 W.ok (W.glob rfl) (W.kx 367 _ rfl) rfl R1 O.frames (Pe_slice_ns (Pe_var rfl) Pe_int (by decide) (by exact om249 ho hs)) (sp_other_sign W _ _)) (Pes_cons (Pe_strl (l := []) (by decide)) Pes_nil))) (three_fits _ _ _)) ⟨by unfold badC; rw [if_neg g5, if_pos g]; rfl, rfl⟩)
  refine Ex_ifp (Tp_cmp (Pe_var rfl) Pe_int B_eq beq_iff_eq) (fun g => ?_) (fun g7 => ?_)
  · exact Ex_ret (Pe.ev (Pe_tuple (Pes_cons (Pe_bin (Pe_B1 W.ok (gb_len W) (Pe_var rfl) (L_str (by exact om249 ho hs))) Pe_int B_add) (Pes_cons (Pe_strl (l := []) (by decide)) (Pes_cons (Pe_strl (l := [97]) (by decide)) Pes_nil))) (three_fits _ _ _)) ⟨by unfold badC; rw [if_neg g5, if_neg g6, if_pos g], rfl⟩)
  exact Ex_ret (Pe.ev (Pe_tuple (Pes_cons (Pe_neg Pe_int) (Pes_cons (Pe_slice_last (Pe_var rfl) (Pe_neg Pe_int) (by exact om249 ho hs)) (Pes_cons (Pe_strl (l := [97]) (by decide)) Pes_nil))) (three_fits _ _ _)) ⟨by unfold badC; rw [if_neg g5, if_neg g6, if_neg g7], rfl⟩)
def Spo (H : AH) (d : V) (H' : AH) : Prop := ∃ a rs, d = .ref a ∧ Ext H H' ∧ ListAt H' a (rs.map rowV) ∧ (∀ p ∈ rs, EntOk p.2) ∧ rs.length ≤ 20 ∧ ¬ RowsOk rs 1000
theorem El.spo {f : Fx} {m : Loc} {H : AH} {e : Expr} {L : List V} {X : Value → AH → Prop} (h : El c f e m H L) (rs : List (Int × V)) (eq : L = rs.map rowV) (ok : ∀ p ∈ rs, EntOk p.2) (len : rs.length ≤ 20) (bad : ¬ RowsOk rs 1000) : Ev c f e m H (Spo H) X :=
  h.ev fun a H' x n l => ⟨a, rs, rfl, x, eq ▸ l, ok, len, bad⟩
theorem ok_cut {rs : List (Int × V)} (ok : ∀ p ∈ rs, EntOk p.2) {i j : Nat} {x : List (Int × V)} (hx : ∀ p ∈ x, EntOk p.2) : ∀ p ∈ rs.take i ++ x ++ rs.drop j, EntOk p.2 := fun p hp => by
  rcases List.mem_append.mp hp with hp | hp
  · rcases List.mem_append.mp hp with hp | hp
    · exact ok p (List.mem_of_mem_take hp)
    · exact hx p hp
  · exact ok p (List.mem_of_mem_drop hp)
theorem ok_one {p : Int × V} (h : EntOk p.2) : ∀ q ∈ [p], EntOk q.2 := fun q hq => by rw [List.mem_singleton] at hq; subst hq; exact h
theorem map_cut {rs : List (Int × V)} {i j : Nat} {x : List (Int × V)} : (rs.map rowV).take i ++ x.map rowV ++ (rs.map rowV).drop j = (rs.take i ++ x ++ rs.drop j).map rowV := by
  rw [List.map_append, List.map_append, List.map_take, List.map_drop]
theorem len_cut {rs : List (Int × V)} {i j : Nat} {x : List (Int × V)} (h : rs.length ≤ 14) (hx : x.length ≤ 2) (hij : i ≤ j) : (rs.take i ++ x ++ rs.drop j).length ≤ 17 := by
  rw [List.length_append, List.length_append, List.length_take, List.length_drop]; exact om250 h hx hij
theorem sp_spoilt7 (W : Lw c (KK P) sc ns) (H : AH) (r ta : Addr) (way far : Int) (k : Nat) (rs ts : List (Int × V)) (tx : Int → List Nat) (rk : Int → Nat) (LR : ListAt H r (rs.map rowV)) (T : DictIs H ta ts) (tt : ∀ y, Key rs y → dget ts y = some (.s (tx y))) (E : Held rs tx rk) (up : (rs.map (·.1)).Pairwise (· < ·)) (hk : k < rs.length) (few : rs.length ≤ 14) (sh : ∀ y, Key rs y → (tx y).length ≤ 600) (ok : ∀ p ∈ rs, EntOk p.2) (f0 : 0 ≤ far) :
    Fn c 3 (.ref 379) [.ref r, .int way, .int k, .ref ta, .int far] H (Spo H) (fun _ _ => False) := by
  have hs : 1000000 ≤ sizeLine := by decide
  have ln : (rs.map rowV).length = rs.length := List.length_map _
  obtain ⟨⟨n, d⟩, hp⟩ : ∃ p, rs[k]? = some p := ⟨_, List.getElem?_eq_getElem hk⟩
  obtain ⟨pl, hpl⟩ : ∃ p, rs[rs.length - 1]? = some p := ⟨_, List.getElem?_eq_getElem (by exact om251 hk)⟩
  have mem := List.mem_of_getElem? hp
  have okd := ok _ mem
  have hgd := dget_of_mem E.nd mem
  have kn : Key rs n := ⟨d, hgd⟩
  have ul := up_last up hpl
  have okz : ∀ b : Int, EntOk (.tup [.int b, chg 0 [] []]) := fun b => .inr ⟨b, 0, [], [], rfl, by simp, by simp⟩
  have gk : ∀ {f : Fx} {H : AH} {i : Nat} {p : Int × V}, ListAt H r (rs.map rowV) → rs[i]? = some p → G2 c f H (.ref r) (.int (i : Int)) (rowV p) := fun {f H i p} l h => by
    have := (List.getElem?_eq_some_iff.mp h).1
    exact G_list (j := i) l ((seqIndex_pos (by exact om68) (by rw [ln]; exact om182 this)).trans (congrArg some (by exact om179))) (map_item' h) (by exact om252 few this)
  have g0 : ∀ {f : Fx} {H : AH} {p : Int × V}, G2 c f H (rowV p) (.int 0) (.int p.1) := fun {f H p} => G_tup (j := 0) rfl rfl (by decide)
  have g1 : ∀ {f : Fx} {H : AH} {p : Int × V}, G2 c f H (rowV p) (.int 1) (base0 p.2) := fun {f H p} => G_tup (j := 1) rfl rfl (by decide)
  have g2 : ∀ {f : Fx} {H : AH} {p : Int × V}, G2 c f H (rowV p) (.int 2) (body0 p.2) := fun {f H p} => G_tup (j := 2) rfl rfl (by decide)
  refine Fn.gen fun QQ hQQ => ?_
  refine Fn_def W.ok.lim (W.kx 379 _ rfl) rfl rfl (codeRec_of W.kx rfl) rfl (names := ["_law_rows", "_law_way", "_law_k", "_law_texts", "_law_far"]) (bind5 rfl fun _ _ _ _ _ => rfl) rfl (by decide) (fun n => mem5 (.inl rfl) (.inl rfl) (.inl rfl) (.inl rfl) (.inl rfl)) rfl rfl rfl fun A L frs hE R O => ?_
  have R2 : Room 2 A := R.le (by exact om237)
  refine Ex_assign (Pe.ev (Pe_sub (Pe_var rfl) (Pe_var rfl) (gk LR hp)) ?_) (.inr ⟨rfl, rfl⟩)
  refine Ex_assign (Pe.ev (Pe_tuple (Pes_cons Pe_int (Pes_cons (Pe_strl (l := []) (by decide)) (Pes_cons (Pe_strl (l := []) (by decide)) Pes_nil))) (three_fits _ _ _)) ?_) (.inl rfl)
  refine Ex_assign (Pe.ev (Pe_bin (Pe_sub (Pe_sub (Pe_var rfl) (Pe_neg Pe_int) (G_list (d := rowV pl) (j := rs.length - 1) LR ((seqIndex_neg (by decide) (by rw [ln]; exact om253 hk)).trans (congrArg some (by rw [ln]; exact om254))) (map_item' hpl) (by decide))) Pe_int g0) Pe_int B_add) ?_) (.inl rfl)
  have fin : ∀ {f : Fx} {m : Loc} {e : Expr} {L : List V} (h : El c f e m H L) (rs' : List (Int × V)) (eq : L = rs'.map rowV) (ok' : ∀ p ∈ rs', EntOk p.2) (len : rs'.length ≤ 20) (bad : ¬ RowsOk rs' 1000) {X : Value → AH → Prop}, Ev c f e m H QQ X := fun {f m e L} h rs' eq ok' len bad {X} => Ev.mono (h.spo (X := X) rs' eq ok' len bad) (fun d H' z => hQQ d H' z) fun _ _ z => z
  have kl : (k : Int) + 1 = ((k + 1 : Nat) : Int) := rfl
  have sz1 : ∀ {i : Nat} {x : List V}, x.length ≤ 2 → ((rs.map rowV).take i).length + x.length ≤ sizeLine := fun {i x} h => by
    rw [List.length_take, ln]; exact om255 few hs h
  have sz2 : ∀ {i j : Nat} {x : List V}, x.length ≤ 2 → ((rs.map rowV).take i ++ x).length + ((rs.map rowV).drop j).length ≤ sizeLine := fun {i j x} h => by
    rw [List.length_append, List.length_take, List.length_drop, ln]; exact om256 few hs h
  refine Ex_ifp (Tp_cmp (Pe_var rfl) Pe_int B_eq beq_iff_eq) (fun _ => ?_) (fun _ => ?_)
  · refine Ex_ret (fin (El_cat W.ok (El_cat W.ok (El_take W.ok (Pe_var rfl) (Pe_var rfl) LR rfl (by exact om257 few hs ln)) (fun H' x => El_disp W.ok (Pes_cons (Pe_var rfl) Pes_nil) (by show 1 ≤ sizeLine; exact om149 hs)) (sz1 (by simp))) (fun H' x => El_drop W.ok (Pe_var rfl) (Pe_var rfl) (x.list LR) rfl (by exact om258 hk ln) (by exact om257 few hs ln)) (sz2 (by simp))) (rs.take k ++ [(n, d)] ++ rs.drop k) (map_cut (x := [(n, d)])) (ok_cut ok (ok_one okd)) (Nat.le_trans (len_cut few (by simp) (Nat.le_refl _)) (by decide)) ?_)
    rw [List.drop_eq_getElem_cons hk, (List.getElem?_eq_some_iff.mp hp).2, List.append_assoc]
    exact no_twice (Int.le_refl _)
  refine Ex_ifp (Tp_and (Tpa_cons (Tp_cmp (Pe_var rfl) Pe_int B_eq beq_iff_eq) fun _ => Tpa_cons (Tp_cmp (Pe_var rfl) Pe_int B_gt decide_eq_true_iff) fun _ => Tpa_nil)) (fun g => ?_) (fun _ => ?_)
  · have k0 : 0 < k := by have := g.2.1; exact om259 g
    obtain ⟨pp, hpp⟩ : ∃ p, rs[k - 1]? = some p := ⟨_, List.getElem?_eq_getElem (by exact om260 hk)⟩
    refine Ex_ret (fin (El_cat W.ok (El_cat W.ok (El_take W.ok (Pe_var rfl) (Pe_var rfl) LR rfl (by exact om257 few hs ln)) (fun H' x => El_disp W.ok (Pes_cons (Pe_tuple (Pes_cons (Pe_sub (Pe_sub (Pe_var rfl) (Pe_bin (Pe_var rfl) Pe_int B_sub) (by rw [show (k : Int) - 1 = ((k - 1 : Nat) : Int) by exact om261 g]; exact gk (x.list LR) hpp)) Pe_int (g0 (p := pp))) (Pes_cons (Pe_sub (Pe_var rfl) Pe_int (g1 (p := (n, d)))) (Pes_cons (Pe_sub (Pe_var rfl) Pe_int (g2 (p := (n, d)))) Pes_nil))) (three_fits _ _ _)) Pes_nil) (by show 1 ≤ sizeLine; exact om149 hs)) (sz1 (by simp))) (fun H' x => El_drop W.ok (Pe_var rfl) (Pe_bin (Pe_var rfl) Pe_int B_add) (x.list LR) kl (by exact om262 hk ln) (by exact om257 few hs ln)) (sz2 (by simp))) (rs.take k ++ [(pp.1, d)] ++ rs.drop (k + 1)) (map_cut (x := [(pp.1, d)])) (ok_cut ok (ok_one okd)) (Nat.le_trans (len_cut few (by simp) (Nat.le_succ _)) (by decide)) ?_)
    have e : rs.take k = rs.take (k - 1) ++ [pp] := by
      have := List.take_add_one (l := rs) (i := k - 1)
      rw [show k - 1 + 1 = k by exact om263 g, hpp] at this; exact this
    rw [e, List.append_assoc, List.append_assoc]
    exact no_twice (Int.le_refl _)
  refine Ex_ifp (Tp_cmp (Pe_var rfl) Pe_int B_eq beq_iff_eq) (fun g => ?_) (fun _ => ?_)
  · refine Ex_ret (fin (El_cat W.ok (El_disp W.ok (Pes_cons (Pe_tuple (Pes_cons (Pe_bin (Pe_neg Pe_int) (Pe_var rfl) B_sub) (Pes_cons (Pe_sub (Pe_var rfl) Pe_int g1) (Pes_cons (Pe_sub (Pe_var rfl) Pe_int g2) Pes_nil))) (three_fits _ _ _)) Pes_nil) (by show 1 ≤ sizeLine; exact om149 hs)) (fun H' x => El_drop (k := 1) W.ok (Pe_var rfl) Pe_int (x.list LR) rfl (by exact om264 hk ln) (by exact om257 few hs ln)) (by rw [List.length_drop, ln]; show 1 + _ ≤ _; exact om265 few hs)) ((-1 - far, d) :: rs.drop 1) (by rw [List.map_cons, List.map_drop]; rfl) (fun p hp => ?_) (by rw [List.length_cons, List.length_drop]; exact om266 few) (no_neg (by show -1 - far < 0; exact om267 f0)))
    cases hp with
    | head => exact okd
    | tail _ h => exact ok p (List.mem_of_mem_drop h)
  have disp3 : ∀ {f : Fx} {m : Loc} {H : AH} {e1 e2 e3 : Expr} {kk : Nat} {p p' : Pos} {d1 d2 d3 : V}, Pes c f [e1, e2, e3] m H [d1, d2, d3] → El c f (.List [.Tuple [e1, e2, e3] kk p] p') m H [.tup [d1, d2, d3]] → True := fun _ _ => trivial
  clear disp3
  refine Ex_ifp (Tp_cmp (Pe_var rfl) Pe_int B_eq beq_iff_eq) (fun g => ?_) (fun _ => ?_)
  · refine Ex_ret (fin (El_cat W.ok (El_cat W.ok (El_take W.ok (Pe_var rfl) (Pe_var rfl) LR rfl (by exact om257 few hs ln)) (fun H' x => El_disp W.ok (Pes_cons (Pe_tuple (Pes_cons (Pe_sub (Pe_var rfl) Pe_int g0) (Pes_cons (Pe_sub (Pe_var rfl) Pe_int g0) (Pes_cons (Pe_var rfl) Pes_nil))) (three_fits _ _ _)) Pes_nil) (by show 1 ≤ sizeLine; exact om149 hs)) (sz1 (by simp))) (fun H' x => El_drop W.ok (Pe_var rfl) (Pe_bin (Pe_var rfl) Pe_int B_add) (x.list LR) kl (by exact om262 hk ln) (by exact om257 few hs ln)) (sz2 (by simp))) (rs.take k ++ [(n, .tup [.int n, chg 0 [] []])] ++ rs.drop (k + 1)) (map_cut (x := [(n, .tup [.int n, chg 0 [] []])])) (ok_cut ok (ok_one (okz n))) (Nat.le_trans (len_cut few (by simp) (Nat.le_succ _)) (by decide)) ?_)
    exact fun G => G.no_self (n := n) (d := .tup [.int n, chg 0 [] []]) (by simp) rfl
  refine Ex_ifp (P := way = 3 ∧ base0 d ≠ .none ∧ True) (Tp_and (Tpa_cons (Tp_cmp (Pe_var rfl) Pe_int B_eq beq_iff_eq) fun _ => Tpa_cons (Tp_isNotNone (Pe_sub (Pe_var rfl) Pe_int g1)) fun _ => Tpa_nil)) (fun g => ?_) (fun _ => ?_)
  · obtain ⟨bb, hbb⟩ : ∃ bb, base0 d = .int bb := by
      rcases okd with ⟨l, e0, _⟩ | ⟨b, a, g', e, e0, _, _⟩
      · have e0 : d = _ := e0
        rw [e0] at g; exact (g.2.1 rfl).elim
      · have e0 : d = _ := e0
        exact ⟨b, by rw [e0]; rfl⟩
    refine Ex_ret (Ev_comp W.ok (EvIt_list R.handled (Pe.ev (Pe_var rfl) ⟨r, _, rfl, LR, ?_⟩)) rfl (by decide) rfl (by decide) rfl (clN ⟨rfl, rfl, rfl⟩ cl0))
    have at_ : ∀ {i : Nat} {dd : V}, (rs.map rowV)[i]? = some dd → dd = rowV (rs.getD i (0, .none)) := fun {i dd} h => by
      refine e1a2 (map_item h) fun p hp' rq205 => ?_; obtain rfl := rq205
      rw [List.getD_eq_getElem?_getD, hp']; rfl
    refine CompOk_filter (fun i => rowV (rs.getD i (0, .none))) (fun i => !decide ((rs.getD i (0, .none)).1 = bb)) (by exact om257 few hs ln) (fun i dd C hE hdd => ?_) (fun i dd C hE hdd q => ?_) (fun a o ha => ?_)
    · rw [at_ hdd]
      refine Tp_cmp (Pe_sub (Pe_var rfl) Pe_int g0) (Pe_sub (d := .int bb) (Pe_var rfl) Pe_int (hbb ▸ g1 (p := (n, d)))) B_ne ?_
      simp
    · rw [at_ hdd]; exact Pe_var rfl
    · rw [ln, filter_rangeG rs (0, .none) (fun p => !decide (p.1 = bb)) rowV]
      refine hQQ _ _ ⟨a, _, rfl, Ext.set (Ext.refl _) ha, ListAt.same _ _ _ _, fun p hp' => ok p (List.mem_filter.mp hp').1, Nat.le_trans (List.length_filter_le _ _) (by exact om268 few), bad_gone E mem hbb⟩
  have nomore : ∀ dd : V, ¬ Key (rs.take k ++ [(n, dd)] ++ rs.drop (k + 1)) (pl.1 + 1) := fun dd q => by
    rw [key_iff, List.append_assoc, List.singleton_append, cut_keys hp dd] at q
    have := ul _ q
    exact om269 this
  refine Ex_ifp (Tp_cmp (Pe_var rfl) Pe_int B_eq beq_iff_eq) (fun g => ?_) (fun _ => ?_)
  · refine Ex_ret (fin (El_cat W.ok (El_cat W.ok (El_take W.ok (Pe_var rfl) (Pe_var rfl) LR rfl (by exact om257 few hs ln)) (fun H' x => El_disp W.ok (Pes_cons (Pe_tuple (Pes_cons (Pe_sub (Pe_var rfl) Pe_int g0) (Pes_cons (Pe_var rfl) (Pes_cons (Pe_var rfl) Pes_nil))) (three_fits _ _ _)) Pes_nil) (by show 1 ≤ sizeLine; exact om149 hs)) (sz1 (by simp))) (fun H' x => El_drop W.ok (Pe_var rfl) (Pe_bin (Pe_var rfl) Pe_int B_add) (x.list LR) kl (by exact om262 hk ln) (by exact om257 few hs ln)) (sz2 (by simp))) (rs.take k ++ [(n, .tup [.int (pl.1 + 1), chg 0 [] []])] ++ rs.drop (k + 1)) (map_cut (x := [(n, .tup [.int (pl.1 + 1), chg 0 [] []])])) (ok_cut ok (ok_one (okz _))) (Nat.le_trans (len_cut few (by simp) (Nat.le_succ _)) (by decide)) ?_)
    exact fun G => G.no_base (n := n) (d := .tup [.int (pl.1 + 1), chg 0 [] []]) (by simp) rfl (nomore _)
  refine Ex_ifp (Tp_cmp (Pe_var rfl) Pe_int B_eq beq_iff_eq) (fun g => ?_) (fun _ => ?_)
  · refine Ex_ret (fin (El_cat W.ok (El_cat W.ok (El_cat W.ok (El_take W.ok (Pe_var rfl) (Pe_var rfl) LR rfl (by exact om257 few hs ln)) (fun H' x => El_disp W.ok (Pes_cons (Pe_tuple (Pes_cons (Pe_sub (Pe_var rfl) Pe_int g0) (Pes_cons (Pe_var rfl) (Pes_cons (Pe_var rfl) Pes_nil))) (three_fits _ _ _)) Pes_nil) (by show 1 ≤ sizeLine; exact om149 hs)) (sz1 (by simp))) (fun H' x => El_drop W.ok (Pe_var rfl) (Pe_bin (Pe_var rfl) Pe_int B_add) (x.list LR) kl (by exact om262 hk ln) (by exact om257 few hs ln)) (sz2 (by simp))) (fun H' x => El_disp W.ok (Pes_cons (Pe_tuple (Pes_cons (Pe_var rfl) (Pes_cons (Pe_sub (Pe_var rfl) Pe_int g0) (Pes_cons (Pe_var rfl) Pes_nil))) (three_fits _ _ _)) Pes_nil) (by show 1 ≤ sizeLine; exact om149 hs)) (by rw [List.length_append, List.length_append, List.length_take, List.length_drop, ln]; show _ + 1 + _ + 1 ≤ _; exact om270 few hs)) (rs.take k ++ [(n, .tup [.int (pl.1 + 1), chg 0 [] []])] ++ rs.drop (k + 1) ++ [(pl.1 + 1, .tup [.int n, chg 0 [] []])]) (by rw [List.map_append, ← map_cut]; rfl) (fun p hp' => ?_) (by rw [List.length_append]; have := len_cut (x := [(n, V.tup [.int (pl.1 + 1), chg 0 [] []])]) few (by simp) (Nat.le_succ k); simp at this ⊢; exact om271 this) ?_)
    · rcases List.mem_append.mp hp' with h | h
      · exact ok_cut ok (ok_one (okz _)) p h
      · exact ok_one (p := (pl.1 + 1, V.tup [.int n, chg 0 [] []])) (okz _) p h
    · exact fun G => G.no_ring (n := n) (m := pl.1 + 1) (d := .tup [.int (pl.1 + 1), chg 0 [] []]) (d' := .tup [.int n, chg 0 [] []]) (by simp) rfl (by simp) rfl
  refine Ex_ifp (Tp_and (Tpa_cons (Tp_cmp (Pe_var rfl) Pe_int B_eq beq_iff_eq) fun _ => Tpa_cons (Tp_cmp (Pe_var rfl) Pe_int B_gt decide_eq_true_iff) fun _ => Tpa_nil)) (fun g => ?_) (fun _ => ?_)
  · have k0 : 0 < k := by have := g.2.1; exact om272 g
    obtain ⟨pp, hpp⟩ : ∃ p, rs[k - 1]? = some p := ⟨_, List.getElem?_eq_getElem (by exact om260 hk)⟩
    have km : (k : Int) - 1 = ((k - 1 : Nat) : Int) := by exact om273 g
    refine Ex_ret (fin (El_cat W.ok (El_cat W.ok (El_take W.ok (Pe_var rfl) (Pe_bin (Pe_var rfl) Pe_int B_sub) LR km (by exact om257 few hs ln)) (fun H' x => El_disp W.ok (Pes_cons (Pe_var rfl) (Pes_cons (Pe_sub (Pe_var rfl) (Pe_bin (Pe_var rfl) Pe_int B_sub) (by rw [km]; exact gk (x.list LR) hpp)) Pes_nil)) (by show 2 ≤ sizeLine; exact om196 hs)) (sz1 (by simp))) (fun H' x => El_drop W.ok (Pe_var rfl) (Pe_bin (Pe_var rfl) Pe_int B_add) (x.list LR) kl (by exact om262 hk ln) (by exact om257 few hs ln)) (sz2 (by simp))) (rs.take (k - 1) ++ [(n, d), pp] ++ rs.drop (k + 1)) (map_cut (x := [(n, d), pp])) (ok_cut ok (fun q hq => ?_)) (Nat.le_trans (len_cut few (by simp) (by exact om274)) (by decide)) ?_)
    · cases hq with
      | head => exact okd
      | tail _ h => obtain rfl := List.mem_singleton.mp h; exact ok _ (List.mem_of_getElem? hpp)
    · rw [List.append_assoc]
      refine no_twice (p := (n, d)) (q := pp) ?_
      have h1 := List.pairwise_iff_getElem.mp up (k - 1) k (by rw [List.length_map]; exact om260 hk) (by rw [List.length_map]; exact om275 hk) (by exact om276 km)
      rw [List.getElem_map, List.getElem_map, (List.getElem?_eq_some_iff.mp hpp).2, (List.getElem?_eq_some_iff.mp hp).2] at h1
      exact Int.le_of_lt h1
  refine Ex_ifp (Tp_isNotNone (Pe_sub (Pe_var rfl) Pe_int g1)) (fun g => ?_) (fun _ => ?_)
  · rcases okd with ⟨l, e0, _⟩ | ⟨b, a, g', e, e0, _, _⟩
    · have e0 : d = _ := e0
      rw [e0] at g; exact (g rfl).elim
    have e0 : d = _ := e0
    subst e0
    have kb : Key rs b := by
      cases E.ent n _ hgd with
      | lean b a gone come hb hlt st => exact hb
    have bl := badC_len (way := way) (sh b kb)
    refine Ex_ret (fin (El_cat W.ok (El_cat W.ok (El_take W.ok (Pe_var rfl) (Pe_var rfl) LR rfl (by exact om257 few hs ln)) (fun H' x => El_disp W.ok (Pes_cons (Pe_tuple (Pes_cons (Pe_sub (Pe_var rfl) Pe_int g0) (Pes_cons (Pe_sub (Pe_var rfl) Pe_int g1) (Pes_cons (Pe_F2 W.ok (W.glob rfl) (W.kx 374 _ rfl) rfl R2 O.frames (Pe_sub (d := .s (tx b)) (Pe_var rfl) (Pe_sub (Pe_var rfl) Pe_int g1) (G_dict (x.dict T) (tt b kb))) (Pe_var rfl) (sp_bad_change W _ (tx b) way (sh b kb))) Pes_nil))) (three_fits _ _ _)) Pes_nil) (by show 1 ≤ sizeLine; exact om149 hs)) (sz1 (by simp))) (fun H' x => El_drop W.ok (Pe_var rfl) (Pe_bin (Pe_var rfl) Pe_int B_add) (x.list LR) kl (by exact om262 hk ln) (by exact om257 few hs ln)) (sz2 (by simp))) (rs.take k ++ [(n, .tup [.int b, chg (badC (tx b) way).1 (badC (tx b) way).2.1 (badC (tx b) way).2.2])] ++ rs.drop (k + 1)) (map_cut (x := [(n, .tup [.int b, chg (badC (tx b) way).1 (badC (tx b) way).2.1 (badC (tx b) way).2.2])])) (ok_cut ok (ok_one (.inr ⟨b, _, _, _, rfl, bl.1, bl.2⟩))) (Nat.le_trans (len_cut few (by simp) (Nat.le_succ _)) (by decide)) ?_)
    rw [List.append_assoc]
    exact bad_lean E hp (badC_no _ _)
  have bl := badC_len (way := way) (sh n kn)
  refine Ex_ret (fin (El_catv W.ok (Pe_var rfl) LR (El_disp W.ok (Pes_cons (Pe_tuple (Pes_cons (Pe_var rfl) (Pes_cons (Pe_sub (Pe_var rfl) Pe_int g0) (Pes_cons (Pe_F2 W.ok (W.glob rfl) (W.kx 374 _ rfl) rfl R2 O.frames (Pe_sub (d := .s (tx n)) (Pe_var rfl) (Pe_sub (Pe_var rfl) Pe_int g0) (G_dict T (tt n kn))) (Pe_var rfl) (sp_bad_change W _ (tx n) way (sh n kn))) Pes_nil))) (three_fits _ _ _)) Pes_nil) (by show 1 ≤ sizeLine; exact om149 hs)) (by rw [ln]; show _ + 1 ≤ _; exact om277 few hs)) (rs ++ [(pl.1 + 1, .tup [.int n, chg (badC (tx n) way).1 (badC (tx n) way).2.1 (badC (tx n) way).2.2])]) (by rw [List.map_append]; rfl) (fun p hp' => ?_) (by rw [List.length_append]; show _ + 1 ≤ _; exact om278 few) (bad_more E kn (badC_no _ _)))
  rcases List.mem_append.mp hp' with h | h
  · exact ok p h
  · exact ok_one (p := (pl.1 + 1, V.tup [.int n, chg (badC (tx n) way).1 (badC (tx n) way).2.1 (badC (tx n) way).2.2])) (.inr ⟨n, _, _, _, rfl, bl.1, bl.2⟩) p h
theorem Held.entok {kvs : List (Int × V)} {tx : Int → List Nat} {rk : Int → Nat} (E : Held kvs tx rk) (sh : ∀ y, Key kvs y → (tx y).length ≤ 600) : ∀ p ∈ kvs, EntOk p.2 := fun ⟨k, d⟩ hp => by
  have hg := dget_of_mem E.nd hp
  have e := E.ent k d hg
  cases e with
  | root => exact .inl ⟨_, rfl, by have := sh k ⟨_, hg⟩; exact om279 this⟩
  | lean b a gone come hb hlt st =>
    have h1 := st.gone_le
    have h2 := st.come_le
    have := sh k ⟨_, hg⟩
    have := sh b hb
    exact .inr ⟨b, a, gone, come, rfl, by exact om280 h1 this, by exact om280 h2 (by assumption)⟩
theorem Srt.up {kvs : List (Int × V)} {srt : List Int} (S : Srt kvs srt) (nd : (kvs.map (·.1)).Nodup) : srt.Pairwise (· < ·) :=
  List.Pairwise.imp₂ (fun a b h1 h2 => by have : a ≠ b := h2; exact om281 h1 this) S.pw (S.nd nd)
theorem law07 (W : Lw c (KK P) sc ns) (U : Own c (KK P)) : Fn c 40 (.ref 393) [.ref sc] (fun _ => none) (fun d _ => d = .bool true) (fun _ _ => False) := by
  have hs : 1000000 ≤ sizeLine := by decide
  refine Fn_def W.ok.lim (W.kx 393 _ rfl) rfl rfl (codeRec_of W.kx rfl) rfl (names := ["_law_script"]) (bind1 rfl fun _ => rfl) rfl (by decide) (fun n => mem1 (.inl rfl)) rfl rfl rfl fun A L frs hE R O => ?_
  have R1 : Room 1 A := R.le (by exact om282)
  have R2 : Room 2 A := R.le (by exact om283)
  have R3 : Room 3 A := R.le (by exact om284)
  have R4 : Room 4 A := R.le (by exact om285)
  have R5 : Room 5 A := R.le (by exact om286)
  have hu : A.units + 400 < cLine := by have := R.units; exact om287 this
  refine Ex_assign (Pe.ev (Pe_bin Pe_int (Pe_bin (Pe_cell W R1 O.frames rfl) Pe_int (B_mod (by decide))) B_add) ?_) (.inl rfl)
  refine Ex_if_set (Tp_cmp (Pe_bin (Pe_bin (Pe_cell W R1 O.frames rfl) Pe_int (B_div (by decide) (by decide))) Pe_int (B_mod (by decide))) Pe_int B_eq beq_iff_eq) (fun _ => Pe_bin (Pe_var rfl) Pe_int B_add) (fun d hd => ?_) (.inl rfl)
  obtain ⟨many, rfl, n0, n1⟩ : ∃ many : Nat, d = .int many ∧ 1 ≤ many ∧ many ≤ 14 := by
    rcases hd with ⟨_, rfl⟩ | ⟨_, rfl⟩
    · exact ⟨(1 + cellAt ns 0 % 8 + 6).toNat, congrArg V.int (by exact om288), by exact om289, by exact om290⟩
    · exact ⟨(1 + cellAt ns 0 % 8).toNat, congrArg V.int (by exact om291), by exact om292, by exact om293⟩
  clear hd
  refine Ex_assign (Ev_F2e W.ok (W.glob rfl) (W.kx 338 _ rfl) rfl R4 O.frames (Ev_F3 W.ok (W.glob rfl) (W.kx 360 _ rfl) rfl R2 O.frames (Pe_var rfl) Pe_int (Pe_var rfl) (Fn.mono (sp_cells W _ 5 many (by decide) (by exact om294 n1)) (fun d H2 z => ?_) fun _ _ z => z.elim))) (.inl rfl)
  refine e2a5 z fun ca cs rq206 e2 hca lca csl => ?_; clear z; obtain rfl := rq206
  refine (Pe_cell W R1 O.frames rfl).ev (Fn.mono (sp_made W H2 ca cs many (cellAt ns 1) lca csl n0 n1) (fun d H3 z => ?_) fun _ _ z => z.elim)
  refine e6a12 z fun ar ak ta kv tx rk rq207 e3 _ _ _ lar D T E kl _ kpos => ?_; clear z; obtain rfl := rq207
  clear e2 hca lca e3
  have hne : kv ≠ [] := fun e => by rw [e] at kl; have : (0 : Nat) = many := kl; exact om295 n0 this
  refine Ex_assign (Ev_F1 W.ok (W.glob rfl) (W.kx 343 _ rfl) rfl R1 O.frames (Pe_sub (Pe_var rfl) Pe_int (G_list (d := .ref ak) (j := 0) lar rfl rfl (by decide))) (Fn.mono (sp_rows_of W H3 ak kv tx rk D E) (fun d H4 z => ?_) fun _ _ z => z.elim)) (.inl rfl)
  refine e2a5 z fun a4 srt rq208 e4 ha4 S lr => ?_; clear z; obtain rfl := rq208
  have sl := S.len
  have lar4 := e4.list lar
  have D4 := e4.dict D
  have T4 := e4.dict T
  rw [rowsOf_eq] at lr
  have EH := E.heldOf S
  have sim := heldOf_sim S
  have sh : ∀ y, Key (Mine.heldOf kv srt) y → (tx y).length ≤ 600 := fun y hy => (kpos y (sim.key.mp hy)).2
  have ok := EH.entok sh
  have up : ((Mine.heldOf kv srt).map (·.1)).Pairwise (· < ·) := by rw [keys_heldOf]; exact S.up E.nd
  have rl : (Mine.heldOf kv srt).length = many := by unfold Mine.heldOf; rw [List.length_map, sl, kl]
  refine Ex_assign (Ev_bin (Ev_F1 W.ok (W.glob rfl) (W.kx 355 _ rfl) rfl R2 O.frames (Pe_sub (Pe_var rfl) Pe_int (G_list (d := .ref ak) (j := 0) lar4 rfl rfl (by decide))) (Fn.mono (sp_longest W H4 ak kv tx rk D4 E hne) (fun d H5 z => ?_) fun _ _ z => z.elim))) (.inl rfl)
  obtain ⟨rfl, M, rfl, M0, M1, ⟨k0, xs0, _, hx0, hl0⟩, _⟩ := z
  refine Pe_int.ev (B_sub.op ?_)
  refine Ex_ifj (fun m' H' => ∃ (a : Addr) (rs : List (Int × V)) (bd : Int), ListAt H' a (rs.map rowV) ∧ (∀ p ∈ rs, EntOk p.2) ∧ rs.length ≤ 20 ∧ 0 ≤ bd ∧ bd ≤ 1000 ∧ ¬ RowsOk rs bd ∧ m' (Str.ofString "_law_script") = some (.ref sc) ∧ m' (Str.ofString "_law_rows") = some (.ref a) ∧ m' (Str.ofString "_law_bound") = some (.int bd))
    (Tp_or (Tpo_cons (Tp_cmp (Pe_var rfl) Pe_int B_lt decide_eq_true_iff) fun _ => Tpo_cons (Tp_cmp (Pe_bin (Pe_cell W R1 O.frames rfl) Pe_int (B_mod (by decide))) Pe_int B_gt decide_eq_true_iff) fun _ => Tpo_nil)) (fun _ => ?_) (fun g => ?_) ?_
  · refine Ex_assign (Pe.ev Pe_int ?_) (.inl rfl)
    have kk0 : 0 ≤ cellAt ns 4 % (many : Int) := Int.emod_nonneg _ (by exact om163 n0)
    have kk1 : cellAt ns 4 % (many : Int) < many := Int.emod_lt_of_pos _ (by exact om164 n0)
    obtain ⟨k, hk⟩ : ∃ k : Nat, cellAt ns 4 % (many : Int) = (k : Int) := ⟨(cellAt ns 4 % (many : Int)).toNat, by exact om296 kk0⟩
    refine Ex_assign (Pe.ev (Pe_cast (b := (k : Int)) (by rw [List.length_map, rl]; exact hk) (Pe_bin (Pe_cell W R1 O.frames rfl) (Pe_B1 W.ok (gb_len W) (Pe_var rfl) (L_list lr (by rw [List.length_map]; exact om297 hs n1 rl))) (B_mod (by rw [List.length_map]; exact om298 n0 rl)))) ?_) (.inl rfl)
    have f0 : 0 ≤ cellAt ns 3 / 10 % (10 : Int) ^ Int.toNat 6 := Int.emod_nonneg _ (by decide)
    refine Ex_assign (Ev_FN W.ok (W.glob rfl) (W.kx 379 _ rfl) rfl R3 O.frames (Pes_cons (Pe_var rfl) (Pes_cons (Pe_bin (Pe_cell W R1 O.frames rfl) Pe_int (B_mod (by decide))) (Pes_cons (Pe_var rfl) (Pes_cons (Pe_sub (Pe_var rfl) Pe_int (G_list (d := .ref ta) (j := 1) lar4 rfl rfl (by decide))) (Pes_cons (Pe_bin (Pe_bin (Pe_cell W R1 O.frames rfl) Pe_int (B_div (by decide) (by decide))) (Pe_bin Pe_int Pe_int (B_pow (by decide) (by decide) (by decide))) (B_mod (by decide))) Pes_nil))))) (Fn.mono (sp_spoilt7 W _ a4 ta _ _ k (Mine.heldOf kv srt) _ tx rk lr T4 (fun y hy => dget_texts (sim.key.mp hy)) EH up (by exact om299 rl kk1 hk) (by exact om300 n1 rl) sh ok f0) (fun d H6 z => ?_) fun _ _ z => z.elim)) (.inl rfl)
    refine e2a6 z fun a6 rs rq209 _ l6 ok6 len6 bad6 => ?_; clear z; obtain rfl := rq209
    exact Ex_nil ⟨rfl, a6, rs, 1000, l6, ok6, len6, by decide, by decide, bad6, rfl, rfl, rfl⟩
  · refine Ex_nil ⟨rfl, a4, Mine.heldOf kv srt, M - 1, lr, ok, by exact om301 n1 rl, by have : ¬ (M - 1 < 0) := fun q => g (.inl q); exact om302 g, by exact om303 M1, fun G => ?_, rfl, rfl, rfl⟩
    exact G.no_long (n := k0) (xs := xs0) ((Sim.symm sim).bases.chain hx0) (by exact om304 hl0)
  rintro m' H' rz22; refine e3a9 rz22 fun a rs bd l ok' len b0 b1 bad ms mr mb => ?_; clear rz22
  have ln : (rs.map rowV).length = rs.length := List.length_map _
  refine Ex_assign (Ev_T1 W.ok (gb_list W) (Pe_var mr) (O_copy W.ok l (by exact om305 hs len ln) fun ah oh hh => ?_)) (.inl rfl)
  have lh := ListAt.same H' ah oh (rs.map rowV)
  have lr' := l.fresh (x := ⟨oh, .list (rs.map rowV)⟩) hh
  generalize H'.set ah ⟨oh, .list (rs.map rowV)⟩ = H7 at lh lr' ⊢
  refine Ex_ret (Ev_and (Pe.pb (Pe_F3 W.ok (W.glob rfl) (W.kx 386 _ rfl) rfl R5 O.frames (Pe_var rfl) (Pe_var mb) (Pe_cmp (Pe_bin (Pe_bin (Pe_cell W R1 O.frames ms) Pe_int (B_div (by decide) (by decide))) Pe_int (B_mod (by decide))) Pe_int B_eq) (sp_refused7 W U H7 ah bd _ rs lh ok' (by exact om306 len) b0 b1 bad)) Iff.rfl) rfl (Ev_and1 (Pe.ev (Pe_cmp (Pe_var rfl) (Pe_var mr) (B_eqlT (n := 3) lh lr' rfl (fun j d₁ d₂ h₁ h₂ => ?_) (by show A.units + _ < _; exact om307 hu))) rfl)))
  rw [h₁] at h₂; cases h₂
  refine e1a2 (map_item h₁) fun p hp rq210 => ?_; obtain rfl := rq210
  exact (ok' p (List.mem_of_getElem? hp)).alike
end
end Mine
namespace Mine
open PySem PySem.W PyProof.Rows
def hd.tw11210553801493137410 : Unit := ()
def hd.tw14598272352848978880 : Unit := ()
def hd.tw9702936160620672325 : Unit := ()
def hd.tw14955159897011116063 : Unit := ()
def hd.tw1097998534492414930 : Unit := ()
def hd.tw9653751418590077562 : Unit := ()
def hd.tw3919010098100093602 : Unit := ()
def hd.tw2195365466389143174 : Unit := ()
def hd.tw6830512106363814048 : Unit := ()
def hd.tw10792051664901133789 : Unit := ()
def hd.tw14176624398918483544 : Unit := ()
def hd.tw10919297434634762262 : Unit := ()
def hd.tw9421340871869096474 : Unit := ()
def hd.tw7366208706002141716 : Unit := ()
def hd.tw2788664435532181463 : Unit := ()
def hd.tw13466754112058979494 : Unit := ()
def hd.tw226724450230711188 : Unit := ()
def hd.tw18264374347568628810 : Unit := ()
def hd.tw13321331477185743149 : Unit := ()
def hd.tw18343703819029505601 : Unit := ()
def hd.tw6038821095411175016 : Unit := ()
def hd.tw10246146449241189800 : Unit := ()
def hd.tw17420951861521290806 : Unit := ()
def hd.tw15508949281206285077 : Unit := ()
def hd.tw2608437505485318709 : Unit := ()
def hd.tw3309697970292668127 : Unit := ()
def hd.tw16794629799341752650 : Unit := ()
def hd.tw17252143746492648416 : Unit := ()
def hd.tw7752767780024739350 : Unit := ()
def hd.tw9908193460736022307 : Unit := ()
def hd.tw11319097763535126812 : Unit := ()
def hd.tw1600037746751723098 : Unit := ()
def hd.tw2887051446865420828 : Unit := ()
def hd.tw5902613922787404954 : Unit := ()
def hd.tw13217225542625558698 : Unit := ()
def hd.tw9496365245306024149 : Unit := ()
def hd.tw13285133528070534704 : Unit := ()
def hd.tw1439246655266547700 : Unit := ()
def hd.tw16056359734778111409 : Unit := ()
def hd.tw10170382586518783626 : Unit := ()
def hd.tw2323474266016966308 : Unit := ()
def hd.tw16640546478005224243 : Unit := ()
def hd.tw991583007596301734 : Unit := ()
def hd.tw14906377314874228009 : Unit := ()
def hd.tw6838551448383532254 : Unit := ()
def hd.tw11465210709893060100 : Unit := ()
def hd.tw2101469004524951375 : Unit := ()
def hd.tw10403243965636340961 : Unit := ()
def hd.tw17087091549796120035 : Unit := ()
def hd.tw3915529967508079626 : Unit := ()
def hd.tw5373601922739893978 : Unit := ()
def hd.tw11251137523995926341 : Unit := ()
def hd.tw7610815399733428385 : Unit := ()
def hd.tw4383666589626881386 : Unit := ()
def hd.tw15615537253650120727 : Unit := ()
def hd.tw5054737718236178183 : Unit := ()
def hd.tw9499510787657705874 : Unit := ()
def hd.tw11151547217846952531 : Unit := ()
def hd.tw17542962492245011380 : Unit := ()
def hd.tw17562767543260142214 : Unit := ()
def hd.tw17893044597097874663 : Unit := ()
def hd.tw10216474801634566288 : Unit := ()
def hd.tw17739348878880393726 : Unit := ()
def hd.tw14960593345356199642 : Unit := ()
def hd.tw14560493823538711346 : Unit := ()
def hd.tw13047593935725612058 : Unit := ()
def hd.tw18291419657060728153 : Unit := ()
def hd.tw9763420282994701918 : Unit := ()
def hd.tw4138081844389336918 : Unit := ()
def hd.tw8735263284916673568 : Unit := ()
def hd.tw6394381022753523788 : Unit := ()
def hd.tw14457593812595234344 : Unit := ()
def hd.tw4272726840584523970 : Unit := ()
def hd.tw11631947586910100387 : Unit := ()
def hd.tw10030107230732127627 : Unit := ()
def hd.tw13277076834127875243 : Unit := ()
def hd.tw3694398316872202419 : Unit := ()
def hd.tw6411954120941647267 : Unit := ()
def hd.tw1760603350576429475 : Unit := ()
def hd.tw5130813555471234732 : Unit := ()
def hd.tw3443669649825651883 : Unit := ()
def hd.tw7540655947842036084 : Unit := ()
def hd.tw7355570028127101125 : Unit := ()
def hd.tw307737655149646647 : Unit := ()
def hd.tw16634568088961857937 : Unit := ()
def hd.tw17672654358674132775 : Unit := ()
def hd.tw3085183777334472315 : Unit := ()
def hd.tw11953376511379268794 : Unit := ()
def hd.tw10727248033764811480 : Unit := ()
def hd.tw10424393626065333798 : Unit := ()
def hd.tw17606422857730326317 : Unit := ()
def hd.tw3828038474966422129 : Unit := ()
def hd.tw17311223219408574766 : Unit := ()
def hd.tw189712035060473897 : Unit := ()
def hd.tw4377701919642642989 : Unit := ()
def hd.tw6196171512934965099 : Unit := ()
def hd.tw17387473266821786944 : Unit := ()
def hd.tw9345929723534960622 : Unit := ()
def hd.tw14896477498954680388 : Unit := ()
def hd.tw18093812233618175256 : Unit := ()
def hd.tw16868993833207775613 : Unit := ()
def hd.tw17903497710992402801 : Unit := ()
def hd.tw701787995468756871 : Unit := ()
def hd.tw16029623286316568529 : Unit := ()
def hd.tw1452849714261714991 : Unit := ()
def hd.tw1589133516308662214 : Unit := ()
def hd.tw6759412095888398321 : Unit := ()
def hd.tw15422856539912107476 : Unit := ()
def hd.tw3381375190539634487 : Unit := ()
def hd.tw15852365999677673905 : Unit := ()
def hd.tw15411387601460861337 : Unit := ()
def hd.tw15166520500009309586 : Unit := ()
def hd.tw13638418597567726942 : Unit := ()
def hd.tw6882427118574961969 : Unit := ()
def hd.tw16828841361933241965 : Unit := ()
def hd.tw2502866573005156581 : Unit := ()
def hd.tw15948780112781908787 : Unit := ()
def hd.tw7270182246851987180 : Unit := ()
def hd.tw4225703048834024713 : Unit := ()
def hd.tw3350844169311001129 : Unit := ()
def hd.tw6820862383352777685 : Unit := ()
def hd.tw5245234834050458271 : Unit := ()
def hd.tw17588044629489971554 : Unit := ()
def hd.tw14310624532144728618 : Unit := ()
def hd.tw7510230149288206974 : Unit := ()
def hd.tw6545403380812914513 : Unit := ()
def hd.tw1197925565968671727 : Unit := ()
def hd.tw18322514126500204803 : Unit := ()
def hd.tw16649331688326792143 : Unit := ()
def hd.tw1848646778235469078 : Unit := ()
def hd.tw6200784524234305081 : Unit := ()
def hd.tw11128854368766332075 : Unit := ()
def hd.tw17681399029576232318 : Unit := ()
def hd.tw14353793391729792155 : Unit := ()
def hd.tw16722109127936396110 : Unit := ()
def hd.tw3008623586974134963 : Unit := ()
def hd.tw13267510147771200024 : Unit := ()
def hd.tw2391449824757734642 : Unit := ()
def hd.tw4494801613693538912 : Unit := ()
def hd.tw5732804406350252772 : Unit := ()
def hd.tw8977307856219701671 : Unit := ()
def hd.tw17673860158736603733 : Unit := ()
def hd.tw5363564295841288755 : Unit := ()
def hd.tw17740048764370220076 : Unit := ()
def hd.tw11032806212648032379 : Unit := ()
def hd.tw6924109203229866365 : Unit := ()
def hd.tw11917015161858427179 : Unit := ()
def hd.tw402640490398009360 : Unit := ()
def hd.tw519851828213033955 : Unit := ()
def hd.tw14346525914970070588 : Unit := ()
def hd.tw15347494238783688032 : Unit := ()
def hd.tw9657781627882305391 : Unit := ()
def hd.tw17177331786930743035 : Unit := ()
def hd.tw5366084841770067474 : Unit := ()
def hd.tw10949625832625181284 : Unit := ()
def hd.tw15615420239508185596 : Unit := ()
def hd.tw8959176491354863721 : Unit := ()
def hd.tw15603535497565009323 : Unit := ()
def hd.tw3571134770919094901 : Unit := ()
def hd.tw14581687000692753131 : Unit := ()
def hd.tw728884934406724761 : Unit := ()
def hd.tw1013155817946168525 : Unit := ()
def hd.tw11389486352061984695 : Unit := ()
def hd.tw6982297934935202809 : Unit := ()
def hd.tw18293851220164018083 : Unit := ()
def hd.tw1580110805410547442 : Unit := ()
def hd.tw6082411064634330575 : Unit := ()
def hd.tw10583446816852156582 : Unit := ()
def hd.tw2274498078352570744 : Unit := ()
def hd.tw9673543361469618366 : Unit := ()
def hd.tw11709330566771433103 : Unit := ()
def hd.tw12614811148066621264 : Unit := ()
def hd.tw15967140613478806237 : Unit := ()
def hd.tw8134915037123179040 : Unit := ()
def hd.tw8879563391730754479 : Unit := ()
def hd.tw8117029840178788049 : Unit := ()
def hd.tw11631869004601391166 : Unit := ()
def hd.tw2442259710966052079 : Unit := ()
def hd.tw1851346269716277005 : Unit := ()
def hd.tw13790719812936386609 : Unit := ()
def hd.tw6276725880618359904 : Unit := ()
def hd.tw1011335219593555734 : Unit := ()
def hd.tw8545014587354053640 : Unit := ()
def hd.tw3782262067481160510 : Unit := ()
def hd.tw4315991029959535628 : Unit := ()
def hd.tw2329189449893159454 : Unit := ()
def hd.tw4014540891139286612 : Unit := ()
def hd.tw4702841417184801058 : Unit := ()
def hd.tw1359830224848277088 : Unit := ()
def hd.tw8716120427605611371 : Unit := ()
def hd.tw12936449754285732098 : Unit := ()
def hd.tw1241404454085649124 : Unit := ()
def hd.tw17991899419247866378 : Unit := ()
def hd.tw9783614193127449063 : Unit := ()
def hd.tw12785904962493847673 : Unit := ()
def hd.tw8671608845466749128 : Unit := ()
def hd.tw15344866539931968096 : Unit := ()
def hd.tw8458067239894703972 : Unit := ()
def hd.tw2867327485932766208 : Unit := ()
def hd.tw8609351116199087170 : Unit := ()
def hd.tw697623264460660564 : Unit := ()
def hd.tw15910714762333108613 : Unit := ()
def hd.tw15089522573102190283 : Unit := ()
def hd.tw13828106393651249627 : Unit := ()
def hd.tw14768889098011018680 : Unit := ()
def hd.tw8047900516022102942 : Unit := ()
def hd.tw10743916045514856203 : Unit := ()
def hd.tw9960721518486171458 : Unit := ()
def hd.tw2327210489368252092 : Unit := ()
def hd.tw17258206423299326598 : Unit := ()
def hd.tw3480954088277226078 : Unit := ()
def hd.tw7494724483528729301 : Unit := ()
def hd.tw2999033326186475339 : Unit := ()
def hd.tw12588582704262371052 : Unit := ()
def hd.tw212345690472687942 : Unit := ()
def hd.tw11011131195910976488 : Unit := ()
def hd.tw13518370688599389936 : Unit := ()
def hd.tw15367242080415987702 : Unit := ()
def hd.tw6184460063843016694 : Unit := ()
def hd.tw2315301623876862497 : Unit := ()
def hd.tw18219297243305740317 : Unit := ()
def hd.tw6528754448969337418 : Unit := ()
def hd.tw5282504435634884242 : Unit := ()
def hd.tw7540741092611519060 : Unit := ()
def hd.tw16713699803418581334 : Unit := ()
def hd.tw17213754286329925777 : Unit := ()
def hd.tw16473244170626142550 : Unit := ()
def hd.tw1882180444382439491 : Unit := ()
def hd.tw8493152586797012548 : Unit := ()
def hd.tw16194383521188589630 : Unit := ()
def hd.tw8068729725432388964 : Unit := ()
def hd.tw4115565904173853331 : Unit := ()
def hd.tw14892549342360969540 : Unit := ()
def hd.tw6423634429210846174 : Unit := ()
def hd.tw14400467628812073631 : Unit := ()
def hd.tw11652457597714270106 : Unit := ()
def hd.tw5174551420813472067 : Unit := ()
def hd.tw4851647983119433812 : Unit := ()
def hd.tw5978321128707920903 : Unit := ()
def hd.tw978945382295711627 : Unit := ()
def hd.tw13483081372092288885 : Unit := ()
def hd.tw7534799579077118603 : Unit := ()
def hd.tw12112201142124510154 : Unit := ()
def hd.tw15643275761693703936 : Unit := ()
def hd.tw3219085151875037572 : Unit := ()
def hd.tw17975533764899295144 : Unit := ()
def hd.tw16225743686406366006 : Unit := ()
def hd.tw3789350110615891812 : Unit := ()
def hd.tw461538923250603899 : Unit := ()
def hd.tw11038495425325230296 : Unit := ()
def hd.tw12647368939536790636 : Unit := ()
def hd.tw13225837485096350037 : Unit := ()
def hd.tw17711083657039698284 : Unit := ()
def hd.tw17986969038992634876 : Unit := ()
def hd.tw8457440626546761165 : Unit := ()
def hd.tw13783031573616600631 : Unit := ()
def hd.tw14705683404202351889 : Unit := ()
def hd.tw6442067068224118133 : Unit := ()
def hd.tw2930668341846507884 : Unit := ()
def hd.tw3442329435671937591 : Unit := ()
def hd.tw13220430256171166289 : Unit := ()
def hd.tw3704167492566942397 : Unit := ()
def hd.tw11402939732021071671 : Unit := ()
def hd.tw6906073325868019850 : Unit := ()
def hd.tw6123773746684550334 : Unit := ()
def hd.tw5095010599579401659 : Unit := ()
def hd.tw5716766192118558609 : Unit := ()
def hd.tw6785817131721698500 : Unit := ()
def hd.tw395138700845864316 : Unit := ()
def hd.tw8789358453043137523 : Unit := ()
def hd.tw16259696140248634718 : Unit := ()
def hd.tw15968945029929137490 : Unit := ()
def hd.tw6931407450589930559 : Unit := ()
def hd.tw4297731678662094536 : Unit := ()
def hd.tw2457190517430149469 : Unit := ()
def hd.tw11713075325732132258 : Unit := ()
def hd.tw17234923516513369237 : Unit := ()
def hd.tw9566141503761928105 : Unit := ()
def hd.tw10404513684093684653 : Unit := ()
def hd.tw14103535550066685397 : Unit := ()
def hd.tw10258999931320997221 : Unit := ()
def hd.tw14620637471214046174 : Unit := ()
def hd.tw8226494294326810461 : Unit := ()
def hd.tw9533747618267967006 : Unit := ()
def hd.tw15683763237869141255 : Unit := ()
def hd.tw5608270528595127837 : Unit := ()
def hd.tw13855946660403688772 : Unit := ()
def hd.tw506717569212085965 : Unit := ()
def hd.tw5480042469492414594 : Unit := ()
def hd.tw16879956485299554121 : Unit := ()
def hd.tw8990313861142287110 : Unit := ()
def hd.tw4478166936697009375 : Unit := ()
def hd.tw2068664650715991707 : Unit := ()
def hd.tw15833661619300960221 : Unit := ()
def hd.tw11117797201346649052 : Unit := ()
def hd.tw7519716089354478335 : Unit := ()
def hd.tw6293948785866598258 : Unit := ()
def hd.tw3646829019195819677 : Unit := ()
def hd.tw2304311442786299043 : Unit := ()
def hd.tw16477043939570097188 : Unit := ()
def hd.tw16037735763661986305 : Unit := ()
def hd.tw16091413853298234908 : Unit := ()
def hd.tw7120233287515763914 : Unit := ()
def hd.tw7914949630228597729 : Unit := ()
def hd.tw5629675986466331604 : Unit := ()
def hd.tw16299908979028503884 : Unit := ()
def hd.tw7763873220885509757 : Unit := ()
def hd.tw4065347644161347641 : Unit := ()
def hd.tw13437812931772313286 : Unit := ()
def hd.tw13372043803930879067 : Unit := ()
def hd.tw8228950375871286339 : Unit := ()
def hd.tw9741134391959003819 : Unit := ()
def hd.tw4856431653887292112 : Unit := ()
def hd.tw7654286748164834634 : Unit := ()
def hd.tw541196102884509978 : Unit := ()
def hd.tw7721951785955056133 : Unit := ()
def hd.tw7746578258024575070 : Unit := ()
def hd.tw12949589719889679912 : Unit := ()
def hd.tw11513968764499736323 : Unit := ()
def hd.tw758273949599710562 : Unit := ()
def hd.tw9345676750909349944 : Unit := ()
def hd.tw7754304195085646258 : Unit := ()
def hd.tw5278057926702712004 : Unit := ()
def hd.tw17047115858639842297 : Unit := ()
def hd.tw15103106377680225435 : Unit := ()
def hd.tw3451239065008710300 : Unit := ()
def hd.tw11162318198679636149 : Unit := ()
def hd.tw13091844219050505765 : Unit := ()
def hd.tw3533797376186287129 : Unit := ()
def hd.tw16240987189780228909 : Unit := ()
def hd.tw7028611270464810887 : Unit := ()
def hd.tw1865391376527767206 : Unit := ()
def hd.tw13409441903868389331 : Unit := ()
def hd.tw4086058157674990017 : Unit := ()
def hd.tw16157073509204512506 : Unit := ()
def hd.tw15673258824015622330 : Unit := ()
def hd.tw7082855905992002993 : Unit := ()
def hd.tw5657824000916062451 : Unit := ()
def hd.tw8025032847418708242 : Unit := ()
def hd.tw6767318904944593275 : Unit := ()
def hd.tw15946388913382835224 : Unit := ()
def hd.tw4425926697756232486 : Unit := ()
def hd.tw12050417470231563642 : Unit := ()
def hd.tw1506431575118746342 : Unit := ()
def hd.tw15220180469806662145 : Unit := ()
def hd.tw1997569388931296116 : Unit := ()
def hd.tw8727321023445011275 : Unit := ()
def hd.tw7085514621470718492 : Unit := ()
def hd.tw464777395874653626 : Unit := ()
def hd.tw4993660671451451078 : Unit := ()
def hd.tw17843490464661113860 : Unit := ()
def hd.tw8516288146210602744 : Unit := ()
def hd.tw8343274005884668182 : Unit := ()
def hd.tw12113243949977362033 : Unit := ()
def hd.tw1610171440888473627 : Unit := ()
def hd.tw10024716035694756283 : Unit := ()
def hd.tw10601615944963115059 : Unit := ()
def hd.tw16904818350239718627 : Unit := ()
def hd.tw8184699220007379433 : Unit := ()
def hd.tw22551697357593593 : Unit := ()
def hd.tw5148922909946612681 : Unit := ()
def hd.tw7023726343779634624 : Unit := ()
def hd.tw17950676927832955104 : Unit := ()
def hd.tw6819123309680001836 : Unit := ()
def hd.tw16011055738799735888 : Unit := ()
def hd.tw17574625026820762457 : Unit := ()
def hd.tw8004679753235328684 : Unit := ()
def hd.tw3452082135128663414 : Unit := ()
def hd.tw7289634563603522867 : Unit := ()
def hd.tw13368278939475635651 : Unit := ()
def hd.tw16945582573551092051 : Unit := ()
def hd.tw3182187488490625086 : Unit := ()
def hd.tw12271959270614036898 : Unit := ()
def hd.tw14553816603554493358 : Unit := ()
def hd.tw6990203504111849199 : Unit := ()
def hd.tw18300207936620678264 : Unit := ()
def hd.tw9427301549700849589 : Unit := ()
def hd.tw4172343393113369950 : Unit := ()
def hd.tw2114630138375439770 : Unit := ()
def hd.tw12629568148972539762 : Unit := ()
def hd.tw7068711184596962023 : Unit := ()
def hd.tw2603259988358896889 : Unit := ()
def hd.tw8770205317985620760 : Unit := ()
def hd.tw8112040973832200146 : Unit := ()
def hd.tw13330244855972007585 : Unit := ()
def hd.tw9170477692918782315 : Unit := ()
def hd.tw8381844023166312768 : Unit := ()
def hd.tw6438293893037913957 : Unit := ()
def hd.tw16302227732802510677 : Unit := ()
def hd.tw11054480109507316185 : Unit := ()
def hd.tw3759623122121258479 : Unit := ()
def hd.tw3429492842335990350 : Unit := ()
def hd.tw11232374478483605306 : Unit := ()
def hd.tw4706079058837389440 : Unit := ()
def hd.tw4218054939716304509 : Unit := ()
def hd.tw7891253978561527248 : Unit := ()
def hd.tw17919194246423945575 : Unit := ()
def hd.tw12631932088317031055 : Unit := ()
def hd.tw12766741340676731132 : Unit := ()
def hd.tw2167537188350426706 : Unit := ()
def hd.tw4478964076566166474 : Unit := ()
def hd.tw16920754564084929960 : Unit := ()
def hd.tw11319892378374348655 : Unit := ()
def hd.tw12399718760709695909 : Unit := ()
def hd.tw5635641802508607975 : Unit := ()
def hd.tw1836080755315867724 : Unit := ()
def hd.tw1129884963351977449 : Unit := ()
def hd.tw26425463804135960 : Unit := ()
def hd.tw5343241284826551009 : Unit := ()
def hd.tw8883835196101046400 : Unit := ()
def hd.tw5036846961687405229 : Unit := ()
def hd.tw6598312636042714100 : Unit := ()
def hd.tw11754176132448286083 : Unit := ()
def hd.tw6998783941825042932 : Unit := ()
def hd.tw10603584201595350602 : Unit := ()
def hd.tw13866372431405929976 : Unit := ()
def hd.tw5961118342813265553 : Unit := ()
def hd.tw2386827423013361158 : Unit := ()
def hd.tw9719896912496429819 : Unit := ()
def hd.tw18185175575083235020 : Unit := ()
def hd.tw16970440968685349367 : Unit := ()
def hd.tw14478148883734587675 : Unit := ()
def hd.tw17948085552500728524 : Unit := ()
def hd.tw12602439190401603521 : Unit := ()
def hd.tw10752148897807903841 : Unit := ()
def hd.tw11660266114150955751 : Unit := ()
def hd.tw13289513938125300765 : Unit := ()
def hd.tw18166333605607142505 : Unit := ()
def hd.tw12173100003817136821 : Unit := ()
def hd.tw15368132723985388332 : Unit := ()
def hd.tw8960069828448710407 : Unit := ()
def hd.tw11136197038861592535 : Unit := ()
def hd.tw6578402527460240241 : Unit := ()
def hd.tw13181700845877081190 : Unit := ()
def hd.tw17330945745186091897 : Unit := ()
def hd.tw17001982702790524580 : Unit := ()
def hd.tw10111801491309104144 : Unit := ()
def hd.tw6547078798241139092 : Unit := ()
def hd.tw8428860471423672150 : Unit := ()
def hd.tw13770079208771991547 : Unit := ()
def hd.tw15642763164714097627 : Unit := ()
def hd.tw3229955645248102723 : Unit := ()
def hd.tw922143313871775805 : Unit := ()
def hd.tw15529170255622000948 : Unit := ()
def hd.tw4971549296188076032 : Unit := ()
def hd.tw14980023328507725902 : Unit := ()
def hd.tw6868836192036940282 : Unit := ()
def hd.tw13893168526513508166 : Unit := ()
def hd.tw17714235663813219645 : Unit := ()
def hd.tw15837987909243819085 : Unit := ()
set_option Elab.async true in
set_option maxRecDepth 100000 in
set_option maxHeartbeats 8000000 in
theorem hd : PySem.Challenge.rw_uf040024_07.Holds := by
  w_on
  o_law
  k_head
  case hw => w_witness2
  k_fill
  intro w s₀ s₁ mg mb G Y fa o pm cd doc dV kV ho hd hcd hD hmg hg args vals as hpre hlay hrd hwl hlo
  have KX0 := kIn_of Y
  have T := G.T
  clear hd hcd hD
  have KX : (Mine.KK w.params).In s₁.heap := by
    refine Eq.mp (congrArg (fun K : Frag => K.In s₁.heap) (?_ : _ = Mine.KK w.params)) KX0
    kernel_rfl
  have ea : fa = 393 := by have e := hmg.symm.trans (mg_of KX T.g (v := .ref 393) rfl); injection e with e; injection e
  subst ea
  wrow_args hpre hlay hrd hwl hlo
  rename_i ns _ _ _ _ _ _ _ sc vs _ hL _ _ _ hI _ hc _
  refine wpAny_mono (Mine.glue (Mine.law07 (c := ⟨_, w, s₁.heap, mg, mb, s₁.os⟩) (P := w.params) ⟨⟨T.g, T.b, T.nolimit⟩, KX, T.builtins, ⟨vs, hL, hI⟩, by omega⟩ ⟨fun x C bm id h q => own_of_in KX (topRead_of T) h q⟩) hg) (fun v s' z => ?_) fun _ _ z => z.elim
  obtain ⟨rfl, old, os, bare⟩ := z
  refine ⟨.inl ⟨_, .bool true, [], rfl, ?_, ?_, ?_, ?_⟩, old, os, bare⟩
  · exact raisesW_false (by wrow_none_raised)
  · exact .bool true
  · wrow_post
  · exact fun _ => ⟨List.nodup_nil, fun a h => nomatch h⟩
end Mine
open PySem PySem.W PyProof.Rows
theorem PySem.Challenge.cw_uf040024_07_holds : PySem.Challenge.rw_uf040024_07.Holds :=
  Mine.hd
