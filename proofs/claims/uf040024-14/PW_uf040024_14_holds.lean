import PyProof.Rows.All
import PyProof.Cells
import PyProof.DictStraight
import PyProof.RaisesMany
import PyProof.Seq
import PyProof.ForAppend
import PyProof.Ns1
import PyProof.Calls
import PyProof.CallRoads
import PyProof.StrBlock
import PyProof.Rules3
import PyProof.Rows.Globals
import PyProof.Rows.IntRules
import PyProof.Rows.RuleU_int
import PyProof.RulesTry
import PyProof.Walks
import PyProof.WalksMore
import PyProof.DictWalks
import PyProof.CompFree
import PyProof.RangeFor
import PyProof.CompUse
import PyProof.Rows.Exc
import PyProof.Rows.TupIn
import Wide.All
import OpenK.KLine
import KE.KDictOf
import KE.KDictList
import KE.KEqDict
import KE.KTryMore
import PyProof.ExcBaseAll.ValueError
import KE.KRevIter
import PyProof.SliceList
import PyProof.ListCopy
import PyProof.AutoSeq1
import PyProof.Rows.EqNone
import PyProof.SliceMore
import PyProof.ZipIter
import PyProof.ForAny
import PyProof.TupleIter
import PyProof.MeetsDictList
import PyProof.Rows.SeqMore
import PyProof.CallStr
import PyProof.Conv_int_bool
import PyProof.IsiNone
import PyProof.ListIndex
import PyProof.Rows.StrRev
import PyProof.ExcClass2
import PySem.Challenge.RW_uf040024_14
namespace Mine
theorem om0 {n0 : Nat} {n1 : Nat} {n2 : Nat} (h0 : (((n0 + ((3 : Nat) * (n1 + (1 : Nat)))) + (10 : Nat)) < n2)) : ((((n0 + (1 : Nat)) + ((3 : Nat) * n1)) + (10 : Nat)) < n2) := by first | decide | (intros; simp_all; done) | lia
theorem om1 {n0 : Nat} {n1 : Nat} {n2 : Nat} (h0 : (((n0 + ((12 : Nat) * (n1 + (1 : Nat)))) + (200 : Nat)) < n2)) : ((((n0 + (3 : Nat)) + ((12 : Nat) * n1)) + (200 : Nat)) < n2) := by first | decide | (intros; simp_all; done) | lia
theorem om2 {n0 : Nat} {n1 : Nat} {n2 : Nat} {n3 : Nat} (h0 : (n0 ≤ n1)) (h1 : (((n2 + ((3 : Nat) * n1)) + (10 : Nat)) < n3)) : (((n2 + ((3 : Nat) * n0)) + (10 : Nat)) < n3) := by first | decide | (intros; simp_all; done) | lia
theorem om3 {n0 : Nat} {n1 : Nat} {n2 : Nat} {n3 : Nat} (h0 : (n0 ≤ n1)) (h1 : (((n2 + ((12 : Nat) * n1)) + (200 : Nat)) < n3)) : (((n2 + ((12 : Nat) * n0)) + (200 : Nat)) < n3) := by first | decide | (intros; simp_all; done) | lia
theorem om4 {n0 : Nat} {n1 : Nat} {n2 : Nat} (h0 : (((n0 + ((3 : Nat) * (n1 + (1 : Nat)))) + (10 : Nat)) < n2)) : (n0 < n2) := by first | decide | (intros; simp_all; done) | lia
theorem om5 {n0 : Nat} {n1 : Nat} {n2 : Nat} (h0 : ((n0 + n1) = (n2 + (1 : Nat)))) (h1 : (n1 < n2)) : ((n0 - (1 : Nat)) < n0) := by first | decide | (intros; simp_all; done) | lia
theorem om6 {n0 : Nat} {n1 : Nat} {n2 : Nat} (h0 : ((n0 + n1) = (n2 + (1 : Nat)))) (h1 : (n1 < n2)) : (((n0 - (1 : Nat)) + (n1 + (1 : Nat))) = (n2 + (1 : Nat))) := by first | decide | (intros; simp_all; done) | lia
theorem om7 {n0 : Nat} {n1 : Nat} (h0 : (n0 ≤ n1)) (h1 : (¬ (n0 < n1))) : (n0 = n1) := by first | decide | (intros; simp_all; done) | lia
theorem om8 {n0 : Nat} {n1 : Nat} (h0 : (n0 = (n1 + (1 : Nat)))) : (¬ (n1 = n0)) := by first | decide | (intros; simp_all; done) | lia
theorem om9 {n0 : Nat} {n1 : Nat} (h0 : (n0 = (n1 + (1 : Nat)))) : (n1 ≤ n0) := by first | decide | (intros; simp_all; done) | lia
theorem om10 {n0 : Nat} {n1 : Nat} {n2 : Nat} {n3 : Nat} (h0 : (n0 ≤ n1)) (h1 : (n2 ≤ n3)) (h2 : (n3 < n0)) : (n2 ≤ n1) := by first | decide | (intros; simp_all; done) | lia
theorem om11 {n0 : Nat} {n1 : Nat} (h0 : (n0 ≤ n1)) : (n0 ≤ n1) := h0
theorem om12 {n0 : Nat} {n1 : Nat} (h0 : (n0 ≤ n1)) : (n0 ≤ (n1 + (1 : Nat))) := Nat.le_succ_of_le h0
theorem om13 {z0 : Int} (h0 : ((0 : Int) < z0)) : (¬ (z0 = (0 : Int))) := by first | decide | (intros; simp_all; done) | lia
theorem om14 {z0 : Int} (h0 : ((0 : Int) < z0)) : ((0 : Int) ≤ z0) := Int.le_of_lt h0
theorem om15 {z0 : Int} (h0 : ((0 : Int) ≤ z0)) : (¬ (z0 < (0 : Int))) := Int.not_lt.mpr h0
theorem om16 {z0 : Int} {n1 : Nat} (h0 : (z0 < (0 : Int))) : ((z0 + ((n1 : Nat) : Int)) < ((n1 : Nat) : Int)) := by first | decide | (intros; simp_all; done) | lia
theorem om17 {z0 : Int} (h0 : (((-(9223372036854775808 : Int)) ≤ z0) ∧ (z0 < (9223372036854775808 : Int)))) : (((-(9223372036854775808 : Int)) ≤ z0) ∧ (z0 < (9223372036854775808 : Int))) := h0
theorem om18 {n0 : Nat} {n1 : Nat} {n2 : Nat} (h0 : ((n0 + (n1 + (1 : Nat))) ≤ n2)) : (((n0 + (1 : Nat)) + n1) ≤ n2) := by first | decide | (intros; simp_all; done) | lia
theorem om19 {n0 : Nat} {n1 : Nat} {n2 : Nat} (h0 : ((n0 + (n1 + (1 : Nat))) ≤ n2)) : (n0 < (min (n0 + (n1 + (1 : Nat))) n2)) := by first | decide | (intros; simp_all; done) | lia
theorem om20 {n0 : Nat} {n1 : Nat} {n2 : Nat} (h0 : ((n0 + (n1 + (1 : Nat))) ≤ n2)) : (n0 < n2) := by first | decide | (intros; simp_all; done) | lia
theorem om21 {n0 : Nat} {n1 : Nat} : ((n0 + (n1 + (1 : Nat))) = ((n0 + (1 : Nat)) + n1)) := by first | decide | (intros; simp_all; done) | lia
theorem om22 {z0 : Int} {n1 : Nat} : ((max (0 : Int) (min z0 ((n1 : Nat) : Int))) = (((min (Int.toNat z0) n1) : Nat) : Int)) := by first | decide | (intros; simp_all; done) | lia
theorem om23 {n0 : Nat} {n1 : Nat} : ((Int.toNat (((n0 : Nat) : Int) + ((1 : Int) * ((n1 : Nat) : Int)))) = (n0 + n1)) := by first | decide | (intros; simp_all; done) | lia
theorem om24 {n0 : Nat} {n1 : Nat} (h0 : (¬ (n0 ≤ n1))) : (n1 ≤ n0) := by first | decide | (intros; simp_all; done) | lia
theorem om25 {n0 : Nat} {n1 : Nat} {n2 : Nat} (h0 : (¬ (n0 ≤ n1))) : ((min n2 n1) ≤ n0) := by first | decide | (intros; simp_all; done) | lia
theorem om26 {n0 : Nat} {n1 : Nat} : ((min n0 n1) ≤ n1) := Nat.min_le_right _ _
theorem om27 {n0 : Nat} : (n0 ≤ n0) := Nat.le_refl _
theorem om28 {n0 : Nat} {n1 : Nat} {n2 : Nat} : (((min n0 n1) + ((min n2 n1) - (min n0 n1))) ≤ n1) := by omega
theorem om29 {n0 : Nat} {n1 : Nat} {n2 : Nat} (h0 : ((min n0 n1) ≤ (min n2 n1))) : (((min n0 n1) + ((min n2 n1) - (min n0 n1))) = (min n2 n1)) := by first | decide | (intros; simp_all; done) | lia
theorem om30 {n0 : Nat} {n1 : Nat} {n2 : Nat} (h0 : (((min n0 n1) - (min n2 n1)) = n1)) : ((min n2 n1) = (0 : Nat)) := by omega
theorem om31 {n0 : Nat} {n1 : Nat} {n2 : Nat} (h0 : (((min n0 n1) - (min n2 n1)) = n1)) : ((min n0 n1) = n1) := by omega
theorem om32 {n0 : Nat} {n1 : Nat} {n2 : Nat} (h0 : (¬ ((min n0 n1) ≤ (min n2 n1)))) : (((min n2 n1) - (min n0 n1)) = (0 : Nat)) := by first | decide | (intros; simp_all; done) | lia
theorem om33 {n0 : Nat} {n1 : Nat} {n2 : Nat} (h0 : (¬ ((min n0 n1) ≤ (min n2 n1)))) : ((min n2 n1) ≤ (min n0 n1)) := by first | decide | (intros; simp_all; done) | lia
theorem om34 {n0 : Nat} : ((n0 + (1 : Nat)) ≤ (n0 + (4 : Nat))) := by first | decide | (intros; simp_all; done) | lia
theorem om35 {z0 : Int} {n1 : Nat} (h0 : ((0 : Int) ≤ z0)) (h1 : (z0 < ((n1 : Nat) : Int))) : ((Int.toNat z0) < n1) := by first | decide | (intros; simp_all; done) | lia
theorem om36 : ((0 : Nat) ≤ (64 : Nat)) := by decide
theorem om37 {n0 : Nat} (h0 : (n0 < (60 : Nat))) : ((n0 + (1 : Nat)) ≤ (64 : Nat)) := Nat.le_trans h0 (by decide)
theorem om38 {z0 : Int} {z1 : Int} (h0 : (z0 < z1)) : (z0 ≤ z1) := Int.le_of_lt h0
theorem om39 {z0 : Int} {z1 : Int} (h0 : (¬ (z0 < z1))) : (z1 ≤ z0) := Int.not_lt.mp h0
theorem om40 {n0 : Nat} {n1 : Nat} {z2 : Int} (h0 : (n0 = n1)) (h1 : (((0 : Int) ≤ (z2 + ((n1 : Nat) : Int))) ∧ ((z2 + ((n1 : Nat) : Int)) < ((n1 : Nat) : Int)))) : ((-((n0 : Nat) : Int)) ≤ z2) := by first | decide | (intros; simp_all; done) | lia
theorem om41 {z0 : Int} (h0 : (¬ (z0 < (0 : Int)))) : ((0 : Int) ≤ z0) := Int.not_lt.mp h0
theorem om42 {n0 : Nat} {n1 : Nat} {n2 : Nat} (h0 : (n0 ≤ n1)) (h1 : (n2 = n0)) : (n2 ≤ n1) := by first | decide | (intros; simp_all; done) | lia
theorem om43 {n0 : Nat} {n1 : Nat} {n2 : Nat} (h0 : ((n0 + ((4 : Nat) * (n1 + (1 : Nat)))) < n2)) : (n0 < n2) := by first | decide | (intros; simp_all; done) | lia
theorem om44 {n0 : Nat} {n1 : Nat} {n2 : Nat} {n3 : Nat} (h0 : ((n0 + ((4 : Nat) * (n1 + (1 : Nat)))) < n2)) (h1 : (n3 ≤ (n0 + (4 : Nat)))) : ((n3 + ((4 : Nat) * n1)) < n2) := by first | decide | (intros; simp_all; done) | lia
theorem om45 {n0 : Nat} {n1 : Nat} (h0 : ((n0 + (4 : Nat)) < n1)) : (n0 < n1) := by first | decide | (intros; simp_all; done) | lia
theorem om46 {n0 : Nat} {n1 : Nat} (h0 : (¬ (n0 < n1))) : (n1 ≤ n0) := Nat.not_lt.mp h0
theorem om47 {n0 : Nat} {n1 : Nat} {n2 : Nat} (h0 : (n0 = n1)) (h1 : (¬ (n2 < n0))) : (n1 ≤ n2) := by first | decide | (intros; simp_all; done) | lia
theorem om48 {n0 : Nat} {n1 : Nat} (h0 : ((n0 + (4 : Nat)) < n1)) : ((n0 + ((4 : Nat) * ((0 : Nat) + (1 : Nat)))) < n1) := h0
theorem om49 {n0 : Nat} {n1 : Nat} {n2 : Nat} (h0 : (n0 = (0 : Nat))) : ((min n0 n1) ≤ n2) := by first | decide | (intros; simp_all; done) | lia
theorem om50 {n0 : Nat} {n1 : Nat} {n2 : Nat} (h0 : ((min n0 n1) ≤ n2)) : ((min (n0 + (1 : Nat)) (n1 + (1 : Nat))) ≤ (n2 + (1 : Nat))) := by first | decide | (intros; simp_all; done) | lia
theorem om51 {n0 : Nat} {n1 : Nat} (h0 : ((n0 + (1 : Nat)) ≤ n1)) (h1 : (n1 = (0 : Nat))) : False := by first | decide | (intros; simp_all; done) | lia
theorem om52 {n0 : Nat} {n1 : Nat} (h0 : ((n0 + (1 : Nat)) ≤ (n1 + (1 : Nat)))) : (n0 ≤ n1) := by first | decide | (intros; simp_all; done) | lia
theorem om53 {n0 : Nat} (h0 : ((n0 + (1 : Nat)) ≤ (0 : Nat))) : False := by first | decide | (intros; simp_all; done) | lia
theorem om54 {n0 : Nat} {n1 : Nat} (h0 : (n0 ≤ n1)) : ((n0 + (1 : Nat)) ≤ (n1 + (1 : Nat))) := by first | decide | (intros; simp_all; done) | lia
theorem om55 {n0 : Nat} {n1 : Nat} {n2 : Nat} (h0 : (n0 = (n1 + (1 : Nat)))) (h1 : (n0 ≤ n2)) : ((n1 + (1 : Nat)) ≤ n2) := by first | decide | (intros; simp_all; done) | lia
theorem om56 {n0 : Nat} {n1 : Nat} (h0 : ((n0 + (1 : Nat)) ≤ n1)) : (n0 ≤ n1) := Nat.le_of_lt h0
theorem om57 {n0 : Nat} : (n0 ≤ (n0 + (1 : Nat))) := by first | decide | (intros; simp_all; done) | lia
theorem om58 {n0 : Nat} {n1 : Nat} (h0 : (n0 ≤ n1)) (h1 : (n1 ≤ n0)) : (n1 = n0) := by first | decide | (intros; simp_all; done) | lia
theorem om59 {n0 : Nat} : (n0 < (n0 + (1 : Nat))) := Nat.le_refl _
theorem om60 {n0 : Nat} {n1 : Nat} (h0 : (n0 ≤ (n1 + (1 : Nat)))) (h1 : (¬ (n0 = (n1 + (1 : Nat))))) : (¬ ((n1 + (1 : Nat)) ≤ n0)) := by first | decide | (intros; simp_all; done) | lia
theorem om61 {n0 : Nat} {n1 : Nat} (h0 : (n0 ≤ (n1 + (1 : Nat)))) (h1 : (¬ (n0 = (n1 + (1 : Nat))))) : (n0 ≤ n1) := by first | decide | (intros; simp_all; done) | lia
theorem om62 {n0 : Nat} {n1 : Nat} {n2 : Nat} : (((n0 + n1) - ((2 : Nat) * n2)) = ((n1 + n0) - ((2 : Nat) * n2))) := by first | decide | (intros; simp_all; done) | lia
theorem om63 {n0 : Nat} : (((n0 + n0) - ((2 : Nat) * n0)) = (0 : Nat)) := by first | decide | (intros; simp_all; done) | lia
theorem om64 {n0 : Nat} {n1 : Nat} {n2 : Nat} {n3 : Nat} (h0 : (n0 ≤ n1)) (h1 : (n2 ≤ n3)) : (((n1 - n0) + (n3 - n2)) = ((n1 + n3) - (n0 + n2))) := by first | decide | (intros; simp_all; done) | lia
theorem om65 {n0 : Nat} {n1 : Nat} {n2 : Nat} (h0 : (n0 ≤ n1)) (h1 : (n0 ≤ n2)) : (((2 : Nat) * n0) ≤ (n1 + n2)) := by first | decide | (intros; simp_all; done) | lia
theorem om66 {n0 : Nat} {n1 : Nat} {n2 : Nat} {n3 : Nat} (h0 : ((n0 + n1) ≤ (n2 + n3))) : ((((2 : Nat) * n0) + ((2 : Nat) * n1)) ≤ (((2 : Nat) * n2) + ((2 : Nat) * n3))) := by first | decide | (intros; simp_all; done) | lia
theorem om67 {n0 : Nat} {n1 : Nat} {n2 : Nat} {n3 : Nat} : (((n0 + n1) + (n2 + n3)) = ((n0 + n3) + (n1 + n2))) := by first | decide | (intros; simp_all; done) | lia
theorem om68 {n0 : Nat} {n1 : Nat} {n2 : Nat} (h0 : ((1 : Nat) ≤ n0)) (h1 : ((1 : Nat) ≤ n1)) (h2 : ((min n0 n1) ≤ n2)) : ((1 : Nat) ≤ n2) := by first | decide | (intros; simp_all; done) | lia
theorem om69 {n0 : Nat} {n1 : Nat} {n2 : Nat} {n3 : Nat} {n4 : Nat} (h0 : (n0 ≤ n1)) (h1 : (n2 = (n3 + (1 : Nat)))) (h2 : (n0 = (n3 + (1 : Nat)))) (h3 : (n4 = n3)) : (((((n1 + n2) - ((2 : Nat) * n0)) + (1 : Nat)) = ((n1 + n3) - ((2 : Nat) * n4))) ∧ (n0 = n2)) := by first | decide | (intros; simp_all; done) | lia
theorem om70 {n0 : Nat} {n1 : Nat} {n2 : Nat} {n3 : Nat} {n4 : Nat} (h0 : (n0 ≤ n1)) (h1 : (n0 ≤ n2)) (h2 : (n3 = (n2 + (1 : Nat)))) (h3 : (n4 = n0)) : ((((n1 + n3) - ((2 : Nat) * n4)) = (((n1 + n2) - ((2 : Nat) * n0)) + (1 : Nat))) ∧ (n4 = n0)) := by first | decide | (intros; simp_all; done) | lia
theorem om71 {n0 : Nat} (h0 : (n0 = (0 : Nat))) (h1 : ((1 : Nat) ≤ n0)) : False := by first | decide | (intros; simp_all; done) | lia
theorem om72 {n0 : Nat} {n1 : Nat} (h0 : (n0 < n1)) : ((n0 + (1 : Nat)) ≤ n1) := h0
theorem om73 {n0 : Nat} {n1 : Nat} (h0 : (¬ (n0 < n1))) (h1 : (n0 < (n1 + (1 : Nat)))) : (n0 = n1) := by first | decide | (intros; simp_all; done) | lia
theorem om74 {n0 : Nat} {n1 : Nat} (h0 : (n0 = (n1 + (1 : Nat)))) (h1 : ((1 : Nat) ≤ n1)) (h2 : (n0 = (1 : Nat))) : False := by first | decide | (intros; simp_all; done) | lia
theorem om75 {n0 : Nat} {n1 : Nat} {n2 : Nat} (h0 : (n0 < n1)) (h1 : (n2 = (n0 + (1 : Nat)))) : (n2 ≤ n1) := by first | decide | (intros; simp_all; done) | lia
theorem om76 {n0 : Nat} {n1 : Nat} {n2 : Nat} {n3 : Nat} {n4 : Nat} {n5 : Nat} (h0 : (n0 = n1)) (h1 : (n2 = (n1 + (1 : Nat)))) (h2 : (n3 = n0)) (h3 : (n2 ≤ n3)) : ((n4 + (1 : Nat)) = n5) := by first | decide | (intros; simp_all; done) | lia
theorem om77 {n0 : Nat} (h0 : ((1 : Nat) ≤ n0)) (h1 : (n0 ≤ (1 : Nat))) (h2 : (¬ (n0 = (1 : Nat)))) : False := by first | decide | (intros; simp_all; done) | lia
theorem om78 {n0 : Nat} {n1 : Nat} (h0 : (n0 = (n1 + (1 : Nat)))) : ((n1 + (1 : Nat)) = n0) := h0.symm
theorem om79 {n0 : Nat} {n1 : Nat} (h0 : (n0 < (64 : Nat))) (h1 : (n1 = n0)) : (n1 < (64 : Nat)) := by first | decide | (intros; simp_all; done) | lia
theorem om80 {n0 : Nat} {n1 : Nat} (h0 : ((0 : Nat) < n0)) (h1 : (n1 = n0)) : ((0 : Nat) < n1) := by first | decide | (intros; simp_all; done) | lia
theorem om81 {n0 : Nat} {n1 : Nat} {n2 : Nat} (h0 : ((0 : Nat) < n0)) (h1 : (n1 = n0)) (h2 : (n2 ≤ (n1 - (1 : Nat)))) : (n2 < n0) := by omega
theorem om82 {n0 : Nat} {n1 : Nat} {n2 : Nat} (h0 : (n0 = n1)) (h1 : (n2 < n1)) : (n2 ≤ (n0 - (1 : Nat))) := by omega
theorem om83 {n0 : Nat} {n1 : Nat} {n2 : Nat} {n3 : Nat} {n4 : Nat} {n5 : Nat} {n6 : Nat} (h0 : ((n0 + n1) ≤ (max (n2 + n3) (n4 + n5)))) (h1 : (n2 ≤ n1)) (h2 : (n5 ≤ n1)) (h3 : (n4 ≤ n6)) (h4 : (n3 ≤ n6)) : (n0 ≤ n6) := by first | decide | (intros; simp_all; done) | lia
theorem om84 {n0 : Nat} {n1 : Nat} {n2 : Nat} {n3 : Nat} {n4 : Nat} {n5 : Nat} (h0 : ((n0 + n1) ≤ (max (n2 + n3) (n4 + n5)))) (h1 : (n3 ≤ n1)) (h2 : (n5 ≤ n1)) : (n0 ≤ (max n2 n4)) := by first | decide | (intros; simp_all; done) | lia
theorem om85 {n0 : Nat} {n1 : Nat} (h0 : (n0 ≤ (0 : Nat))) (h1 : (n1 < n0)) : False := by first | decide | (intros; simp_all; done) | lia
theorem om86 {n0 : Nat} {n1 : Nat} {n2 : Nat} (h0 : (n0 ≤ (n1 + (1 : Nat)))) (h1 : (n2 < n0)) : (n2 ≤ n1) := by first | decide | (intros; simp_all; done) | lia
theorem om87 {n0 : Nat} {n1 : Nat} {n2 : Nat} (h0 : (n0 < n1)) (h1 : (n2 ≤ (n0 + (1 : Nat)))) : (n2 ≤ n1) := Nat.le_trans h1 h0
theorem om88 {n0 : Nat} {n1 : Nat} (h0 : (n0 ≤ (n1 + (1 : Nat)))) (h1 : (n1 ≤ (40 : Nat))) : (n0 ≤ (41 : Nat)) := by first | decide | (intros; simp_all; done) | lia
theorem om89 {n0 : Nat} {n1 : Nat} (h0 : (n0 ≤ (n1 - (1 : Nat)))) (h1 : ((0 : Nat) < n1)) : ((n0 + (1 : Nat)) ≤ n1) := by first | decide | (intros; simp_all; done) | lia
theorem om90 {n0 : Nat} {n1 : Nat} {n2 : Nat} (h0 : (n0 = n1)) (h1 : ((n0 + (1 : Nat)) = n2)) : (n2 = (n1 + (1 : Nat))) := by first | decide | (intros; simp_all; done) | lia
theorem om91 {n0 : Nat} (h0 : ((0 : Nat) = (n0 + (1 : Nat)))) : False := by first | decide | (intros; simp_all; done) | lia
theorem om92 {n0 : Nat} {n1 : Nat} {n2 : Nat} (h0 : (n0 = (n1 + (1 : Nat)))) (h1 : ((n2 + (1 : Nat)) = n0)) : (n2 = n1) := by first | decide | (intros; simp_all; done) | lia
theorem om93 {n0 : Nat} {n1 : Nat} (h0 : (n0 = (n1 + (1 : Nat)))) (h1 : (n0 ≤ n1)) : False := by first | decide | (intros; simp_all; done) | lia
theorem om94 {n0 : Nat} {n1 : Nat} (h0 : (n0 = (n1 + (1 : Nat)))) : (n0 ≤ (n1 + (1 : Nat))) := by first | decide | (intros; simp_all; done) | lia
theorem om95 {n0 : Nat} {n1 : Nat} (h0 : ((0 : Nat) = (n0 + (n1 + (1 : Nat))))) : False := by first | decide | (intros; simp_all; done) | lia
theorem om96 {n0 : Nat} {n1 : Nat} {n2 : Nat} {n3 : Nat} (h0 : (n0 = (n1 + (n2 + (1 : Nat))))) (h1 : ((n3 + (1 : Nat)) = n0)) : (n3 = (n1 + n2)) := by first | decide | (intros; simp_all; done) | lia
theorem om97 {n0 : Nat} {n1 : Nat} (h0 : (¬ (n0 ≤ n1))) : (n0 = (n1 + (n0 - n1))) := by first | decide | (intros; simp_all; done) | lia
theorem om98 {n0 : Nat} {n1 : Nat} {n2 : Nat} (h0 : (n0 ≤ (41 : Nat))) (h1 : (n1 ≤ (41 : Nat))) : (((n0 + n1) - ((2 : Nat) * n2)) ≤ (82 : Nat)) := by omega
theorem om99 {n0 : Nat} {n1 : Nat} {n2 : Nat} {n3 : Nat} (h0 : (n0 < n1)) (h1 : (n2 < n3)) (h2 : ((min (n0 + (1 : Nat)) n1) = (min (n2 + (1 : Nat)) n3))) : (n0 = n2) := by first | decide | (intros; simp_all; done) | lia
theorem om100 {n0 : Nat} {n1 : Nat} (h0 : (n0 < n1)) : (((n1 - (1 : Nat)) - n0) < n1) := by omega
theorem om101 {n0 : Nat} {n1 : Nat} (h0 : (n0 < n1)) : (((n1 - (1 : Nat)) - ((n1 - (1 : Nat)) - n0)) = n0) := by omega
theorem om102 {n0 : Nat} {n1 : Nat} (h0 : ((1 : Nat) ≤ n0)) (h1 : (n0 ≤ n1)) : ((n0 - (1 : Nat)) < n1) := by omega
theorem om103 {n0 : Nat} (h0 : ((1 : Nat) ≤ n0)) : ((n0 - (1 : Nat)) < n0) := by omega
theorem om104 {n0 : Nat} {n1 : Nat} {n2 : Nat} (h0 : ((1 : Nat) ≤ n0)) (h1 : (n1 = n2)) (h2 : (n0 ≤ n1)) : ((n2 - n0) < n2) := by omega
theorem om105 {n0 : Nat} {n1 : Nat} {n2 : Nat} (h0 : ((1 : Nat) ≤ n0)) (h1 : (n1 = n2)) (h2 : (n0 ≤ n1)) : ((n0 - (1 : Nat)) < n2) := by omega
theorem om106 {n0 : Nat} {n1 : Nat} (h0 : ((1 : Nat) ≤ n0)) : ((n1 - n0) = ((n1 - (1 : Nat)) - (n0 - (1 : Nat)))) := by first | decide | (intros; simp_all; done) | lia
theorem om107 {n0 : Nat} {n1 : Nat} {n2 : Nat} {n3 : Nat} {n4 : Nat} (h0 : (n0 = n1)) (h1 : (n2 = n3)) (h2 : (n4 ≤ n0)) (h3 : (n4 ≤ n2)) : (((n1 - n4) + (n3 - n4)) = ((n0 + n2) - ((2 : Nat) * n4))) := by first | decide | (intros; simp_all; done) | lia
theorem om108 {n0 : Nat} {n1 : Nat} {n2 : Nat} (h0 : (n0 < (n1 - n2))) (h1 : (((n1 - (1 : Nat)) - n0) < n2)) : False := by omega
theorem om109 {n0 : Nat} {n1 : Nat} {n2 : Nat} (h0 : ((1 : Nat) ≤ n0)) (h1 : (n1 < (n2 - n0))) (h2 : ((n0 - (1 : Nat)) = ((n2 - (1 : Nat)) - n1))) : False := by omega
theorem om110 {z0 : Int} {z1 : Int} (h0 : (z0 = z1)) : (z0 ≤ z1) := by first | decide | (intros; simp_all; done) | lia
theorem om111 {z0 : Int} {z1 : Int} {z2 : Int} (h0 : (¬ (z0 ≤ z1))) (h1 : (z2 ≤ z1)) : (z2 ≤ z0) := by first | decide | (intros; simp_all; done) | lia
theorem om112 {n0 : Nat} {n1 : Nat} {n2 : Nat} (h0 : (n0 ≤ (1000 : Nat))) (h1 : (n1 ≤ (n0 + (1 : Nat)))) (h2 : ((1000000 : Nat) ≤ n2)) : (n1 ≤ (n2 + (1 : Nat))) := by first | decide | (intros; simp_all; done) | lia
theorem om113 {n0 : Nat} {n1 : Nat} {n2 : Nat} (h0 : (((n0 + ((12 : Nat) * (n1 + (1 : Nat)))) + (200 : Nat)) < n2)) : ((((n0 + (1 : Nat)) + ((12 : Nat) * n1)) + (200 : Nat)) < n2) := by first | decide | (intros; simp_all; done) | lia
theorem om114 {z0 : Int} {n1 : Nat} {n2 : Nat} (h0 : (((min (Int.toNat (z0 + ((n1 : Nat) : Int))) n2) - (Int.toNat z0)) = n1)) : (n1 ≤ n2) := by omega
theorem om115 {n0 : Nat} {n1 : Nat} {n2 : Nat} {n3 : Nat} (h0 : (n0 = ((n1 + n2) + n3))) : (n2 ≤ n0) := by first | decide | (intros; simp_all; done) | lia
theorem om116 {n0 : Nat} {n1 : Nat} {n2 : Nat} {n3 : Nat} (h0 : (n0 ≤ n1)) (h1 : ((n2 + ((4 : Nat) * n1)) < n3)) : ((n2 + ((4 : Nat) * n0)) < n3) := by first | decide | (intros; simp_all; done) | lia
theorem om117 {z0 : Int} {z1 : Int} (h0 : (z0 ≤ z1)) (h1 : (z1 ≤ z0)) : (z0 = z1) := by first | decide | (intros; simp_all; done) | lia
theorem om118 {z0 : Int} {z1 : Int} {z2 : Int} : ((z0 + (z1 + z2)) = (z1 + (z0 + z2))) := by first | decide | (intros; simp_all; done) | lia
theorem om119 {z0 : Int} {z1 : Int} {z2 : Int} : ((z0 + (z1 + z2)) = ((z0 + z1) + z2)) := by first | decide | (intros; simp_all; done) | lia
theorem om120 {n0 : Nat} {n1 : Nat} (h0 : (n0 ≤ n1)) : ((min n0 n1) = n0) := by first | decide | (intros; simp_all; done) | lia
theorem om121 {n0 : Nat} {n1 : Nat} {n2 : Nat} (h0 : (n0 ≤ n1)) (h1 : (n1 ≤ n2)) : (((n1 - n0) + (n2 - n1)) = (n2 - n0)) := by first | decide | (intros; simp_all; done) | lia
theorem om122 {n0 : Nat} {n1 : Nat} {n2 : Nat} {n3 : Nat} (h0 : (n0 ≤ n1)) (h1 : (¬ (n2 < ((min n1 n3) - n0)))) (h2 : (n2 < (n3 - n0))) : ((n1 + (n2 - ((min n1 n3) - n0))) = (n0 + n2)) := by first | decide | (intros; simp_all; done) | lia
theorem om123 {n0 : Nat} {n1 : Nat} {n2 : Nat} (h0 : ((n0 + n1) ≤ n2)) : (n0 ≤ (n2 - n1)) := by first | decide | (intros; simp_all; done) | lia
theorem om124 {n0 : Nat} {n1 : Nat} : ((n0 - n1) ≤ n0) := Nat.sub_le _ _
theorem om125 {n0 : Nat} {n1 : Nat} {n2 : Nat} : (((min (n0 - n1) n0) - n2) = ((n0 - n1) - n2)) := by first | decide | (intros; simp_all; done) | lia
theorem om126 {n0 : Nat} {n1 : Nat} {n2 : Nat} {n3 : Nat} (h0 : (n0 ≤ n1)) (h1 : ((n1 + n2) ≤ n3)) : ((Int.toNat (((n0 : Nat) : Int) + ((((n3 - n2) - n0) : Nat) : Int))) = (n3 - n2)) := by first | decide | (intros; simp_all; done) | lia
theorem om127 {n0 : Nat} : ((0 : Int) ≤ ((n0 : Nat) : Int)) := Int.natCast_nonneg _
theorem om128 {n0 : Nat} {n1 : Nat} {n2 : Nat} {n3 : Nat} (h0 : (n0 ≤ n1)) (h1 : ((n1 + n2) ≤ n3)) : (((n0 : Nat) : Int) ≤ ((n3 : Nat) : Int)) := by first | decide | (intros; simp_all; done) | lia
theorem om129 {n0 : Nat} {n1 : Nat} {n2 : Nat} {n3 : Nat} (h0 : (n0 ≤ n1)) (h1 : ((n1 + n2) ≤ n3)) : (n0 ≤ (n3 - n2)) := by first | decide | (intros; simp_all; done) | lia
theorem om130 {n0 : Nat} (h0 : ((n0 + (1 : Nat)) ≤ n0)) : False := Nat.lt_irrefl _ h0
theorem om131 {n0 : Nat} {n1 : Nat} {n2 : Nat} (h0 : (n0 ≤ (40 : Nat))) (h1 : (n1 ≤ n2)) (h2 : (n2 = n0)) : ((n1 - (1 : Nat)) ≤ (40 : Nat)) := by omega
theorem om132 : ((0 : Nat) ≤ (40 : Nat)) := by decide
theorem om133 {z0 : Int} {z1 : Int} (h0 : (z0 = (0 : Int))) (h1 : ((0 : Int) ≤ z1)) : (z0 ≤ z1) := by first | decide | (intros; simp_all; done) | lia
theorem om134 {z0 : Int} (h0 : ((0 : Int) ≤ z0)) : (z0 = (((Int.toNat z0) : Nat) : Int)) := by first | decide | (intros; simp_all; done) | lia
theorem om135 {n0 : Nat} {n1 : Nat} : ((Int.toNat (((n0 : Nat) : Int) + ((n1 : Nat) : Int))) = (n0 + n1)) := by first | decide | (intros; simp_all; done) | lia
theorem om136 {n0 : Nat} {n1 : Nat} (h0 : (((n0 : Nat) : Int) ≤ ((n1 : Nat) : Int))) : (n0 ≤ n1) := by first | decide | (intros; simp_all; done) | lia
theorem om137 {n0 : Nat} {n1 : Nat} (h0 : (((n0 : Nat) : Int) ≤ ((n1 : Nat) : Int))) : ((min n0 n1) = n0) := by first | decide | (intros; simp_all; done) | lia
theorem om138 {n0 : Nat} {n1 : Nat} {n2 : Nat} {n3 : Nat} (h0 : (((n0 : Nat) : Int) ≤ ((n1 : Nat) : Int))) : (((n0 : Nat) : Int) ≤ ((((min n0 n1) : Nat) : Int) + (((n2 : Nat) : Int) + (((n1 - (n0 + n3)) : Nat) : Int)))) := by first | decide | (intros; simp_all; done) | lia
theorem om139 {n0 : Nat} {n1 : Nat} (h0 : ((n0 + (1 : Nat)) < n1)) : (n0 < n1) := Nat.le_of_lt h0
theorem om140 {n0 : Nat} {n1 : Nat} {n2 : Nat} (h0 : (n0 = n1)) (h1 : (n2 = n0)) : (n2 = n1) := by first | decide | (intros; simp_all; done) | lia
theorem om141 {n0 : Nat} {n1 : Nat} {n2 : Nat} (h0 : (n0 = n1)) (h1 : (n2 < n1)) : (n2 < n0) := by first | decide | (intros; simp_all; done) | lia
theorem om142 {n0 : Nat} {n1 : Nat} (h0 : (n0 = n1)) : (n0 ≤ n1) := by first | decide | (intros; simp_all; done) | lia
theorem om143 {n0 : Nat} {n1 : Nat} {n2 : Nat} {n3 : Nat} (h0 : (¬ (n0 = n1))) (h1 : (n2 = n0)) (h2 : (n3 = n1)) : (¬ (n2 = n3)) := by first | decide | (intros; simp_all; done) | lia
theorem om144 {n0 : Nat} {n1 : Nat} (h0 : (n0 < n1)) : ((0 : Nat) < n1) := by first | decide | (intros; simp_all; done) | lia
theorem om145 {n0 : Nat} (h0 : (n0 < n0)) : False := Nat.lt_irrefl _ h0
theorem om146 {n0 : Nat} {n1 : Nat} : ((min n0 n1) ≤ n0) := by first | decide | (intros; simp_all; done) | lia
theorem om147 {n0 : Nat} {n1 : Nat} {n2 : Nat} {n3 : Nat} (h0 : (n0 ≤ (n1 + (1 : Nat)))) (h1 : (n2 < n0)) (h2 : (n3 < n2)) : (n3 ≤ n1) := by first | decide | (intros; simp_all; done) | lia
theorem om148 {n0 : Nat} (h0 : (n0 < (0 : Nat))) : False := by first | decide | (intros; simp_all; done) | lia
theorem om149 {n0 : Nat} {n1 : Nat} (h0 : ((n0 + (1 : Nat)) < (n1 + (1 : Nat)))) : (n0 < n1) := by first | decide | (intros; simp_all; done) | lia
theorem om150 {n0 : Nat} {n1 : Nat} {n2 : Nat} {n3 : Nat} {n4 : Nat} (h0 : (n0 < n1)) (h1 : ((n0 + n2) = n3)) (h2 : (n2 < n4)) : (((min n0 n1) + (min (n2 + (1 : Nat)) n4)) = (n3 + (1 : Nat))) := by first | decide | (intros; simp_all; done) | lia
theorem om151 {n0 : Nat} {n1 : Nat} {n2 : Nat} (h0 : (((n0 - (1 : Nat)) - n1) < n2)) : ((1 : Nat) ≤ n2) := by first | decide | (intros; simp_all; done) | lia
theorem om152 {z0 : Int} (h0 : ((0 : Int) ≤ z0)) : ((1 : Int) ≤ (z0 + (1 : Int))) := by first | decide | (intros; simp_all; done) | lia
theorem om153 {n0 : Nat} {z1 : Int} (h0 : (((n0 : Nat) : Int) ≤ z1)) : (((n0 : Nat) : Int) ≤ z1) := h0
theorem om154 {n0 : Nat} {n1 : Nat} {z2 : Int} (h0 : (n0 = (n1 + (1 : Nat)))) (h1 : (((n1 : Nat) : Int) ≤ z2)) : (((n0 : Nat) : Int) ≤ (z2 + (1 : Int))) := by first | decide | (intros; simp_all; done) | lia
theorem om155 {n0 : Nat} {z1 : Int} {n2 : Nat} (h0 : (((n0 : Nat) : Int) ≤ z1)) (h1 : (n2 ≤ n0)) : (((n2 : Nat) : Int) ≤ z1) := by first | decide | (intros; simp_all; done) | lia
theorem om156 {n0 : Nat} : ((n0 + (1 : Nat)) = ((1 : Nat) + n0)) := by first | decide | (intros; simp_all; done) | lia
theorem om157 {n0 : Nat} {n1 : Nat} : ((((n0 + (1 : Nat)) + n1) + (1 : Nat)) = (((n0 + (1 : Nat)) + (1 : Nat)) + n1)) := by first | decide | (intros; simp_all; done) | lia
theorem om158 {z0 : Int} {n1 : Nat} {z2 : Int} {n3 : Nat} {n4 : Nat} (h0 : ((z0 + ((n1 : Nat) : Int)) ≤ z2)) (h1 : (n3 = ((n4 + (1 : Nat)) + n1))) (h2 : (((n4 : Nat) : Int) ≤ z0)) : (((n3 : Nat) : Int) ≤ (z2 + (1 : Int))) := by first | decide | (intros; simp_all; done) | lia
theorem om159 {n0 : Nat} (h0 : (n0 ≤ (0 : Nat))) (h1 : ((1 : Nat) ≤ n0)) : False := by first | decide | (intros; simp_all; done) | lia
theorem om160 {n0 : Nat} {n1 : Nat} (h0 : (((n0 + (1 : Nat)) + (1 : Nat)) ≤ (n1 + (1 : Nat)))) : (n0 ≤ n1) := by first | decide | (intros; simp_all; done) | lia
theorem om161 {n0 : Nat} {n1 : Nat} (h0 : (n0 ≤ n1)) : ((n0 + (1 : Nat)) ≤ ((n1 + (1 : Nat)) + (1 : Nat))) := by first | decide | (intros; simp_all; done) | lia
theorem om162 {n0 : Nat} (h0 : ((1 : Nat) ≤ n0)) : ((((0 : Nat) + (1 : Nat)) + (1 : Nat)) ≤ (n0 + (1 : Nat))) := by first | decide | (intros; simp_all; done) | lia
theorem om163 {n0 : Nat} {n1 : Nat} {z2 : Int} (h0 : (n0 ≤ n1)) (h1 : (((n1 : Nat) : Int) ≤ (z2 + (1 : Int)))) : (((n0 : Nat) : Int) ≤ (z2 + (1 : Int))) := by first | decide | (intros; simp_all; done) | lia
theorem om164 {n0 : Nat} {n1 : Nat} (h0 : (((n0 : Nat) : Int) < ((n1 : Nat) : Int))) : (n0 < n1) := by first | decide | (intros; simp_all; done) | lia
theorem om165 {n0 : Nat} {n1 : Nat} (h0 : (n0 ≤ (100000 : Nat))) (h1 : ((1000000 : Nat) ≤ n1)) : (n0 ≤ n1) := Nat.le_trans h0 (Nat.le_trans (by decide) h1)
theorem om166 {z0 : Int} (h0 : ((0 : Int) ≤ z0)) : ((0 : Int) ≤ z0) := h0
theorem om167 {z0 : Int} {n1 : Nat} (h0 : ((0 : Int) ≤ z0)) : ((0 : Int) ≤ (z0 + ((n1 : Nat) : Int))) := by first | decide | (intros; simp_all; done) | lia
theorem om168 {z0 : Int} (h0 : ((0 : Int) ≤ z0)) (h1 : (z0 < (0 : Int))) : False := by first | decide | (intros; simp_all; done) | lia
theorem om169 {z0 : Int} {n1 : Nat} (h0 : (z0 ≤ ((n1 : Nat) : Int))) (h1 : (((n1 : Nat) : Int) < z0)) : False := by first | decide | (intros; simp_all; done) | lia
theorem om170 {n0 : Nat} {n1 : Nat} {n2 : Nat} {z3 : Int} (h0 : (n0 ≤ (100000 : Nat))) (h1 : (n1 ≤ (100000 : Nat))) (h2 : ((1000000 : Nat) ≤ n2)) : (((min (Int.toNat z3) n0) + n1) ≤ n2) := by first | decide | (intros; simp_all; done) | lia
theorem om171 {n0 : Nat} {n1 : Nat} {n2 : Nat} (h0 : (n0 ≤ (100000 : Nat))) (h1 : (n1 ≤ (100000 : Nat))) (h2 : ((1000000 : Nat) ≤ n2)) : (((n0 + n1) + n0) ≤ n2) := by first | decide | (intros; simp_all; done) | lia
theorem om172 {n0 : Nat} (h0 : ((1000000 : Nat) ≤ n0)) : ((1 : Nat) ≤ n0) := by first | decide | (intros; simp_all; done) | lia
theorem om173 : ((-(1 : Int)) < (0 : Int)) := by decide
theorem om174 {n0 : Nat} : ((0 : Int) ≤ ((-(1 : Int)) + (((n0 + (1 : Nat)) : Nat) : Int))) := by first | decide | (intros; simp_all; done) | lia
theorem om175 {n0 : Nat} : ((Int.toNat ((-(1 : Int)) + (((n0 + (1 : Nat)) : Nat) : Int))) = n0) := by first | decide | (intros; simp_all; done) | lia
theorem om176 : (((-(9223372036854775808 : Int)) ≤ (-(1 : Int))) ∧ ((-(1 : Int)) < (9223372036854775808 : Int))) := by decide
theorem om177 {n0 : Nat} {n1 : Nat} {n2 : Nat} {n3 : Nat} {n4 : Nat} (h0 : ((1000000 : Nat) ≤ n0)) (h1 : ((n1 + n2) ≤ n3)) (h2 : (n3 ≤ (40 : Nat))) (h3 : (n4 = (n1 + (1 : Nat)))) : (n4 ≤ n0) := by first | decide | (intros; simp_all; done) | lia
theorem om178 {n0 : Nat} {n1 : Nat} {n2 : Nat} {n3 : Nat} (h0 : ((n0 + n1) ≤ n2)) (h1 : (n3 < n1)) : (((n0 + (1 : Nat)) + n3) ≤ n2) := by first | decide | (intros; simp_all; done) | lia
theorem om179 {n0 : Nat} {n1 : Nat} {n2 : Nat} (h0 : ((n0 + n1) ≤ n2)) (h1 : (n2 ≤ (40 : Nat))) : (n0 ≤ (49 : Nat)) := by first | decide | (intros; simp_all; done) | lia
theorem om180 {n0 : Nat} {n1 : Nat} {n2 : Nat} (h0 : (n0 < (min n1 n2))) : (n0 < n2) := by first | decide | (intros; simp_all; done) | lia
theorem om181 {n0 : Nat} {n1 : Nat} {n2 : Nat} (h0 : (n0 < (min n1 n2))) (h1 : (n0 = n1)) : False := by first | decide | (intros; simp_all; done) | lia
theorem om182 {z0 : Int} {z1 : Int} {z2 : Int} (h0 : (z0 ≤ z1)) (h1 : (z0 = z2)) : (z2 ≤ z1) := by first | decide | (intros; simp_all; done) | lia
theorem om183 {n0 : Nat} {n1 : Nat} (h0 : (n0 < (n1 + (1 : Nat)))) (h1 : (¬ (n0 = n1))) : (n0 < n1) := by first | decide | (intros; simp_all; done) | lia
theorem om184 : ((0 : Nat) < ((0 : Nat) + (1 : Nat))) := by decide
theorem om185 {n0 : Nat} : (¬ (n0 < (0 : Nat))) := by first | decide | (intros; simp_all; done) | lia
theorem om186 {n0 : Nat} : ((0 : Nat) < (n0 + (1 : Nat))) := by first | decide | (intros; simp_all; done) | lia
theorem om187 {z0 : Int} {z1 : Int} {z2 : Int} (h0 : (z0 < z1)) (h1 : (z2 ≤ z0)) : (z2 ≤ z1) := by first | decide | (intros; simp_all; done) | lia
theorem om188 {n0 : Nat} (h0 : ((0 : Nat) < n0)) (h1 : (n0 = (0 : Nat))) : False := by first | decide | (intros; simp_all; done) | lia
theorem om189 {n0 : Nat} {n1 : Nat} (h0 : (n0 < n1)) : (n0 < (n1 + (1 : Nat))) := Nat.le_succ_of_le h0
theorem om190 {n0 : Nat} {n1 : Nat} {n2 : Nat} (h0 : (n0 ≤ (40 : Nat))) (h1 : ((1000000 : Nat) ≤ n1)) : ((min n2 n0) ≤ n1) := by first | decide | (intros; simp_all; done) | lia
theorem om191 {n0 : Nat} {n1 : Nat} {n2 : Nat} {n3 : Nat} (h0 : (n0 ≤ (40 : Nat))) (h1 : ((1000000 : Nat) ≤ n1)) (h2 : (n2 < n0)) (h3 : (n3 ≤ ((2 : Nat) * n2))) : (n3 ≤ n1) := by first | decide | (intros; simp_all; done) | lia
theorem om192 {n0 : Nat} {n1 : Nat} (h0 : (n0 ≤ ((2 : Nat) * n1))) : (n0 ≤ ((2 : Nat) * (n1 + (1 : Nat)))) := by first | decide | (intros; simp_all; done) | lia
theorem om193 {n0 : Nat} {n1 : Nat} (h0 : (((n0 + ((12 : Nat) * (0 : Nat))) + (200 : Nat)) < n1)) : ((n0 + (4 : Nat)) < n1) := by first | decide | (intros; simp_all; done) | lia
theorem om194 {n0 : Nat} {n1 : Nat} (h0 : (n0 = (0 : Nat))) (h1 : ((n1 + (1 : Nat)) = n0)) : False := by first | decide | (intros; simp_all; done) | lia
theorem om195 {n0 : Nat} {n1 : Nat} (h0 : (n0 = n1)) (h1 : (n0 ≤ (82 : Nat))) : (n1 ≤ (82 : Nat)) := by first | decide | (intros; simp_all; done) | lia
theorem om196 {n0 : Nat} {n1 : Nat} {n2 : Nat} (h0 : (n0 ≤ (40 : Nat))) (h1 : ((1000000 : Nat) ≤ n1)) (h2 : (n2 ≤ n0)) : (n2 ≤ n1) := by first | decide | (intros; simp_all; done) | lia
theorem om197 {n0 : Nat} {n1 : Nat} {n2 : Nat} {n3 : Nat} (h0 : (n0 ≤ (40 : Nat))) (h1 : ((1000000 : Nat) ≤ n1)) (h2 : (n2 ≤ n0)) (h3 : (n3 ≤ n2)) : (n3 ≤ n1) := by first | decide | (intros; simp_all; done) | lia
theorem om198 {n0 : Nat} (h0 : (n0 ≤ (82 : Nat))) : (((100 : Nat) - (n0 + (1 : Nat))) < ((100 : Nat) - n0)) := by omega
theorem om199 {n0 : Nat} : ((((n0 + (1 : Nat)) : Nat) : Int) = (((n0 : Nat) : Int) + (1 : Int))) := by first | decide | (intros; simp_all; done) | lia
theorem om200 {z0 : Int} {n1 : Nat} {n2 : Nat} (h0 : (z0 = ((n1 : Nat) : Int))) (h1 : (((n2 : Nat) : Int) ≤ z0)) : (n2 ≤ n1) := by first | decide | (intros; simp_all; done) | lia
theorem om201 {n0 : Nat} {n1 : Nat} (h0 : (n0 ≤ (40 : Nat))) (h1 : (n1 ≤ n0)) : (n1 < (64 : Nat)) := by first | decide | (intros; simp_all; done) | lia
theorem om202 {n0 : Nat} {n1 : Nat} {n2 : Nat} {n3 : Nat} {n4 : Nat} {n5 : Nat} (h0 : ((max ((n0 : Nat) : Int) ((n1 : Nat) : Int)) ≤ (max ((n2 : Nat) : Int) ((n3 : Nat) : Int)))) (h1 : ((max n2 n3) ≤ (max n4 n5))) : ((max n0 n1) ≤ (max n4 n5)) := by omega
theorem om203 {z0 : Int} {z1 : Int} (h0 : (z0 = z1)) : (z1 ≤ z0) := by first | decide | (intros; simp_all; done) | lia
theorem om204 {z0 : Int} {z1 : Int} {z2 : Int} {z3 : Int} (h0 : (z0 = z1)) (h1 : (z2 = z3)) (h2 : (z0 ≤ z2)) : (z1 ≤ z3) := by first | decide | (intros; simp_all; done) | lia
theorem om205 {n0 : Nat} {n1 : Nat} {n2 : Nat} {n3 : Nat} (h0 : (¬ ((max ((n0 : Nat) : Int) ((n1 : Nat) : Int)) ≤ (max ((n2 : Nat) : Int) ((n3 : Nat) : Int))))) : ((max n2 n3) ≤ (max n0 n1)) := by omega
theorem om206 {n0 : Nat} {n1 : Nat} {n2 : Nat} {n3 : Nat} {z4 : Int} {z5 : Int} (h0 : (¬ ((max ((n0 : Nat) : Int) ((n1 : Nat) : Int)) ≤ (max ((n2 : Nat) : Int) ((n3 : Nat) : Int))))) (h1 : ((max n0 n1) = (max n2 n3))) : (z4 ≤ z5) := by omega
theorem om207 {n0 : Nat} {n1 : Nat} (h0 : (n0 ≤ n1)) : ((max n0 n1) = n1) := by first | decide | (intros; simp_all; done) | lia
theorem om208 {n0 : Nat} {n1 : Nat} (h0 : (¬ (n0 ≤ n1))) : ((max n0 n1) = n0) := by first | decide | (intros; simp_all; done) | lia
theorem om209 {z0 : Int} (h0 : (z0 ≤ (1000 : Int))) (h1 : ((1000 : Int) < z0)) : False := by first | decide | (intros; simp_all; done) | lia
theorem om210 {n0 : Nat} {n1 : Nat} (h0 : (n0 < n1)) : ((((n1 - (1 : Nat)) - n0) + (1 : Nat)) = (n1 - n0)) := by first | decide | (intros; simp_all; done) | lia
theorem om211 {n0 : Nat} (h0 : (n0 ≤ (20000 : Nat))) : (n0 ≤ (100000 : Nat)) := Nat.le_trans h0 (by decide)
theorem om212 {n0 : Nat} {n1 : Nat} (h0 : (n0 ≤ (20000 : Nat))) (h1 : (n1 ≤ n0)) : (n1 ≤ (100000 : Nat)) := by first | decide | (intros; simp_all; done) | lia
theorem om213 {n0 : Nat} {n1 : Nat} : ((n0 - (n1 + (1 : Nat))) = ((n0 - (1 : Nat)) - n1)) := by first | decide | (intros; simp_all; done) | lia
theorem om214 {n0 : Nat} {n1 : Nat} {n2 : Nat} {n3 : Nat} (h0 : ((1000000 : Nat) ≤ n0)) (h1 : ((n1 + n2) ≤ n3)) (h2 : (n3 ≤ (40 : Nat))) : (n1 ≤ n0) := by first | decide | (intros; simp_all; done) | lia
theorem om215 {n0 : Nat} : (¬ ((0 : Nat) = (n0 + (1 : Nat)))) := by first | decide | (intros; simp_all; done) | lia
theorem om216 {n0 : Nat} : (¬ (n0 = (n0 + (1 : Nat)))) := by first | decide | (intros; simp_all; done) | lia
theorem om217 {n0 : Nat} {n1 : Nat} (h0 : (¬ (n0 = n1))) : (¬ ((n0 + (1 : Nat)) = (n1 + (1 : Nat)))) := by first | decide | (intros; simp_all; done) | lia
theorem om218 {n0 : Nat} {n1 : Nat} (h0 : (n0 < (n1 + (1 : Nat)))) : (¬ (n0 = (n1 + (1 : Nat)))) := by first | decide | (intros; simp_all; done) | lia
theorem om219 {n0 : Nat} (h0 : (n0 ≤ (40 : Nat))) : (n0 < (64 : Nat)) := Nat.lt_of_le_of_lt h0 (by decide)
theorem om220 {n0 : Nat} {n1 : Nat} {n2 : Nat} {n3 : Nat} (h0 : ((1000000 : Nat) ≤ n0)) (h1 : (n1 ≤ (40 : Nat))) (h2 : (n2 = n1)) : ((min n3 n2) ≤ n0) := by first | decide | (intros; simp_all; done) | lia
theorem om221 : ((1 : Nat) ≤ (2 : Nat)) := by decide
theorem om222 {n0 : Nat} {n1 : Nat} {n2 : Nat} (h0 : ((1000000 : Nat) ≤ n0)) (h1 : (n1 ≤ (40 : Nat))) (h2 : (n2 = n1)) : (n2 ≤ n0) := by first | decide | (intros; simp_all; done) | lia
theorem om223 {n0 : Nat} {n1 : Nat} (h0 : ((1000000 : Nat) ≤ n0)) (h1 : (n1 ≤ (20000 : Nat))) : (n1 ≤ n0) := Nat.le_trans h1 (Nat.le_trans (by decide) h0)
theorem om224 {n0 : Nat} {n1 : Nat} {n2 : Nat} (h0 : ((1000000 : Nat) ≤ n0)) (h1 : (n1 ≤ (20000 : Nat))) (h2 : (n2 ≤ n1)) : (n2 ≤ n0) := by first | decide | (intros; simp_all; done) | lia
theorem om225 {n0 : Nat} (h0 : ((1000000 : Nat) ≤ n0)) : ((2 : Nat) ≤ n0) := by first | decide | (intros; simp_all; done) | lia
theorem om226 {n0 : Nat} {n1 : Nat} {n2 : Nat} (h0 : (n0 < (40 : Nat))) (h1 : ((1000000 : Nat) ≤ n1)) (h2 : (n2 = n0)) : (n2 ≤ n1) := by first | decide | (intros; simp_all; done) | lia
theorem om227 {n0 : Nat} {n1 : Nat} (h0 : (n0 < (40 : Nat))) (h1 : (n1 = n0)) : (n1 < (40 : Nat)) := by first | decide | (intros; simp_all; done) | lia
theorem om228 {z0 : Int} (h0 : ((0 : Int) ≤ z0)) : (¬ (z0 < ((1 : Int) - (1 : Int)))) := Int.not_lt.mpr h0
theorem om229 {n0 : Nat} {n1 : Nat} (h0 : (n0 < (40 : Nat))) (h1 : ((1000000 : Nat) ≤ n1)) : (n0 ≤ n1) := by first | decide | (intros; simp_all; done) | lia
theorem om230 {n0 : Nat} {z1 : Int} (h0 : (((n0 : Nat) : Int) ≤ (z1 + (1 : Int)))) : (((0 : Int) + ((n0 : Nat) : Int)) ≤ (z1 + (1 : Int))) := by first | decide | (intros; simp_all; done) | lia
theorem om231 {z0 : Int} {n1 : Nat} {z2 : Int} (h0 : ((z0 + (((n1 + (1 : Nat)) : Nat) : Int)) ≤ (z2 + (1 : Int)))) : (((z0 + (1 : Int)) + ((n1 : Nat) : Int)) ≤ (z2 + (1 : Int))) := by first | decide | (intros; simp_all; done) | lia
theorem om232 {z0 : Int} {n1 : Nat} {z2 : Int} (h0 : (((z0 + (1 : Int)) + ((n1 : Nat) : Int)) ≤ (z2 + (1 : Int)))) (h1 : ((1 : Nat) ≤ n1)) : (¬ (z2 < (z0 + (1 : Int)))) := by first | decide | (intros; simp_all; done) | lia
theorem om233 {z0 : Int} (h0 : ((0 : Int) ≤ z0)) : ((-(1 : Int)) < z0) := h0
theorem om234 : ((1 : Nat) ≤ (3 : Nat)) := by decide
theorem om235 {n0 : Nat} {n1 : Nat} {n2 : Nat} (h0 : (n0 < (min n1 n2))) : (n0 < n1) := by first | decide | (intros; simp_all; done) | lia
theorem om236 {z0 : Int} {z1 : Int} {z2 : Int} {z3 : Int} (h0 : (z0 = z1)) (h1 : (z2 = z3)) (h2 : (z0 ≤ z2)) (h3 : (¬ (z0 = z2))) : (z1 < z3) := by first | decide | (intros; simp_all; done) | lia
theorem om237 {z0 : Int} {z1 : Int} (h0 : (z0 < z1)) : (¬ (z1 ≤ z0)) := by first | decide | (intros; simp_all; done) | lia
theorem om238 {z0 : Int} : ((0 : Int) ≤ (z0 % (96 : Int))) := by first | decide | (intros; simp_all; done) | lia
theorem om239 {z0 : Int} : (((-(9223372036854775808 : Int)) ≤ (z0 % (96 : Int))) ∧ ((z0 % (96 : Int)) < (9223372036854775808 : Int))) := by first | decide | (intros; simp_all; done) | lia
theorem om240 {z0 : Int} : ((z0 % (96 : Int)) < ((((64 : Nat) + (32 : Nat)) : Nat) : Int)) := by first | decide | (intros; simp_all; done) | lia
theorem om241 {z0 : Int} : ((Int.toNat (z0 % (96 : Int))) < ((64 : Nat) + (32 : Nat))) := by first | decide | (intros; simp_all; done) | lia
theorem om242 {z0 : Int} (h0 : (z0 ≤ (100000 : Int))) : ((Int.toNat z0) ≤ (100000 : Nat)) := by first | decide | (intros; simp_all; done) | lia
theorem om243 {z0 : Int} : ((0 : Int) < ((1 : Int) + (z0 % (3 : Int)))) := by first | decide | (intros; simp_all; done) | lia
theorem om244 {z0 : Int} : (((1 : Int) + (z0 % (3 : Int))) < (1073741824 : Int)) := by first | decide | (intros; simp_all; done) | lia
theorem om245 {z0 : Int} (h0 : (z0 ≤ (100000 : Int))) : ((Int.toNat z0) ≤ (16777216 : Nat)) := by first | decide | (intros; simp_all; done) | lia
theorem om246 {n0 : Nat} {n1 : Nat} (h0 : (n0 ≤ (10000 : Nat))) (h1 : ((1000000 : Nat) ≤ n1)) : (n0 ≤ n1) := Nat.le_trans h0 (Nat.le_trans (by decide) h1)
theorem om247 {n0 : Nat} : ((0 : Int) < (((n0 : Nat) : Int) + (1 : Int))) := by first | decide | (intros; simp_all; done) | lia
theorem om248 {n0 : Nat} (h0 : (n0 ≤ (10000 : Nat))) : ((((n0 : Nat) : Int) + (1 : Int)) < (1073741824 : Int)) := by first | decide | (intros; simp_all; done) | lia
theorem om249 {n0 : Nat} : (¬ ((((n0 : Nat) : Int) + (1 : Int)) = (0 : Int))) := by first | decide | (intros; simp_all; done) | lia
theorem om250 {n0 : Nat} : (n0 ≤ (n0 + (9 : Nat))) := by first | decide | (intros; simp_all; done) | lia
theorem om251 {z0 : Int} {z1 : Int} (h0 : ((0 : Int) ≤ z0)) : ((0 : Int) ≤ ((z0 + (1 : Int)) + (z1 % (3 : Int)))) := by first | decide | (intros; simp_all; done) | lia
theorem om252 {z0 : Int} (h0 : ((0 : Int) ≤ z0)) : ((0 : Int) ≤ (z0 + (1 : Int))) := by first | decide | (intros; simp_all; done) | lia
theorem om253 {z0 : Int} : ((0 : Int) ≤ (z0 % (9 : Int))) := by first | decide | (intros; simp_all; done) | lia
theorem om254 {z0 : Int} : ((z0 % (9 : Int)) ≤ (100000 : Int)) := by first | decide | (intros; simp_all; done) | lia
theorem om255 {z0 : Int} {n1 : Nat} : ((Int.toNat (z0 % (9 : Int))) ≤ (n1 + (9 : Nat))) := by first | decide | (intros; simp_all; done) | lia
theorem om256 {n0 : Nat} {n1 : Nat} {n2 : Nat} (h0 : (n0 = (min n1 n2))) : ((min ((n1 : Nat) : Int) ((n2 : Nat) : Int)) = ((n0 : Nat) : Int)) := by omega
theorem om257 {n0 : Nat} : ((0 : Nat) ≤ n0) := Nat.zero_le _
theorem om258 {n0 : Nat} {n1 : Nat} {n2 : Nat} {n3 : Nat} (h0 : (n0 = (min n1 n2))) (h1 : (((n3 : Nat) : Int) < ((n0 : Nat) : Int))) : (n3 < n1) := by first | decide | (intros; simp_all; done) | lia
theorem om259 {n0 : Nat} {n1 : Nat} {n2 : Nat} {n3 : Nat} (h0 : (n0 = (min n1 n2))) (h1 : (((n3 : Nat) : Int) < ((n0 : Nat) : Int))) : (n3 < n2) := by first | decide | (intros; simp_all; done) | lia
theorem om260 {n0 : Nat} {n1 : Nat} {n2 : Nat} {n3 : Nat} (h0 : (n0 = (min n1 n2))) (h1 : (((n3 : Nat) : Int) < ((n0 : Nat) : Int))) : (((n3 : Nat) : Int) < ((n1 : Nat) : Int)) := by first | decide | (intros; simp_all; done) | lia
theorem om261 {n0 : Nat} {n1 : Nat} {n2 : Nat} {n3 : Nat} (h0 : (n0 ≤ (100000 : Nat))) (h1 : (n1 = (min n2 n0))) (h2 : (((n3 : Nat) : Int) < ((n1 : Nat) : Int))) : (((-(9223372036854775808 : Int)) ≤ ((n3 : Nat) : Int)) ∧ (((n3 : Nat) : Int) < (9223372036854775808 : Int))) := by first | decide | (intros; simp_all; done) | lia
theorem om262 {n0 : Nat} {n1 : Nat} {n2 : Nat} {n3 : Nat} (h0 : (n0 = (min n1 n2))) (h1 : (((n3 : Nat) : Int) < ((n0 : Nat) : Int))) : (((n3 : Nat) : Int) < ((n2 : Nat) : Int)) := by first | decide | (intros; simp_all; done) | lia
theorem om263 {n0 : Nat} {n1 : Nat} : (((((n0 : Nat) : Int) - (1 : Int)) - ((n1 : Nat) : Int)) < ((n0 : Nat) : Int)) := by first | decide | (intros; simp_all; done) | lia
theorem om264 {n0 : Nat} {n1 : Nat} : ((Int.toNat ((((n0 : Nat) : Int) - (1 : Int)) - ((n1 : Nat) : Int))) = ((n0 - (1 : Nat)) - n1)) := by first | decide | (intros; simp_all; done) | lia
theorem om265 {n0 : Nat} {n1 : Nat} : ((Int.toNat (((n0 : Nat) : Int) - ((n1 : Nat) : Int))) = (n0 - n1)) := by first | decide | (intros; simp_all; done) | lia
theorem om266 {z0 : Int} {z1 : Int} {z2 : Int} (h0 : (z0 ≤ z1)) (h1 : (z1 ≤ z2)) : (z0 ≤ z2) := by first | decide | (intros; simp_all; done) | lia
theorem om267 {z0 : Int} {z1 : Int} : ((z0 ≤ z1) ∨ (z1 ≤ z0)) := by first | decide | (intros; simp_all; done) | lia
theorem om268 {z0 : Int} {z1 : Int} {z2 : Int} (h0 : (z0 = z1)) (h1 : (z0 = z2)) : (z2 ≤ z1) := by first | decide | (intros; simp_all; done) | lia
theorem om269 {n0 : Nat} {n1 : Nat} (h0 : (n0 < n1)) (h1 : (¬ (n0 = (n1 - (1 : Nat))))) : (n0 < (n1 - (1 : Nat))) := by first | decide | (intros; simp_all; done) | lia
theorem om270 : ((2 : Nat) ≤ (3 : Nat)) := by decide
theorem om271 {n0 : Nat} {z1 : Int} (h0 : (((n0 : Nat) : Int) ≤ z1)) : (¬ (z1 < ((((n0 : Nat) : Int) + (1 : Int)) - (1 : Int)))) := by first | decide | (intros; simp_all; done) | lia
theorem om272 {n0 : Nat} {n1 : Nat} (h0 : ((1000000 : Nat) ≤ n0)) (h1 : (n1 ≤ (50 : Nat))) : (n1 ≤ n0) := Nat.le_trans h1 (Nat.le_trans (by decide) h0)
theorem om273 {z0 : Int} {z1 : Int} {n2 : Nat} (h0 : (z0 ≤ z1)) (h1 : (((n2 : Nat) : Int) ≤ z0)) : (((n2 : Nat) : Int) ≤ z1) := by first | decide | (intros; simp_all; done) | lia
theorem om274 {z0 : Int} {n1 : Nat} : ((0 : Int) ≤ (max z0 ((n1 : Nat) : Int))) := by first | decide | (intros; simp_all; done) | lia
theorem om275 {z0 : Int} {n1 : Nat} : (z0 ≤ (max z0 ((n1 : Nat) : Int))) := by first | decide | (intros; simp_all; done) | lia
theorem om276 {n0 : Nat} {z1 : Int} : (((n0 : Nat) : Int) ≤ (max z1 ((n0 : Nat) : Int))) := by first | decide | (intros; simp_all; done) | lia
theorem om277 {z0 : Int} {n1 : Nat} (h0 : (z0 ≤ ((n1 : Nat) : Int))) : ((max z0 ((n1 : Nat) : Int)) = ((n1 : Nat) : Int)) := by first | decide | (intros; simp_all; done) | lia
theorem om278 {z0 : Int} {n1 : Nat} (h0 : (¬ (z0 ≤ ((n1 : Nat) : Int)))) : ((max z0 ((n1 : Nat) : Int)) = z0) := by first | decide | (intros; simp_all; done) | lia
theorem om279 : ((1 : Nat) ≤ (4 : Nat)) := by decide
theorem om280 : ((2 : Nat) ≤ (4 : Nat)) := by decide
theorem om281 : ((3 : Nat) ≤ (4 : Nat)) := by decide
theorem om282 {n0 : Nat} {n1 : Nat} (h0 : ((1000000 : Nat) ≤ n0)) (h1 : (n1 ≤ (40 : Nat))) : (n1 ≤ n0) := Nat.le_trans h1 (Nat.le_trans (by decide) h0)
theorem om283 {z0 : Int} {z1 : Int} {n2 : Nat} (h0 : (¬ (z0 < (z1 + ((n2 : Nat) : Int))))) : ((z1 + ((n2 : Nat) : Int)) ≤ z0) := Int.not_lt.mp h0
theorem om284 {n0 : Nat} {n1 : Nat} (h0 : (n0 = n1)) (h1 : ((0 : Nat) < n1)) : (¬ (((n0 : Nat) : Int) = (0 : Int))) := by first | decide | (intros; simp_all; done) | lia
theorem om285 {n0 : Nat} {n1 : Nat} (h0 : (n0 = n1)) (h1 : ((0 : Nat) < n1)) : ((0 : Int) < ((n0 : Nat) : Int)) := by first | decide | (intros; simp_all; done) | lia
theorem om286 {n0 : Nat} {n1 : Nat} {z2 : Int} (h0 : (n0 = n1)) (h1 : ((0 : Nat) < n1)) (h2 : ((z2 % ((n0 : Nat) : Int)) < ((n0 : Nat) : Int))) : ((Int.toNat (z2 % ((n0 : Nat) : Int))) < n0) := by first | decide | (intros; simp_all; done) | lia
theorem om287 {n0 : Nat} {n1 : Nat} {z2 : Int} (h0 : (n0 ≤ (100 : Nat))) (h1 : (n1 = n0)) (h2 : ((0 : Int) ≤ (z2 % ((n1 : Nat) : Int)))) (h3 : ((z2 % ((n1 : Nat) : Int)) < ((n1 : Nat) : Int))) : (((-(9223372036854775808 : Int)) ≤ (z2 % ((n1 : Nat) : Int))) ∧ ((z2 % ((n1 : Nat) : Int)) < (9223372036854775808 : Int))) := by first | decide | (intros; simp_all; done) | lia
theorem om288 {n0 : Nat} {n1 : Nat} (h0 : (n0 < n1)) (h1 : (n0 = n1)) : False := by first | decide | (intros; simp_all; done) | lia
theorem om289 {n0 : Nat} {n1 : Nat} : ((n0 < (n1 + (1 : Nat))) ↔ ((n0 < n1) ∨ (n0 = n1))) := by first | decide | (intros; simp_all; done) | lia
theorem om290 {z0 : Int} {n1 : Nat} {z2 : Int} {n3 : Nat} (h0 : (z0 = ((n1 : Nat) : Int))) (h1 : (z2 = ((n3 : Nat) : Int))) (h2 : (((n3 : Nat) : Int) ≤ z0)) (h3 : (((n1 : Nat) : Int) ≤ z2)) : (z0 = z2) := by first | decide | (intros; simp_all; done) | lia
theorem om291 {n0 : Nat} (h0 : (n0 ≤ (40 : Nat))) : (n0 ≤ (40 : Nat)) := h0
theorem om292 {z0 : Int} {z1 : Int} (h0 : (z0 < z1)) : (z0 < z1) := h0
theorem om293 {z0 : Int} {n1 : Nat} (h0 : (z0 < ((n1 : Nat) : Int))) : (¬ (¬ (z0 < ((((n1 : Nat) : Int) + (1 : Int)) - (1 : Int))))) := by first | decide | (intros; simp_all; done) | lia
theorem om294 {n0 : Nat} {n1 : Nat} (h0 : (n0 < (40 : Nat))) (h1 : (n1 = n0)) : (n1 ≤ (39 : Nat)) := by first | decide | (intros; simp_all; done) | lia
theorem om295 {z0 : Int} {n1 : Nat} {n2 : Nat} {n3 : Nat} (h0 : (z0 = ((n1 : Nat) : Int))) (h1 : (n2 = n3)) (h2 : (n1 ≤ n2)) (h3 : (((n3 : Nat) : Int) ≤ z0)) : (z0 = ((n2 : Nat) : Int)) := by first | decide | (intros; simp_all; done) | lia
theorem om296 : ((2 : Nat) ≤ (5 : Nat)) := by decide
theorem om297 : ((4 : Nat) ≤ (5 : Nat)) := by decide
theorem om298 {n0 : Nat} {z1 : Int} (h0 : (¬ (((n0 : Nat) : Int) ≤ z1))) : (z1 < ((n0 : Nat) : Int)) := by first | decide | (intros; simp_all; done) | lia
theorem om299 : (¬ (((0 : Nat) + (1 : Nat)) = (0 : Nat))) := by decide
theorem om300 {n0 : Nat} : (¬ ((n0 + (1 : Nat)) = (0 : Nat))) := by first | decide | (intros; simp_all; done) | lia
theorem om301 {n0 : Nat} {n1 : Nat} (h0 : (n0 ≤ (40 : Nat))) (h1 : (n1 ≤ n0)) : (n1 ≤ (40 : Nat)) := Nat.le_trans h1 h0
theorem om302 {n0 : Nat} {n1 : Nat} {n2 : Nat} (h0 : (n0 ≤ (40 : Nat))) (h1 : (n1 = n2)) (h2 : (n2 ≤ n0)) : (n1 ≤ (40 : Nat)) := by first | decide | (intros; simp_all; done) | lia
theorem om303 {z0 : Int} : ((0 : Int) ≤ ((1000 : Int) - ((z0 / (8 : Int)) % (3 : Int)))) := by first | decide | (intros; simp_all; done) | lia
theorem om304 {z0 : Int} : (((1000 : Int) - ((z0 / (8 : Int)) % (3 : Int))) ≤ (1000 : Int)) := by first | decide | (intros; simp_all; done) | lia
theorem om305 {z0 : Int} : ((0 : Int) ≤ ((z0 / (8 : Int)) % (1001 : Int))) := by first | decide | (intros; simp_all; done) | lia
theorem om306 {z0 : Int} : (((z0 / (8 : Int)) % (1001 : Int)) ≤ (1000 : Int)) := by first | decide | (intros; simp_all; done) | lia
theorem om307 {z0 : Int} : ((0 : Int) ≤ (z0 % (8 : Int))) := by first | decide | (intros; simp_all; done) | lia
theorem om308 {z0 : Int} : ((z0 % (8 : Int)) ≤ (1000 : Int)) := by first | decide | (intros; simp_all; done) | lia
theorem om309 {n0 : Nat} {n1 : Nat} (h0 : (((n0 + ((12 : Nat) * (0 : Nat))) + (200 : Nat)) < n1)) : ((n0 + (100 : Nat)) < n1) := by first | decide | (intros; simp_all; done) | lia
theorem om310 {n0 : Nat} {n1 : Nat} (h0 : ((n0 + (100 : Nat)) < n1)) : ((n0 + (4 : Nat)) < n1) := by first | decide | (intros; simp_all; done) | lia
theorem om311 {n0 : Nat} (h0 : ((0 : Nat) < n0)) : ((0 : Int) < ((n0 : Nat) : Int)) := Int.ofNat_le.mpr h0
theorem om312 {n0 : Nat} (h0 : ((0 : Nat) < n0)) : ((0 : Int) ≤ ((-(1 : Int)) + ((n0 : Nat) : Int))) := by first | decide | (intros; simp_all; done) | lia
theorem om313 {n0 : Nat} (h0 : ((0 : Nat) < n0)) : ((Int.toNat ((-(1 : Int)) + ((n0 : Nat) : Int))) < n0) := by omega
theorem om314 {n0 : Nat} (h0 : ((0 : Nat) < n0)) : (¬ (((n0 : Nat) : Int) = (0 : Int))) := by first | decide | (intros; simp_all; done) | lia
theorem om315 {n0 : Nat} {z1 : Int} (h0 : ((0 : Nat) < n0)) (h1 : (((z1 / (7 : Int)) % ((n0 : Nat) : Int)) < ((n0 : Nat) : Int))) : ((Int.toNat ((z1 / (7 : Int)) % ((n0 : Nat) : Int))) < n0) := by first | decide | (intros; simp_all; done) | lia
theorem om316 {n0 : Nat} {z1 : Int} (h0 : (n0 ≤ (100 : Nat))) (h1 : ((0 : Int) ≤ ((z1 / (7 : Int)) % ((n0 : Nat) : Int)))) (h2 : (((z1 / (7 : Int)) % ((n0 : Nat) : Int)) < ((n0 : Nat) : Int))) : (((-(9223372036854775808 : Int)) ≤ ((z1 / (7 : Int)) % ((n0 : Nat) : Int))) ∧ (((z1 / (7 : Int)) % ((n0 : Nat) : Int)) < (9223372036854775808 : Int))) := by first | decide | (intros; simp_all; done) | lia
theorem om317 {n0 : Nat} {n1 : Nat} {n2 : Nat} (h0 : (n0 ≤ (100 : Nat))) (h1 : ((1000000 : Nat) ≤ n1)) (h2 : (n2 = n0)) : (n2 ≤ n1) := by first | decide | (intros; simp_all; done) | lia
theorem om318 {n0 : Nat} {n1 : Nat} {n2 : Nat} (h0 : (n0 = n1)) (h1 : ((1000000 : Nat) ≤ n2)) (h2 : (n1 ≤ (40 : Nat))) : (n0 ≤ n2) := by first | decide | (intros; simp_all; done) | lia
theorem om319 {z0 : Int} {z1 : Int} (h0 : (z0 ≤ z1)) (h1 : (¬ (z0 = z1))) : (z0 < z1) := by first | decide | (intros; simp_all; done) | lia
theorem om320 {z0 : Int} {z1 : Int} (h0 : (z0 < z1)) (h1 : (z1 ≤ z0)) : False := by first | decide | (intros; simp_all; done) | lia
theorem om321 {n0 : Nat} {n1 : Nat} {z2 : Int} (h0 : ((1 : Nat) ≤ n0)) (h1 : ((((n1 + (n0 + (1 : Nat))) : Nat) : Int) ≤ (z2 + (1 : Int)))) : ((((n1 + (1 : Nat)) : Nat) : Int) ≤ z2) := by first | decide | (intros; simp_all; done) | lia
theorem om322 {n0 : Nat} {z1 : Int} (h0 : ((((n0 + (1 : Nat)) : Nat) : Int) ≤ z1)) : ((((n0 : Nat) : Int) + (1 : Int)) ≤ z1) := h0
theorem om323 {z0 : Int} {n1 : Nat} {n2 : Nat} (h0 : (((min (Int.toNat (z0 + ((n1 : Nat) : Int))) n2) - (Int.toNat z0)) = n1)) (h1 : (z0 ≤ ((n2 : Nat) : Int))) : ((z0 + ((n1 : Nat) : Int)) ≤ ((n2 : Nat) : Int)) := by omega
theorem om324 {n0 : Nat} : (n0 ≤ ((n0 - (1 : Nat)) + (1 : Nat))) := by omega
theorem om325 {n0 : Nat} (h0 : ((1 : Nat) ≤ n0)) : ((0 : Int) ≤ ((-(1 : Int)) + ((n0 : Nat) : Int))) := by first | decide | (intros; simp_all; done) | lia
theorem om326 {n0 : Nat} : ((Int.toNat ((-(1 : Int)) + ((n0 : Nat) : Int))) = (n0 - (1 : Nat))) := by first | decide | (intros; simp_all; done) | lia
theorem om327 {n0 : Nat} {n1 : Nat} (h0 : (n0 ≤ (50 : Nat))) (h1 : ((1000000 : Nat) ≤ n1)) : (n0 ≤ n1) := Nat.le_trans h0 (Nat.le_trans (by decide) h1)
theorem om328 {n0 : Nat} {n1 : Nat} (h0 : (n0 < (min (n1 - (1 : Nat)) n1))) : (n0 < (min (n1 - (1 : Nat)) n1)) := h0
theorem om329 {n0 : Nat} {n1 : Nat} (h0 : (n0 < (min (n1 - (1 : Nat)) n1))) : ((((min (n1 - (1 : Nat)) n1) - (1 : Nat)) - n0) < (n1 - (1 : Nat))) := by omega
theorem om330 {n0 : Nat} {n1 : Nat} : ((((min (n0 - (1 : Nat)) n0) - (1 : Nat)) - n1) = ((n0 - (1 : Nat)) - (n1 + (1 : Nat)))) := by rw [Nat.min_eq_left (Nat.sub_le _ _), Nat.sub_sub, Nat.add_comm 1]
theorem om331 {n0 : Nat} {n1 : Nat} (h0 : (n0 < (min (n1 - (1 : Nat)) n1))) : ((((n1 - (1 : Nat)) - (n0 + (1 : Nat))) + (1 : Nat)) = ((n1 - (1 : Nat)) - n0)) := by rw [← Nat.sub_sub]; exact Nat.sub_add_cancel (Nat.sub_pos_of_lt (Nat.lt_of_lt_of_le h0 (Nat.min_le_left _ _)))
theorem om332 {n0 : Nat} {n1 : Nat} (h0 : ((((n0 - (1 : Nat)) - (n1 + (1 : Nat))) + (1 : Nat)) = ((n0 - (1 : Nat)) - n1))) : (((n0 - (1 : Nat)) - n1) < n0) := by omega
theorem om333 {z0 : Int} (h0 : ((0 : Int) ≤ z0)) (h1 : (z0 < (0 : Int))) : False := by first | decide | (intros; simp_all; done) | lia
theorem om334 {n0 : Nat} {n1 : Nat} {z2 : Int} {n3 : Nat} (h0 : ((1000000 : Nat) ≤ n0)) (h1 : (n1 ≤ (20000 : Nat))) (h2 : ((z2 + ((n3 : Nat) : Int)) ≤ ((n1 : Nat) : Int))) (h3 : ((0 : Int) ≤ z2)) : (n3 ≤ n0) := by first | decide | (intros; simp_all; done) | lia
theorem om335 {z0 : Int} {n1 : Nat} {n2 : Nat} (h0 : ((z0 + ((n1 : Nat) : Int)) ≤ ((n2 : Nat) : Int))) (h1 : (((n2 : Nat) : Int) < (z0 + ((n1 : Nat) : Int)))) : False := by first | decide | (intros; simp_all; done) | lia
theorem om336 {n0 : Nat} {n1 : Nat} {n2 : Nat} {n3 : Nat} {z4 : Int} (h0 : ((1000000 : Nat) ≤ n0)) (h1 : (n1 ≤ (20000 : Nat))) (h2 : (n2 ≤ (20000 : Nat))) (h3 : (n3 ≤ n2)) : (((min (Int.toNat z4) n1) + n3) ≤ n0) := by first | decide | (intros; simp_all; done) | lia
theorem om337 {n0 : Nat} {n1 : Nat} {n2 : Nat} {n3 : Nat} {z4 : Int} {n5 : Nat} (h0 : ((1000000 : Nat) ≤ n0)) (h1 : (n1 ≤ (20000 : Nat))) (h2 : (n2 ≤ (20000 : Nat))) (h3 : (n3 ≤ n2)) : ((((min (Int.toNat z4) n1) + n3) + (n1 - (Int.toNat (z4 + ((n5 : Nat) : Int))))) ≤ n0) := Nat.le_trans (Nat.add_le_add (Nat.add_le_add (Nat.min_le_right _ _) h3) (Nat.sub_le _ _)) (Nat.le_trans (Nat.add_le_add (Nat.add_le_add (Nat.le_trans h1 (Nat.le_refl _)) h2) h1) (Nat.le_trans (by decide) h0))
theorem om338 {n0 : Nat} {n1 : Nat} (h0 : ((((n0 - (1 : Nat)) - (n1 + (1 : Nat))) + (1 : Nat)) = ((n0 - (1 : Nat)) - n1))) : ((n1 + (1 : Nat)) ≤ (n0 - (1 : Nat))) := by omega
theorem om339 {n0 : Nat} : (((n0 - (1 : Nat)) - (min (n0 - (1 : Nat)) n0)) = (0 : Nat)) := by first | decide | (intros; simp_all; done) | lia
theorem om340 {n0 : Nat} {n1 : Nat} (h0 : (((n0 + ((12 : Nat) * (3 : Nat))) + (200 : Nat)) < n1)) : ((n0 + (100 : Nat)) < n1) := by first | decide | (intros; simp_all; done) | lia
theorem om341 {n0 : Nat} {n1 : Nat} (h0 : ((n0 + (100 : Nat)) < n1)) : ((n0 + ((4 : Nat) * ((0 : Nat) + (1 : Nat)))) < n1) := by first | decide | (intros; simp_all; done) | lia
theorem om342 {n0 : Nat} {n1 : Nat} (h0 : (((n0 + ((12 : Nat) * (4 : Nat))) + (200 : Nat)) < n1)) : ((n0 + (100 : Nat)) < n1) := by first | decide | (intros; simp_all; done) | lia
theorem om343 {n0 : Nat} {n1 : Nat} (h0 : (n0 ≤ (40 : Nat))) (h1 : (n1 = n0)) : (n1 < (64 : Nat)) := by first | decide | (intros; simp_all; done) | lia
theorem om344 {n0 : Nat} {n1 : Nat} (h0 : ((n0 + (100 : Nat)) < n1)) : ((n0 + ((4 : Nat) * ((2 : Nat) + (1 : Nat)))) < n1) := by first | decide | (intros; simp_all; done) | lia
theorem om345 {z0 : Int} (h0 : (z0 < z0)) : False := by first | decide | (intros; simp_all; done) | lia
theorem om346 {n0 : Nat} {n1 : Nat} (h0 : ((n0 + (n1 + (1 : Nat))) ≤ (39 : Nat))) : (n0 < (40 : Nat)) := by first | decide | (intros; simp_all; done) | lia
theorem om347 {n0 : Nat} {n1 : Nat} (h0 : ((n0 + ((9 : Nat) * n1)) ≤ (9000 : Nat))) : (n0 ≤ (20000 : Nat)) := by first | decide | (intros; simp_all; done) | lia
theorem om348 {n0 : Nat} {n1 : Nat} {n2 : Nat} (h0 : ((n0 + (n1 + (1 : Nat))) ≤ (39 : Nat))) (h1 : (n2 = (n0 + (1 : Nat)))) : ((n2 + n1) ≤ (39 : Nat)) := by first | decide | (intros; simp_all; done) | lia
theorem om349 {z0 : Int} {z1 : Int} (h0 : (((0 : Int) ≤ z0) ∧ (z0 < z1))) : (((0 : Int) ≤ z0) ∧ (z0 < (z1 + (1 : Int)))) := by first | decide | (intros; simp_all; done) | lia
theorem om350 {z0 : Int} (h0 : ((0 : Int) ≤ z0)) : (((0 : Int) ≤ z0) ∧ (z0 < (z0 + (1 : Int)))) := by first | decide | (intros; simp_all; done) | lia
theorem om351 {n0 : Nat} {n1 : Nat} (h0 : ((n0 + ((9 : Nat) * (n1 + (1 : Nat)))) ≤ (9000 : Nat))) : ((n0 + ((9 : Nat) * n1)) ≤ (9000 : Nat)) := by first | decide | (intros; simp_all; done) | lia
theorem om352 : ((1 : Nat) ≤ (5 : Nat)) := by decide
theorem om353 : ((3 : Nat) ≤ (5 : Nat)) := by decide
theorem om354 {n0 : Nat} {n1 : Nat} {n2 : Nat} (h0 : ((n0 + (n1 + (1 : Nat))) ≤ (39 : Nat))) (h1 : (n2 = n0)) : (n2 < (64 : Nat)) := by first | decide | (intros; simp_all; done) | lia
theorem om355 {n0 : Nat} {n1 : Nat} {n2 : Nat} {n3 : Nat} (h0 : ((n0 + (n1 + (1 : Nat))) ≤ (39 : Nat))) (h1 : (n2 = n0)) (h2 : (n3 = n2)) : (n3 ≤ (100 : Nat)) := by first | decide | (intros; simp_all; done) | lia
theorem om356 {n0 : Nat} {n1 : Nat} (h0 : ((n0 + ((9 : Nat) * (n1 + (1 : Nat)))) ≤ (9000 : Nat))) : (n0 ≤ (10000 : Nat)) := by first | decide | (intros; simp_all; done) | lia
theorem om357 {n0 : Nat} {n1 : Nat} {n2 : Nat} (h0 : ((n0 + ((9 : Nat) * (n1 + (1 : Nat)))) ≤ (9000 : Nat))) (h1 : (n2 ≤ (n0 + (9 : Nat)))) : (n2 ≤ (20000 : Nat)) := by first | decide | (intros; simp_all; done) | lia
theorem om358 {n0 : Nat} {n1 : Nat} {n2 : Nat} {n3 : Nat} (h0 : ((1000000 : Nat) ≤ n0)) (h1 : ((n1 + (n2 + (1 : Nat))) ≤ (39 : Nat))) (h2 : (n3 = n1)) : (n3 ≤ n0) := by first | decide | (intros; simp_all; done) | lia
theorem om359 {n0 : Nat} {n1 : Nat} {n2 : Nat} (h0 : ((n0 + ((9 : Nat) * (n1 + (1 : Nat)))) ≤ (9000 : Nat))) (h1 : (n2 ≤ (n0 + (9 : Nat)))) : ((n2 + ((9 : Nat) * n1)) ≤ (9000 : Nat)) := by first | decide | (intros; simp_all; done) | lia
theorem om360 {n0 : Nat} {n1 : Nat} {n2 : Nat} (h0 : (n0 ≤ n1)) (h1 : ((n2 + ((9 : Nat) * n1)) ≤ (9000 : Nat))) : ((n2 + ((9 : Nat) * n0)) ≤ (9000 : Nat)) := by first | decide | (intros; simp_all; done) | lia
theorem om361 {n0 : Nat} {n1 : Nat} {n2 : Nat} (h0 : (n0 ≤ n1)) (h1 : ((n2 + n1) ≤ (39 : Nat))) : ((n2 + n0) ≤ (39 : Nat)) := by first | decide | (intros; simp_all; done) | lia
theorem om362 : ((4 : Nat) ≤ (6 : Nat)) := by decide
theorem om363 {n0 : Nat} {n1 : Nat} (h0 : (((n0 + ((12 : Nat) * (6 : Nat))) + (200 : Nat)) < n1)) : ((n0 + (100 : Nat)) < n1) := by first | decide | (intros; simp_all; done) | lia
theorem om364 {n0 : Nat} {n1 : Nat} (h0 : ((n0 + (n1 + (1 : Nat))) ≤ (39 : Nat))) : (n0 ≤ (100 : Nat)) := by first | decide | (intros; simp_all; done) | lia
theorem om365 {n0 : Nat} {n1 : Nat} {n2 : Nat} (h0 : ((n0 + (n1 + (1 : Nat))) ≤ (39 : Nat))) (h1 : (n2 ≤ n0)) : ((n2 + n1) ≤ (39 : Nat)) := by first | decide | (intros; simp_all; done) | lia
theorem om366 {n0 : Nat} {n1 : Nat} (h0 : (n0 ≤ (1000 : Nat))) (h1 : ((1000000 : Nat) ≤ n1)) : (n0 ≤ n1) := Nat.le_trans h0 (Nat.le_trans (by decide) h1)
theorem om367 {n0 : Nat} (h0 : ((1000000 : Nat) ≤ n0)) : ((3 : Nat) ≤ n0) := by first | decide | (intros; simp_all; done) | lia
theorem om368 : ((1 : Nat) ≤ (39 : Nat)) := by decide
theorem om369 : ((2 : Nat) ≤ (39 : Nat)) := by decide
theorem om370 : ((3 : Nat) ≤ (39 : Nat)) := by decide
theorem om371 : ((4 : Nat) ≤ (39 : Nat)) := by decide
theorem om372 : ((5 : Nat) ≤ (39 : Nat)) := by decide
theorem om373 : ((6 : Nat) ≤ (39 : Nat)) := by decide
theorem om374 : ((7 : Nat) ≤ (39 : Nat)) := by decide
theorem om375 {n0 : Nat} {n1 : Nat} (h0 : (((n0 + ((12 : Nat) * (39 : Nat))) + (200 : Nat)) < n1)) : ((n0 + (400 : Nat)) < n1) := by first | decide | (intros; simp_all; done) | lia
theorem om376 : ((0 : Int) ≤ (0 : Int)) := by decide
theorem om377 : ((0 : Nat) ≤ (15 : Nat)) := by decide
theorem om378 {n0 : Nat} (h0 : (n0 < (15 : Nat))) : (((29 : Nat) - n0) = (((28 : Nat) - n0) + (1 : Nat))) := by first | decide | (intros; simp_all; done) | lia
theorem om379 {n0 : Nat} {n1 : Nat} (h0 : (((29 : Nat) - n0) = (n1 + (1 : Nat)))) : (((29 : Nat) - (n0 + (1 : Nat))) = n1) := by omega
theorem om380 {n0 : Nat} (h0 : (n0 < (15 : Nat))) : ((n0 + (1 : Nat)) ≤ (15 : Nat)) := h0
theorem om381 : ((14 : Nat) ≤ (29 : Nat)) := by decide
theorem om382 {n0 : Nat} : ((min (14 : Int) (((n0 : Nat) : Int) / (2 : Int))) = (((Int.toNat (min (14 : Int) (((n0 : Nat) : Int) / (2 : Int)))) : Nat) : Int)) := by first | decide | (intros; simp_all; done) | lia
theorem om383 {n0 : Nat} : ((Int.toNat (min (14 : Int) (((n0 : Nat) : Int) / (2 : Int)))) ≤ (14 : Nat)) := by first | decide | (intros; simp_all; done) | lia
theorem om384 {n0 : Nat} {n1 : Nat} (h0 : (n0 < (Int.toNat ((n1 : Nat) : Int)))) : (n0 < n1) := h0
theorem om385 {n0 : Nat} {n1 : Nat} (h0 : (n0 ≤ (14 : Nat))) (h1 : (n1 < n0)) : (((14 : Nat) - n1) = (((13 : Nat) - n1) + (1 : Nat))) := by first | decide | (intros; simp_all; done) | lia
theorem om386 {n0 : Nat} {n1 : Nat} (h0 : (((14 : Nat) - n0) = (n1 + (1 : Nat)))) : (((14 : Nat) - (n0 + (1 : Nat))) = n1) := by omega
theorem om387 {n0 : Nat} : ((0 : Int) ≤ ((2 : Int) + ((2 : Int) * ((n0 : Nat) : Int)))) := Int.natCast_nonneg _
theorem om388 {n0 : Nat} : ((0 : Int) ≤ ((3 : Int) + ((2 : Int) * ((n0 : Nat) : Int)))) := Int.natCast_nonneg _
theorem om389 {n0 : Nat} {n1 : Nat} (h0 : ((n0 + (400 : Nat)) < n1)) : ((n0 + ((4 : Nat) * ((0 : Nat) + (1 : Nat)))) < n1) := by first | decide | (intros; simp_all; done) | lia
theorem om390 {n0 : Nat} {n1 : Nat} (h0 : ((n0 + (400 : Nat)) < n1)) : ((n0 + (4 : Nat)) < n1) := by first | decide | (intros; simp_all; done) | lia
theorem om391 {n0 : Nat} {n1 : Nat} {n2 : Nat} (h0 : ((n0 + n1) ≤ (39 : Nat))) (h1 : (n2 = n0)) : (n2 < (64 : Nat)) := by first | decide | (intros; simp_all; done) | lia
theorem om392 {n0 : Nat} {n1 : Nat} (h0 : ((n0 + n1) ≤ (39 : Nat))) : (n0 < (40 : Nat)) := by first | decide | (intros; simp_all; done) | lia
theorem om393 {z0 : Int} {z1 : Int} (h0 : ((0 : Int) ≤ z0)) (h1 : (z0 ≤ z1)) : (((0 : Int) ≤ z0) ∧ (z0 < (z1 + (1 : Int)))) := by first | decide | (intros; simp_all; done) | lia
theorem om394 {n0 : Nat} {n1 : Nat} {n2 : Nat} (h0 : ((n0 + n1) ≤ (39 : Nat))) (h1 : (n2 = n0)) : ((n2 + n1) ≤ (39 : Nat)) := by first | decide | (intros; simp_all; done) | lia
theorem om395 {n0 : Nat} {n1 : Nat} (h0 : (n0 ≤ (40 : Nat))) (h1 : (n1 = n0)) : (n1 ≤ (40 : Nat)) := by first | decide | (intros; simp_all; done) | lia
theorem om396 {n0 : Nat} {n1 : Nat} (h0 : (n0 ≤ (40 : Nat))) (h1 : (n1 = n0)) : (n1 ≤ (1000 : Nat)) := by first | decide | (intros; simp_all; done) | lia
theorem om397 {n0 : Nat} {n1 : Nat} {n2 : Nat} {n3 : Nat} (h0 : ((1000000 : Nat) ≤ n0)) (h1 : (n1 ≤ (14 : Nat))) (h2 : (n2 < n1)) (h3 : (n3 ≤ n2)) : (n3 ≤ n0) := by first | decide | (intros; simp_all; done) | lia
theorem om398 : (((0 : Nat) + (1 : Nat)) ≤ (4 : Nat)) := by decide
theorem om399 {n0 : Nat} {n1 : Nat} {n2 : Nat} {n3 : Nat} (h0 : ((1000000 : Nat) ≤ n0)) (h1 : (n1 ≤ (14 : Nat))) (h2 : (n2 ≤ n1)) (h3 : (n3 ≤ n2)) : (n3 ≤ n0) := by first | decide | (intros; simp_all; done) | lia
theorem om400 {n0 : Nat} {n1 : Nat} (h0 : ((n0 + (400 : Nat)) < n1)) : ((n0 + ((4 : Nat) * ((4 : Nat) + (1 : Nat)))) < n1) := by first | decide | (intros; simp_all; done) | lia
theorem e0a3 {p0 p1 p2 : Prop} {G : Prop} (z : p0 ∧ p1 ∧ p2) (k : p0 → p1 → p2 → G) : G :=
  k z.1 z.2.1 z.2.2
theorem e0a4 {p0 p1 p2 p3 : Prop} {G : Prop} (z : p0 ∧ p1 ∧ p2 ∧ p3) (k : p0 → p1 → p2 → p3 → G) : G :=
  k z.1 z.2.1 z.2.2.1 z.2.2.2
theorem e0a5 {p0 p1 p2 p3 p4 : Prop} {G : Prop} (z : p0 ∧ p1 ∧ p2 ∧ p3 ∧ p4) (k : p0 → p1 → p2 → p3 → p4 → G) : G :=
  k z.1 z.2.1 z.2.2.1 z.2.2.2.1 z.2.2.2.2
theorem e0a6 {p0 p1 p2 p3 p4 p5 : Prop} {G : Prop} (z : p0 ∧ p1 ∧ p2 ∧ p3 ∧ p4 ∧ p5) (k : p0 → p1 → p2 → p3 → p4 → p5 → G) : G :=
  k z.1 z.2.1 z.2.2.1 z.2.2.2.1 z.2.2.2.2.1 z.2.2.2.2.2
theorem e0a9 {p0 p1 p2 p3 p4 p5 p6 p7 p8 : Prop} {G : Prop} (z : p0 ∧ p1 ∧ p2 ∧ p3 ∧ p4 ∧ p5 ∧ p6 ∧ p7 ∧ p8) (k : p0 → p1 → p2 → p3 → p4 → p5 → p6 → p7 → p8 → G) : G :=
  k z.1 z.2.1 z.2.2.1 z.2.2.2.1 z.2.2.2.2.1 z.2.2.2.2.2.1 z.2.2.2.2.2.2.1 z.2.2.2.2.2.2.2.1 z.2.2.2.2.2.2.2.2
theorem e1a2 {α0 : Sort _} {p0 p1 : α0 → Prop} {G : Prop} (z : ∃ x0, p0 x0 ∧ p1 x0) (k : ∀ x0, p0 x0 → p1 x0 → G) : G :=
  Exists.elim z fun x0 z => k x0 z.1 z.2
theorem e1a3 {α0 : Sort _} {p0 p1 p2 : α0 → Prop} {G : Prop} (z : ∃ x0, p0 x0 ∧ p1 x0 ∧ p2 x0) (k : ∀ x0, p0 x0 → p1 x0 → p2 x0 → G) : G :=
  Exists.elim z fun x0 z => k x0 z.1 z.2.1 z.2.2
theorem e1a4 {α0 : Sort _} {p0 p1 p2 p3 : α0 → Prop} {G : Prop} (z : ∃ x0, p0 x0 ∧ p1 x0 ∧ p2 x0 ∧ p3 x0) (k : ∀ x0, p0 x0 → p1 x0 → p2 x0 → p3 x0 → G) : G :=
  Exists.elim z fun x0 z => k x0 z.1 z.2.1 z.2.2.1 z.2.2.2
theorem e1a5 {α0 : Sort _} {p0 p1 p2 p3 p4 : α0 → Prop} {G : Prop} (z : ∃ x0, p0 x0 ∧ p1 x0 ∧ p2 x0 ∧ p3 x0 ∧ p4 x0) (k : ∀ x0, p0 x0 → p1 x0 → p2 x0 → p3 x0 → p4 x0 → G) : G :=
  Exists.elim z fun x0 z => k x0 z.1 z.2.1 z.2.2.1 z.2.2.2.1 z.2.2.2.2
theorem e17a4 {α0 α1 α2 α3 α4 α5 α6 α7 α8 α9 α10 α11 α12 α13 α14 α15 α16 : Sort _} {p0 p1 p2 p3 : α0 → α1 → α2 → α3 → α4 → α5 → α6 → α7 → α8 → α9 → α10 → α11 → α12 → α13 → α14 → α15 → α16 → Prop} {G : Prop} (z : ∃ x0 x1 x2 x3 x4 x5 x6 x7 x8 x9 x10 x11 x12 x13 x14 x15 x16, p0 x0 x1 x2 x3 x4 x5 x6 x7 x8 x9 x10 x11 x12 x13 x14 x15 x16 ∧ p1 x0 x1 x2 x3 x4 x5 x6 x7 x8 x9 x10 x11 x12 x13 x14 x15 x16 ∧ p2 x0 x1 x2 x3 x4 x5 x6 x7 x8 x9 x10 x11 x12 x13 x14 x15 x16 ∧ p3 x0 x1 x2 x3 x4 x5 x6 x7 x8 x9 x10 x11 x12 x13 x14 x15 x16) (k : ∀ x0 x1 x2 x3 x4 x5 x6 x7 x8 x9 x10 x11 x12 x13 x14 x15 x16, p0 x0 x1 x2 x3 x4 x5 x6 x7 x8 x9 x10 x11 x12 x13 x14 x15 x16 → p1 x0 x1 x2 x3 x4 x5 x6 x7 x8 x9 x10 x11 x12 x13 x14 x15 x16 → p2 x0 x1 x2 x3 x4 x5 x6 x7 x8 x9 x10 x11 x12 x13 x14 x15 x16 → p3 x0 x1 x2 x3 x4 x5 x6 x7 x8 x9 x10 x11 x12 x13 x14 x15 x16 → G) : G :=
  Exists.elim z fun x0 z => Exists.elim z fun x1 z => Exists.elim z fun x2 z => Exists.elim z fun x3 z => Exists.elim z fun x4 z => Exists.elim z fun x5 z => Exists.elim z fun x6 z => Exists.elim z fun x7 z => Exists.elim z fun x8 z => Exists.elim z fun x9 z => Exists.elim z fun x10 z => Exists.elim z fun x11 z => Exists.elim z fun x12 z => Exists.elim z fun x13 z => Exists.elim z fun x14 z => Exists.elim z fun x15 z => Exists.elim z fun x16 z => k x0 x1 x2 x3 x4 x5 x6 x7 x8 x9 x10 x11 x12 x13 x14 x15 x16 z.1 z.2.1 z.2.2.1 z.2.2.2
theorem e2a2 {α0 α1 : Sort _} {p0 p1 : α0 → α1 → Prop} {G : Prop} (z : ∃ x0 x1, p0 x0 x1 ∧ p1 x0 x1) (k : ∀ x0 x1, p0 x0 x1 → p1 x0 x1 → G) : G :=
  Exists.elim z fun x0 z => Exists.elim z fun x1 z => k x0 x1 z.1 z.2
theorem e2a3 {α0 α1 : Sort _} {p0 p1 p2 : α0 → α1 → Prop} {G : Prop} (z : ∃ x0 x1, p0 x0 x1 ∧ p1 x0 x1 ∧ p2 x0 x1) (k : ∀ x0 x1, p0 x0 x1 → p1 x0 x1 → p2 x0 x1 → G) : G :=
  Exists.elim z fun x0 z => Exists.elim z fun x1 z => k x0 x1 z.1 z.2.1 z.2.2
theorem e2a4 {α0 α1 : Sort _} {p0 p1 p2 p3 : α0 → α1 → Prop} {G : Prop} (z : ∃ x0 x1, p0 x0 x1 ∧ p1 x0 x1 ∧ p2 x0 x1 ∧ p3 x0 x1) (k : ∀ x0 x1, p0 x0 x1 → p1 x0 x1 → p2 x0 x1 → p3 x0 x1 → G) : G :=
  Exists.elim z fun x0 z => Exists.elim z fun x1 z => k x0 x1 z.1 z.2.1 z.2.2.1 z.2.2.2
theorem e2a5 {α0 α1 : Sort _} {p0 p1 p2 p3 p4 : α0 → α1 → Prop} {G : Prop} (z : ∃ x0 x1, p0 x0 x1 ∧ p1 x0 x1 ∧ p2 x0 x1 ∧ p3 x0 x1 ∧ p4 x0 x1) (k : ∀ x0 x1, p0 x0 x1 → p1 x0 x1 → p2 x0 x1 → p3 x0 x1 → p4 x0 x1 → G) : G :=
  Exists.elim z fun x0 z => Exists.elim z fun x1 z => k x0 x1 z.1 z.2.1 z.2.2.1 z.2.2.2.1 z.2.2.2.2
theorem e2a6 {α0 α1 : Sort _} {p0 p1 p2 p3 p4 p5 : α0 → α1 → Prop} {G : Prop} (z : ∃ x0 x1, p0 x0 x1 ∧ p1 x0 x1 ∧ p2 x0 x1 ∧ p3 x0 x1 ∧ p4 x0 x1 ∧ p5 x0 x1) (k : ∀ x0 x1, p0 x0 x1 → p1 x0 x1 → p2 x0 x1 → p3 x0 x1 → p4 x0 x1 → p5 x0 x1 → G) : G :=
  Exists.elim z fun x0 z => Exists.elim z fun x1 z => k x0 x1 z.1 z.2.1 z.2.2.1 z.2.2.2.1 z.2.2.2.2.1 z.2.2.2.2.2
theorem e3a2 {α0 α1 α2 : Sort _} {p0 p1 : α0 → α1 → α2 → Prop} {G : Prop} (z : ∃ x0 x1 x2, p0 x0 x1 x2 ∧ p1 x0 x1 x2) (k : ∀ x0 x1 x2, p0 x0 x1 x2 → p1 x0 x1 x2 → G) : G :=
  Exists.elim z fun x0 z => Exists.elim z fun x1 z => Exists.elim z fun x2 z => k x0 x1 x2 z.1 z.2
theorem e3a3 {α0 α1 α2 : Sort _} {p0 p1 p2 : α0 → α1 → α2 → Prop} {G : Prop} (z : ∃ x0 x1 x2, p0 x0 x1 x2 ∧ p1 x0 x1 x2 ∧ p2 x0 x1 x2) (k : ∀ x0 x1 x2, p0 x0 x1 x2 → p1 x0 x1 x2 → p2 x0 x1 x2 → G) : G :=
  Exists.elim z fun x0 z => Exists.elim z fun x1 z => Exists.elim z fun x2 z => k x0 x1 x2 z.1 z.2.1 z.2.2
theorem e3a4 {α0 α1 α2 : Sort _} {p0 p1 p2 p3 : α0 → α1 → α2 → Prop} {G : Prop} (z : ∃ x0 x1 x2, p0 x0 x1 x2 ∧ p1 x0 x1 x2 ∧ p2 x0 x1 x2 ∧ p3 x0 x1 x2) (k : ∀ x0 x1 x2, p0 x0 x1 x2 → p1 x0 x1 x2 → p2 x0 x1 x2 → p3 x0 x1 x2 → G) : G :=
  Exists.elim z fun x0 z => Exists.elim z fun x1 z => Exists.elim z fun x2 z => k x0 x1 x2 z.1 z.2.1 z.2.2.1 z.2.2.2
theorem e3a5 {α0 α1 α2 : Sort _} {p0 p1 p2 p3 p4 : α0 → α1 → α2 → Prop} {G : Prop} (z : ∃ x0 x1 x2, p0 x0 x1 x2 ∧ p1 x0 x1 x2 ∧ p2 x0 x1 x2 ∧ p3 x0 x1 x2 ∧ p4 x0 x1 x2) (k : ∀ x0 x1 x2, p0 x0 x1 x2 → p1 x0 x1 x2 → p2 x0 x1 x2 → p3 x0 x1 x2 → p4 x0 x1 x2 → G) : G :=
  Exists.elim z fun x0 z => Exists.elim z fun x1 z => Exists.elim z fun x2 z => k x0 x1 x2 z.1 z.2.1 z.2.2.1 z.2.2.2.1 z.2.2.2.2
theorem e3a6 {α0 α1 α2 : Sort _} {p0 p1 p2 p3 p4 p5 : α0 → α1 → α2 → Prop} {G : Prop} (z : ∃ x0 x1 x2, p0 x0 x1 x2 ∧ p1 x0 x1 x2 ∧ p2 x0 x1 x2 ∧ p3 x0 x1 x2 ∧ p4 x0 x1 x2 ∧ p5 x0 x1 x2) (k : ∀ x0 x1 x2, p0 x0 x1 x2 → p1 x0 x1 x2 → p2 x0 x1 x2 → p3 x0 x1 x2 → p4 x0 x1 x2 → p5 x0 x1 x2 → G) : G :=
  Exists.elim z fun x0 z => Exists.elim z fun x1 z => Exists.elim z fun x2 z => k x0 x1 x2 z.1 z.2.1 z.2.2.1 z.2.2.2.1 z.2.2.2.2.1 z.2.2.2.2.2
theorem e3a8 {α0 α1 α2 : Sort _} {p0 p1 p2 p3 p4 p5 p6 p7 : α0 → α1 → α2 → Prop} {G : Prop} (z : ∃ x0 x1 x2, p0 x0 x1 x2 ∧ p1 x0 x1 x2 ∧ p2 x0 x1 x2 ∧ p3 x0 x1 x2 ∧ p4 x0 x1 x2 ∧ p5 x0 x1 x2 ∧ p6 x0 x1 x2 ∧ p7 x0 x1 x2) (k : ∀ x0 x1 x2, p0 x0 x1 x2 → p1 x0 x1 x2 → p2 x0 x1 x2 → p3 x0 x1 x2 → p4 x0 x1 x2 → p5 x0 x1 x2 → p6 x0 x1 x2 → p7 x0 x1 x2 → G) : G :=
  Exists.elim z fun x0 z => Exists.elim z fun x1 z => Exists.elim z fun x2 z => k x0 x1 x2 z.1 z.2.1 z.2.2.1 z.2.2.2.1 z.2.2.2.2.1 z.2.2.2.2.2.1 z.2.2.2.2.2.2.1 z.2.2.2.2.2.2.2
theorem e4a4 {α0 α1 α2 α3 : Sort _} {p0 p1 p2 p3 : α0 → α1 → α2 → α3 → Prop} {G : Prop} (z : ∃ x0 x1 x2 x3, p0 x0 x1 x2 x3 ∧ p1 x0 x1 x2 x3 ∧ p2 x0 x1 x2 x3 ∧ p3 x0 x1 x2 x3) (k : ∀ x0 x1 x2 x3, p0 x0 x1 x2 x3 → p1 x0 x1 x2 x3 → p2 x0 x1 x2 x3 → p3 x0 x1 x2 x3 → G) : G :=
  Exists.elim z fun x0 z => Exists.elim z fun x1 z => Exists.elim z fun x2 z => Exists.elim z fun x3 z => k x0 x1 x2 x3 z.1 z.2.1 z.2.2.1 z.2.2.2
theorem e4a5 {α0 α1 α2 α3 : Sort _} {p0 p1 p2 p3 p4 : α0 → α1 → α2 → α3 → Prop} {G : Prop} (z : ∃ x0 x1 x2 x3, p0 x0 x1 x2 x3 ∧ p1 x0 x1 x2 x3 ∧ p2 x0 x1 x2 x3 ∧ p3 x0 x1 x2 x3 ∧ p4 x0 x1 x2 x3) (k : ∀ x0 x1 x2 x3, p0 x0 x1 x2 x3 → p1 x0 x1 x2 x3 → p2 x0 x1 x2 x3 → p3 x0 x1 x2 x3 → p4 x0 x1 x2 x3 → G) : G :=
  Exists.elim z fun x0 z => Exists.elim z fun x1 z => Exists.elim z fun x2 z => Exists.elim z fun x3 z => k x0 x1 x2 x3 z.1 z.2.1 z.2.2.1 z.2.2.2.1 z.2.2.2.2
theorem e4a7 {α0 α1 α2 α3 : Sort _} {p0 p1 p2 p3 p4 p5 p6 : α0 → α1 → α2 → α3 → Prop} {G : Prop} (z : ∃ x0 x1 x2 x3, p0 x0 x1 x2 x3 ∧ p1 x0 x1 x2 x3 ∧ p2 x0 x1 x2 x3 ∧ p3 x0 x1 x2 x3 ∧ p4 x0 x1 x2 x3 ∧ p5 x0 x1 x2 x3 ∧ p6 x0 x1 x2 x3) (k : ∀ x0 x1 x2 x3, p0 x0 x1 x2 x3 → p1 x0 x1 x2 x3 → p2 x0 x1 x2 x3 → p3 x0 x1 x2 x3 → p4 x0 x1 x2 x3 → p5 x0 x1 x2 x3 → p6 x0 x1 x2 x3 → G) : G :=
  Exists.elim z fun x0 z => Exists.elim z fun x1 z => Exists.elim z fun x2 z => Exists.elim z fun x3 z => k x0 x1 x2 x3 z.1 z.2.1 z.2.2.1 z.2.2.2.1 z.2.2.2.2.1 z.2.2.2.2.2.1 z.2.2.2.2.2.2
theorem e4a8 {α0 α1 α2 α3 : Sort _} {p0 p1 p2 p3 p4 p5 p6 p7 : α0 → α1 → α2 → α3 → Prop} {G : Prop} (z : ∃ x0 x1 x2 x3, p0 x0 x1 x2 x3 ∧ p1 x0 x1 x2 x3 ∧ p2 x0 x1 x2 x3 ∧ p3 x0 x1 x2 x3 ∧ p4 x0 x1 x2 x3 ∧ p5 x0 x1 x2 x3 ∧ p6 x0 x1 x2 x3 ∧ p7 x0 x1 x2 x3) (k : ∀ x0 x1 x2 x3, p0 x0 x1 x2 x3 → p1 x0 x1 x2 x3 → p2 x0 x1 x2 x3 → p3 x0 x1 x2 x3 → p4 x0 x1 x2 x3 → p5 x0 x1 x2 x3 → p6 x0 x1 x2 x3 → p7 x0 x1 x2 x3 → G) : G :=
  Exists.elim z fun x0 z => Exists.elim z fun x1 z => Exists.elim z fun x2 z => Exists.elim z fun x3 z => k x0 x1 x2 x3 z.1 z.2.1 z.2.2.1 z.2.2.2.1 z.2.2.2.2.1 z.2.2.2.2.2.1 z.2.2.2.2.2.2.1 z.2.2.2.2.2.2.2
theorem e5a13 {α0 α1 α2 α3 α4 : Sort _} {p0 p1 p2 p3 p4 p5 p6 p7 p8 p9 p10 p11 p12 : α0 → α1 → α2 → α3 → α4 → Prop} {G : Prop} (z : ∃ x0 x1 x2 x3 x4, p0 x0 x1 x2 x3 x4 ∧ p1 x0 x1 x2 x3 x4 ∧ p2 x0 x1 x2 x3 x4 ∧ p3 x0 x1 x2 x3 x4 ∧ p4 x0 x1 x2 x3 x4 ∧ p5 x0 x1 x2 x3 x4 ∧ p6 x0 x1 x2 x3 x4 ∧ p7 x0 x1 x2 x3 x4 ∧ p8 x0 x1 x2 x3 x4 ∧ p9 x0 x1 x2 x3 x4 ∧ p10 x0 x1 x2 x3 x4 ∧ p11 x0 x1 x2 x3 x4 ∧ p12 x0 x1 x2 x3 x4) (k : ∀ x0 x1 x2 x3 x4, p0 x0 x1 x2 x3 x4 → p1 x0 x1 x2 x3 x4 → p2 x0 x1 x2 x3 x4 → p3 x0 x1 x2 x3 x4 → p4 x0 x1 x2 x3 x4 → p5 x0 x1 x2 x3 x4 → p6 x0 x1 x2 x3 x4 → p7 x0 x1 x2 x3 x4 → p8 x0 x1 x2 x3 x4 → p9 x0 x1 x2 x3 x4 → p10 x0 x1 x2 x3 x4 → p11 x0 x1 x2 x3 x4 → p12 x0 x1 x2 x3 x4 → G) : G :=
  Exists.elim z fun x0 z => Exists.elim z fun x1 z => Exists.elim z fun x2 z => Exists.elim z fun x3 z => Exists.elim z fun x4 z => k x0 x1 x2 x3 x4 z.1 z.2.1 z.2.2.1 z.2.2.2.1 z.2.2.2.2.1 z.2.2.2.2.2.1 z.2.2.2.2.2.2.1 z.2.2.2.2.2.2.2.1 z.2.2.2.2.2.2.2.2.1 z.2.2.2.2.2.2.2.2.2.1 z.2.2.2.2.2.2.2.2.2.2.1 z.2.2.2.2.2.2.2.2.2.2.2.1 z.2.2.2.2.2.2.2.2.2.2.2.2
theorem e5a6 {α0 α1 α2 α3 α4 : Sort _} {p0 p1 p2 p3 p4 p5 : α0 → α1 → α2 → α3 → α4 → Prop} {G : Prop} (z : ∃ x0 x1 x2 x3 x4, p0 x0 x1 x2 x3 x4 ∧ p1 x0 x1 x2 x3 x4 ∧ p2 x0 x1 x2 x3 x4 ∧ p3 x0 x1 x2 x3 x4 ∧ p4 x0 x1 x2 x3 x4 ∧ p5 x0 x1 x2 x3 x4) (k : ∀ x0 x1 x2 x3 x4, p0 x0 x1 x2 x3 x4 → p1 x0 x1 x2 x3 x4 → p2 x0 x1 x2 x3 x4 → p3 x0 x1 x2 x3 x4 → p4 x0 x1 x2 x3 x4 → p5 x0 x1 x2 x3 x4 → G) : G :=
  Exists.elim z fun x0 z => Exists.elim z fun x1 z => Exists.elim z fun x2 z => Exists.elim z fun x3 z => Exists.elim z fun x4 z => k x0 x1 x2 x3 x4 z.1 z.2.1 z.2.2.1 z.2.2.2.1 z.2.2.2.2.1 z.2.2.2.2.2
end Mine
set_option Elab.async false
set_option maxRecDepth 100000
set_option maxHeartbeats 8000000
set_option linter.unusedVariables false
set_option maxRecDepth 100000
set_option linter.unusedVariables false
namespace Mine
open PySem
inductive V where
  | int (i : Int)
  | str (s : Str)
  | tup (vs : List V)
  | raw (v : Value)
abbrev V.none : V := .raw .none
abbrev V.bool (b : Bool) : V := .raw (.bool b)
abbrev V.ref (a : Addr) : V := .raw (.ref a)
def TupAt (h : Heap) (a : Addr) (vs : List Value) : Prop :=
  ∃ o n, h.get? a = some o ∧ o.cls = .type "tuple" ∧ o.data = .seq vs.toArray n
mutual
def Is (h : Heap) : V → Value → Prop
  | .int i, v => ∃ t, v = .int i t
  | .str s, v => ∃ t, v = .str s t
  | .raw u, v => v = u
  | .tup ds, v => ∃ a vs, v = .ref a ∧ TupAt h a vs ∧ IsAll h ds vs
def IsAll (h : Heap) : List V → List Value → Prop
  | [], vs => vs = []
  | d :: ds, vs => ∃ v r, vs = v :: r ∧ Is h d v ∧ IsAll h ds r
end
def Tk (h h' : Heap) : Prop := ∀ b o vs n, h.get? b = some o → o.cls = .type "tuple" → o.data = .seq vs n → ∃ o', h'.get? b = some o' ∧ o'.cls = .type "tuple" ∧ o'.data = .seq vs n
theorem Tk.refl (h : Heap) : Tk h h := fun _ o _ _ e c d => ⟨o, e, c, d⟩
theorem Tk.trans {h h' h'' : Heap} (x : Tk h h') (y : Tk h' h'') : Tk h h'' := fun b o vs n e c d => let ⟨o', e', c', d'⟩ := x b o vs n e c d; y b o' vs n e' c' d'
def Grow (h h' : Heap) : Prop := ∀ b o, h.get? b = some o → h'.get? b = some o
theorem Grow.refl (h : Heap) : Grow h h := fun _ _ e => e
theorem Grow.trans {h h' h'' : Heap} (x : Grow h h') (y : Grow h' h'') : Grow h h'' := fun b o e => y b o (x b o e)
theorem Grow.tk {h h' : Heap} (x : Grow h h') : Tk h h' := fun b o _ _ e c d => ⟨o, x b o e, c, d⟩
theorem Grow.push (h : Heap) (o : Obj) : Grow h (h.push o) := fun _ _ e => Heap.get?_push_of_some o e
mutual
theorem Is.tk {h h' : Heap} (k : Tk h h') : ∀ {d : V} {v : Value}, Is h d v → Is h' d v
  | .int _, _, x => by simpa only [Is] using x
  | .str _, _, x => by simpa only [Is] using x
  | .raw _, _, x => by simpa only [Is] using x
  | .tup ds, _, x => by
    simp only [Is] at x ⊢
    refine e2a3 x fun a vs e rq1 r => ?_; clear x; obtain ⟨o, n, g, c, dt⟩ := rq1
    refine e1a3 (k a o _ n g c dt) fun o' g' c' d' => ?_
    exact ⟨a, vs, e, ⟨o', n, g', c', d'⟩, IsAll.tk k r⟩
theorem IsAll.tk {h h' : Heap} (k : Tk h h') : ∀ {ds : List V} {vs : List Value}, IsAll h ds vs → IsAll h' ds vs
  | [], _, x => by simpa only [IsAll] using x
  | d :: ds, _, x => by
    simp only [IsAll] at x ⊢
    refine e2a3 x fun v r e y z => ?_; clear x
    exact ⟨v, r, e, Is.tk k y, IsAll.tk k z⟩
end
theorem IsAll.length {h : Heap} : ∀ {ds : List V} {vs : List Value}, IsAll h ds vs → vs.length = ds.length
  | [], _, x => by simp only [IsAll] at x; subst x; rfl
  | d :: ds, _, x => by
    simp only [IsAll] at x
    refine e2a3 x fun v r e _ z => ?_; clear x
    subst e; simp [IsAll.length z]
theorem IsAll.get {h : Heap} : ∀ {ds : List V} {vs : List Value} {i : Nat} {d : V}, IsAll h ds vs → ds[i]? = some d → ∃ v, vs[i]? = some v ∧ Is h d v
  | [], _, _, _, _, e => by simp at e
  | d :: ds, _, i, d', x, e => by
    simp only [IsAll] at x
    refine e2a3 x fun v r rq2 y z => ?_; clear x; obtain rfl := rq2
    cases i with
    | zero => simp at e; subst e; exact ⟨v, rfl, y⟩
    | succ j =>
      rw [List.getElem?_cons_succ] at e ⊢
      exact IsAll.get z e
theorem IsAll.append {h : Heap} : ∀ {ds es : List V} {vs ws : List Value}, IsAll h ds vs → IsAll h es ws → IsAll h (ds ++ es) (vs ++ ws)
  | [], _, _, _, x, y => by simp only [IsAll] at x; subst x; exact y
  | d :: ds, es, _, ws, x, y => by
    simp only [IsAll] at x
    refine e2a3 x fun v r rq3 a z => ?_; clear x; obtain rfl := rq3
    simp only [List.cons_append, IsAll]
    exact ⟨v, r ++ ws, rfl, a, IsAll.append z y⟩
theorem isAll_nil (h : Heap) : IsAll h [] [] := by simp only [IsAll]
theorem isAll_one {h : Heap} {d : V} {v : Value} (x : Is h d v) : IsAll h [d] [v] := by simp only [IsAll]; exact ⟨v, [], rfl, x, rfl⟩
theorem isAll_cons {h : Heap} {d : V} {v : Value} {ds : List V} {vs : List Value} (x : Is h d v) (y : IsAll h ds vs) : IsAll h (d :: ds) (v :: vs) := by
  simp only [IsAll]; exact ⟨v, vs, rfl, x, y⟩
structure Cx where
  prog : Program
  w : World
  base : Heap
  mg : Str → Option Value
  mb : Str → Option Value
  os : OsState
inductive Abs where
  | list (ds : List V)
  | dict (kvs : List (Int × V))
  | inst (C dx : Addr)
  | attrs (fs : List (Str × V))
structure Cell where
  o : Obj
  k : Abs
abbrev AH := Addr → Option Cell
def AH.set (H : AH) (a : Addr) (c : Cell) : AH := fun b => if b = a then some c else H b
def KindIs (c : Cx) (h : Heap) (a : Addr) : Abs → Prop
  | .list ds => ∃ vs, PlainL h a vs.toArray ∧ IsAll h ds vs
  | .dict kvs => ∃ kv : List (Int × Value), h.DictOf (intKind c.prog c.w) a kv ∧ kv.map (·.1) = kvs.map (·.1) ∧ IsAll h (kvs.map (·.2)) (kv.map (·.2))
  | .inst C dx => h.get? a = some { cls := .ref C, dict := some dx, data := .plain }
  | .attrs fs => ∃ mv, h.Ns1 a mv ∧ (∀ x, fs.lookup x = none → mv x = none) ∧ ∀ x d, fs.lookup x = some d → ∃ v, mv x = some v ∧ Is h d v
def CellIs (c : Cx) (h : Heap) (a : Addr) (x : Cell) : Prop := h.get? a = some x.o ∧ KindIs c h a x.k
def Rep (c : Cx) (H : AH) (h : Heap) : Prop := ∀ a x, H a = some x → CellIs c h a x
theorem KindIs.obj {c : Cx} {h : Heap} {a : Addr} {x : Abs} (k : KindIs c h a x) : ∃ o, h.get? a = some o ∧ (∀ vs n, o.cls = .type "tuple" → o.data ≠ .seq vs n) ∧ (∀ vs, o.data ≠ .fields vs) ∧ (∀ v, o.data ≠ .cell v) := by
  cases x with
  | list ds =>
    refine e1a2 k fun vs rq4 _ => ?_; clear k; obtain ⟨o, n, g, cl, _, dt⟩ := rq4
    exact ⟨o, g, (fun _ _ q => by rw [cl] at q; exact absurd q (by decide)), (by rw [dt]; intro vs e; cases e), (by rw [dt]; intro vs e; cases e)⟩
  | dict kvs =>
    refine e1a2 k fun kv rq5 _ => ?_; clear k; obtain ⟨o, es, ep, g, cl, dt, _⟩ := rq5
    exact ⟨o, g, (fun _ _ q => by rw [cl.1] at q; exact absurd q (by decide)), (by rw [dt]; intro vs e; cases e), (by rw [dt]; intro vs e; cases e)⟩
  | inst C dx => exact ⟨_, k, (fun _ _ e => nomatch e), (fun vs e => nomatch e), (fun vs e => nomatch e)⟩
  | attrs fs =>
    refine e1a2 k fun mv rq6 _ => ?_; clear k; obtain ⟨o, es, ep, g, dt, _⟩ := rq6
    exact ⟨o, g, (fun _ _ _ q => by rw [dt] at q; cases q), (by rw [dt]; intro vs e; cases e), (by rw [dt]; intro vs e; cases e)⟩
theorem CellIs.obj {c : Cx} {h : Heap} {a : Addr} {x : Cell} (k : CellIs c h a x) : ∃ o, h.get? a = some o ∧ (∀ vs n, o.cls = .type "tuple" → o.data ≠ .seq vs n) ∧ (∀ vs, o.data ≠ .fields vs) ∧ (∀ v, o.data ≠ .cell v) := k.2.obj
theorem CellIs.keep {c : Cx} {h h' : Heap} {a : Addr} {x : Cell} (k : CellIs c h a x) (t : Tk h h') (g : ∀ o, h.get? a = some o → h'.get? a = some o) : CellIs c h' a x := by
  obtain ⟨o, x⟩ := x
  obtain ⟨k0, k⟩ := k
  refine ⟨g _ k0, ?_⟩
  cases x with
  | list ds =>
    refine e1a2 k fun vs rq7 y => ?_; clear k; obtain ⟨o, n, e, r⟩ := rq7
    exact ⟨vs, ⟨o, n, g o e, r⟩, y.tk t⟩
  | dict kvs =>
    refine e1a3 k fun kv rq8 p y => ?_; clear k; obtain ⟨o, es, ep, e, r⟩ := rq8
    exact ⟨kv, ⟨o, es, ep, g o e, r⟩, p, y.tk t⟩
  | inst C dx => exact g _ k
  | attrs fs =>
    refine e1a3 k fun mv rq9 p y => ?_; clear k; obtain ⟨o', es, ep, e, r⟩ := rq9
    exact ⟨mv, ⟨o', es, ep, g o' e, r⟩, p, fun x d q => let ⟨v, a, b⟩ := y x d q; ⟨v, a, b.tk t⟩⟩
abbrev Loc := Str → Option V
def Loc.set (m : Loc) (x : Str) (d : V) : Loc := fun y => if y = x then some d else m y
structure Fx where
  A : Around
  env : Env
  frs : List Env
  hE : Heap
  HE : AH
  keep : List (Addr × Obj)
  fn : Bool
def Fx.fs (f : Fx) : List Addr := f.frs.filterMap (·.frame)
def VarOk (env : Env) (mv : Str → Option Value) (h : Heap) (x : Str) (d : V) : Prop :=
  (env.kindOf x = some .local ∧ ∃ v, mv x = some v ∧ Is h d v) ∨
  ((env.kindOf x = some .cell ∨ env.kindOf x = some .free) ∧ ∃ a v, env.cells.lookup x = some a ∧ h.IsCell a (some v) ∧ Is h d v)
structure St (c : Cx) (f : Fx) (m : Loc) (H : AH) (s : Shared) : Prop where
  rep : Rep c H s.heap
  base : c.base.StaysIn s.heap
  bE : c.base.StaysIn f.hE
  hb : ∀ b o, c.base.get? b = some o → H b = none
  off : ∀ a o, f.hE.get? a = some o → f.HE a = none → (a ∉ f.fs → s.heap.get? a = some o) ∧ (a ∈ f.fs → ∃ sl, s.heap.get? a = some { o with slots := sl })
  dom : ∀ a o, f.hE.get? a = some o → f.HE a = none → H a = none
  up : ∀ a, f.HE a ≠ none → H a ≠ none
  loc : ∃ mv, s.heap.Ns f.env.locals mv ∧ ∀ x d, m x = some d → VarOk f.env mv s.heap x d
  newL : f.fn = true → f.hE.get? f.env.locals = none
  trL : H f.env.locals = none
  cel : ∀ x a, f.env.cells.lookup x = some a → H a = none ∧ a ≠ f.env.locals ∧ (f.fn = true → f.env.kindOf x = some .cell → f.hE.get? a = none) ∧ ∃ ov, s.heap.IsCell a ov
  apart : ∀ x y a, f.env.cells.lookup x = some a → f.env.cells.lookup y = some a → x = y
  ff : s.heap.FunFrames c.base f.frs
  fh : ∀ a ∈ f.fs, H a = none
  big : ∀ a x, H a = some x → cStatics < a
  kp : ∀ p ∈ f.keep, s.heap.get? p.1 = some p.2 ∧ ∃ vs, p.2.data = .fields vs
  gens : s.gens = #[]
  os : s.os = c.os
theorem funFrames_keep {h h' base : Heap} : ∀ {l : List Env}, h.FunFrames base l → (∀ b ∈ l.filterMap (·.frame), ∀ o, h.get? b = some o → (∀ vs, o.data ≠ .fields vs) → ∃ o', h'.get? b = some o' ∧ ∀ vs, o'.data ≠ .fields vs) → h'.FunFrames base l
  | [], _, _ => trivial
  | env :: r, ⟨hk, ⟨L, o, hf, hn, ho, hd⟩, hr⟩, k => by
    refine e1a2 (k L (by rw [List.filterMap_cons, hf]; exact .head _) o ho hd) fun o' e' d' => ?_
    exact ⟨hk, ⟨L, o', hf, hn, e', d'⟩, funFrames_keep hr fun b hb => k b (by rw [List.filterMap_cons, hf]; exact .tail _ hb)⟩
theorem St.old {c : Cx} {f : Fx} {m : Loc} {H : AH} {s : Shared} (S : St c f m H s) {a : Addr} (e : s.heap.get? a = none) : f.hE.get? a = none := by
  cases q : f.hE.get? a with
  | none => rfl
  | some o =>
    exfalso
    cases hq : f.HE a with
    | none =>
      obtain ⟨k1, k2⟩ := S.off a o q hq
      by_cases hm : a ∈ f.fs
      · obtain ⟨sl, e'⟩ := k2 hm; rw [e] at e'; cases e'
      · rw [k1 hm] at e; cases e
    | some x =>
      have := S.up a (by rw [hq]; exact fun z => nomatch z)
      cases hx : H a with
      | none => exact this hx
      | some y => refine e1a2 ((S.rep a y hx).obj) fun o' g _ => ?_; rw [e] at g; cases g
theorem VarOk.mono {env : Env} {mv : Str → Option Value} {h h' : Heap} {x : Str} {d : V} (k : VarOk env mv h x d) (t : Tk h h')
    (g : ∀ a v, env.cells.lookup x = some a → h.IsCell a (some v) → h'.IsCell a (some v)) : VarOk env mv h' x d := by
  rcases k with ⟨e, v, p, q⟩ | ⟨e, a, v, p, q, r⟩
  · exact .inl ⟨e, v, p, q.tk t⟩
  · exact .inr ⟨e, a, v, p, g a v p q, r.tk t⟩
theorem St.grow {c : Cx} {f : Fx} {m : Loc} {H : AH} {s s' : Shared} (S : St c f m H s) (g : Grow s.heap s'.heap) (hg : s'.gens = s.gens) (ho : s'.os = s.os) : St c f m H s' where
  rep := fun a x e => (S.rep a x e).keep g.tk (fun o => g a o)
  base := fun b o e => g b o (S.base b o e)
  bE := S.bE
  hb := S.hb
  off := fun a o e q => ⟨fun n => g a o ((S.off a o e q).1 n), fun n => let ⟨sl, z⟩ := (S.off a o e q).2 n; ⟨sl, g _ _ z⟩⟩
  dom := S.dom
  up := S.up
  loc := let ⟨mv, n, k⟩ := S.loc; ⟨mv, n.keeps g, fun x d e => (k x d e).mono g.tk fun _ _ _ z => z.keeps g⟩
  newL := S.newL
  trL := S.trL
  cel := fun x a e => let ⟨p, q, r, ov, z⟩ := S.cel x a e; ⟨p, q, r, ov, z.keeps g⟩
  apart := S.apart
  ff := S.ff.of_keeps fun b o e _ => ⟨o, g b o e, rfl⟩
  fh := S.fh
  big := S.big
  kp := fun p hp => ⟨g _ _ (S.kp p hp).1, (S.kp p hp).2⟩
  gens := hg.trans S.gens
  os := ho.trans S.os
theorem St.alloc {c : Cx} {f : Fx} {m : Loc} {H : AH} {s s' : Shared} (S : St c f m H s) {a : Addr} {x : Cell} (g : Grow s.heap s'.heap) (hg : s'.gens = s.gens) (ho : s'.os = s.os)
    (hn : s.heap.get? a = none) (hbig : cStatics < a) (hx : CellIs c s'.heap a x) : St c f m (H.set a x) s' := by
  have S' := S.grow (s' := s') g hg ho
  have ne : ∀ b o, s.heap.get? b = some o → b ≠ a := fun b o e q => by rw [q, hn] at e; cases e
  have hH : ∀ b, b ≠ a → (H.set a x) b = H b := fun b q => if_neg q
  refine e3a2 (S.loc.choose_spec.1) fun oL _ _ hL _ => ?_
  refine ⟨fun b y e => ?_, S'.base, S.bE, fun b o e => ?_, S'.off, fun b o e q => ?_, fun b q => ?_, S'.loc, S.newL, ?_, fun y b e => ?_, S.apart, S'.ff, fun b q => ?_, fun b y e => ?_, S'.kp, S'.gens, S'.os⟩
  · by_cases q : b = a
    · subst q; rw [AH.set, if_pos rfl] at e; cases e; exact hx
    · rw [hH b q] at e; exact S'.rep b y e
  · rw [hH b (ne b o (S.base b o e))]; exact S.hb b o e
  · have : b ≠ a := fun z => by rw [z, S.old hn] at e; cases e
    rw [hH b this]; exact S.dom b o e q
  · by_cases z : b = a
    · subst z; rw [AH.set, if_pos rfl]; exact fun w => nomatch w
    · rw [hH b z]; exact S.up b q
  · rw [hH _ (ne _ _ hL)]; exact S.trL
  · refine e0a4 (S.cel y b e) fun p q r rq10 => ?_; refine e2a2 rq10 fun ov oc z zz => ?_; clear rq10
    refine e0a4 (S'.cel y b e) fun _ _ _ z' => ?_
    exact ⟨by rw [hH b (ne b _ z)]; exact p, q, r, z'⟩
  · obtain ⟨_, o, e, _⟩ := S.ff.mem q
    rw [hH b (ne b o e)]; exact S.fh b q
  · by_cases q : b = a
    · exact q ▸ hbig
    · rw [hH b q] at e; exact S.big b y e
theorem St.upd {c : Cx} {f : Fx} {m : Loc} {H : AH} {s s' : Shared} (S : St c f m H s) {a : Addr} {x y : Cell} (hH : H a = some x) (g : Heap.ExtBut a s.heap s'.heap) (hg : s'.gens = s.gens) (ho : s'.os = s.os)
    (hy : CellIs c s'.heap a y) : St c f m (H.set a y) s' ∧ Tk s.heap s'.heap := by
  refine e1a4 ((S.rep a x hH).obj) fun oa ga na nf nc => ?_
  have t : Tk s.heap s'.heap := fun b o _ _ e cl d => ⟨o, g b o (fun q => by rw [q, ga] at e; cases e; exact na _ _ cl d) e, cl, d⟩
  have hS : ∀ b, b ≠ a → (H.set a y) b = H b := fun b q => if_neg q
  have nea : ∀ b, H b = none → b ≠ a := fun b e q => by rw [q, hH] at e; cases e
  refine ⟨⟨fun b z e => ?_, fun b o e => ?_, S.bE, fun b o e => ?_, fun b o e q => ?_, fun b o e q => ?_, fun b q => ?_, ?_, S.newL, ?_, fun v b e => ?_, S.apart, ?_, fun b q => ?_, fun b z e => ?_, fun p hp => ?_, hg.trans S.gens, ho.trans S.os⟩, t⟩
  · by_cases q : b = a
    · subst q; rw [AH.set, if_pos rfl] at e; cases e; exact hy
    · rw [hS b q] at e; exact (S.rep b z e).keep t fun o => g b o q
  · exact g b o (nea b (S.hb b o e)) (S.base b o e)
  · rw [hS b (nea b (S.hb b o e))]; exact S.hb b o e
  · have nb := nea b (S.dom b o e q)
    exact ⟨fun n => g b o nb ((S.off b o e q).1 n), fun n => let ⟨sl, z⟩ := (S.off b o e q).2 n; ⟨sl, g _ _ nb z⟩⟩
  · have nb := nea b (S.dom b o e q)
    rw [hS b nb]; exact S.dom b o e q
  · by_cases z : b = a
    · subst z; rw [AH.set, if_pos rfl]; exact fun w => nomatch w
    · rw [hS b z]; exact S.up b q
  · refine e1a2 (S.loc) fun mv n k => ?_
    refine ⟨mv, n.extBut g (nea _ S.trL), fun v d e => (k v d e).mono t fun b w eb z => ?_⟩
    refine e1a2 z fun o p q => ?_; clear z
    exact ⟨o, g b o (nea b (S.cel v b eb).1) p, q⟩
  · rw [hS _ (nea _ S.trL)]; exact S.trL
  · refine e0a4 (S.cel v b e) fun p q r rq11 => ?_; refine e2a2 rq11 fun ov o z zz => ?_; clear rq11
    exact ⟨by rw [hS b (nea b p)]; exact p, q, r, ov, o, g b o (nea b p) z, zz⟩
  · exact funFrames_keep S.ff fun b hb o e hd => ⟨o, g b o (nea b (S.fh b hb)) e, hd⟩
  · rw [hS b (nea b (S.fh b q))]; exact S.fh b q
  · by_cases q : b = a
    · exact q ▸ S.big a x hH
    · rw [hS b q] at e; exact S.big b z e
  · obtain ⟨k1, vs, k2⟩ := S.kp p hp
    exact ⟨g p.1 p.2 (fun q => by rw [q, ga] at k1; cases k1; exact nf vs k2) k1, vs, k2⟩
end Mine
set_option maxRecDepth 100000
set_option linter.unusedVariables false
namespace Mine
open PySem
theorem St.store {c : Cx} {f : Fx} {m : Loc} {H : AH} {s s' : Shared} (S : St c f m H s) {x : Str} {v : Value} {d : V} (hfn : f.fn = true) (hk : f.env.kindOf x = some .local)
    (g : Heap.SameBut f.env.locals s.heap s'.heap) (hn : ∀ mv, s.heap.Ns f.env.locals mv → s'.heap.Ns f.env.locals (fun y => if y = x then some v else mv y)) (hg : s'.gens = s.gens) (ho : s'.os = s.os) (hd : Is s.heap d v) : St c f (m.set x d) H s' ∧ Tk s.heap s'.heap := by
  refine e1a2 (S.loc) fun mv n k => ?_
  refine e3a4 (id n) fun oL es ep hL hLd hLk hLm => ?_
  have n' := hn mv n
  refine e3a3 (id n') fun oL' es' ep' hL' hLd' _ => ?_
  have ext := g.extBut
  have t : Tk s.heap s'.heap := fun b o vs n e cl dt => by
    by_cases q : b = f.env.locals
    · rw [q, hL] at e; cases e; rw [hLd] at dt; cases dt
    · exact ⟨o, ext b o q e, cl, dt⟩
  have neL : ∀ b, H b ≠ none → b ≠ f.env.locals := fun b e q => e (q ▸ S.trL)
  refine ⟨⟨fun b z e => ?_, fun b o e => ?_, S.bE, S.hb, fun b o e q => ?_, S.dom, S.up, ⟨_, n', fun y d' e => ?_⟩, S.newL, S.trL, fun y b e => ?_, S.apart, ?_, S.fh, S.big, fun p hp => ?_, hg.trans S.gens, ho.trans S.os⟩, t⟩
  · exact (S.rep b z e).keep t fun o => ext b o (neL b (by rw [e]; exact fun z => nomatch z))
  · refine ext b o (fun q => ?_) (S.base b o e)
    have h1 := S.bE b o e
    rw [q, S.newL hfn] at h1; cases h1
  · have nb : b ≠ f.env.locals := fun z => by rw [z, S.newL hfn] at e; cases e
    exact ⟨fun n => ext b o nb ((S.off b o e q).1 n), fun n => let ⟨sl, z⟩ := (S.off b o e q).2 n; ⟨sl, ext _ _ nb z⟩⟩
  · by_cases q : y = x
    · subst q
      rw [Loc.set, if_pos rfl] at e; cases e
      exact .inl ⟨hk, v, if_pos rfl, hd.tk t⟩
    · rw [Loc.set, if_neg q] at e
      rcases k y d' e with ⟨e1, v', p, r⟩ | ⟨e1, a, v', p, r, u⟩
      · exact .inl ⟨e1, v', by show (if y = x then some v else mv y) = _; rw [if_neg q]; exact p, r.tk t⟩
      · refine e1a2 r fun o z1 z2 => ?_; clear r
        exact .inr ⟨e1, a, v', p, ⟨o, ext a o (S.cel y a p).2.1 z1, z2⟩, u.tk t⟩
  · refine e0a4 (S.cel y b e) fun p q r rq12 => ?_; refine e2a2 rq12 fun ov o z zz => ?_; clear rq12
    exact ⟨p, q, r, ov, o, ext b o q z, zz⟩
  · refine funFrames_keep S.ff fun b hb o e hd' => ?_
    by_cases q : b = f.env.locals
    · subst q; exact ⟨oL', hL', fun vs z => by rw [hLd'] at z; cases z⟩
    · exact ⟨o, ext b o q e, hd'⟩
  · obtain ⟨k1, vs, k2⟩ := S.kp p hp
    exact ⟨ext p.1 p.2 (fun q => by rw [q, hL] at k1; cases k1; rw [hLd] at k2; cases k2) k1, vs, k2⟩
theorem St.storeC {c : Cx} {f : Fx} {m : Loc} {H : AH} {s s' : Shared} (S : St c f m H s) {x : Str} {a : Addr} {v : Value} {d : V} (hfn : f.fn = true) (hk : f.env.kindOf x = some .cell) (hc : f.env.cells.lookup x = some a)
    (g : Heap.SameBut a s.heap s'.heap) (hn : s'.heap.IsCell a (some v)) (hg : s'.gens = s.gens) (ho : s'.os = s.os) (hd : Is s.heap d v) : St c f (m.set x d) H s' ∧ Tk s.heap s'.heap := by
  refine e1a2 (S.loc) fun mv n k => ?_
  refine e0a4 (S.cel x a hc) fun Ha haL hnew rq13 => ?_; refine e2a2 rq13 fun ov oa ga da => ?_; clear rq13
  refine e1a2 (id hn) fun oa' ga' da' => ?_
  have ext := g.extBut
  have t : Tk s.heap s'.heap := fun b o vs n e cl dt => by
    by_cases q : b = a
    · rw [q, ga] at e; cases e; rw [da] at dt; cases dt
    · exact ⟨o, ext b o q e, cl, dt⟩
  have hnew := hnew hfn hk
  have neL : ∀ b, H b ≠ none → b ≠ a := fun b e q => e (q ▸ Ha)
  refine ⟨⟨fun b z e => ?_, fun b o e => ?_, S.bE, S.hb, fun b o e q => ?_, S.dom, S.up, ⟨_, n.sameBut g (Ne.symm haL), fun y d' e => ?_⟩, S.newL, S.trL, fun y b e => ?_, S.apart, ?_, S.fh, S.big, fun p hp => ?_, hg.trans S.gens, ho.trans S.os⟩, t⟩
  · exact (S.rep b z e).keep t fun o => ext b o (neL b (by rw [e]; exact fun z => nomatch z))
  · refine ext b o (fun q => ?_) (S.base b o e)
    have h1 := S.bE b o e
    rw [q, hnew] at h1; cases h1
  · have nb : b ≠ a := fun z => by rw [z, hnew] at e; cases e
    exact ⟨fun n => ext b o nb ((S.off b o e q).1 n), fun n => let ⟨sl, z⟩ := (S.off b o e q).2 n; ⟨sl, ext _ _ nb z⟩⟩
  · by_cases q : y = x
    · subst q
      rw [Loc.set, if_pos rfl] at e; cases e
      exact .inr ⟨.inl hk, a, v, hc, hn, hd.tk t⟩
    · rw [Loc.set, if_neg q] at e
      rcases k y d' e with ⟨e1, v', p, r⟩ | ⟨e1, b, v', p, r, u⟩
      · exact .inl ⟨e1, v', p, r.tk t⟩
      · refine e1a2 r fun o z1 z2 => ?_; clear r
        exact .inr ⟨e1, b, v', p, ⟨o, ext b o (fun z => q (S.apart y x a (z ▸ p) hc)) z1, z2⟩, u.tk t⟩
  · refine e0a4 (S.cel y b e) fun p q r rq14 => ?_; refine e2a2 rq14 fun ov o z zz => ?_; clear rq14
    by_cases w : b = a
    · subst w; exact ⟨p, q, r, _, oa', ga', da'⟩
    · exact ⟨p, q, r, ov, o, ext b o w z, zz⟩
  · refine funFrames_keep S.ff fun b hb o e hd' => ?_
    by_cases q : b = a
    · subst q; exact ⟨oa', ga', fun vs z => by rw [da'] at z; cases z⟩
    · exact ⟨o, ext b o q e, hd'⟩
  · obtain ⟨k1, vs, k2⟩ := S.kp p hp
    exact ⟨ext p.1 p.2 (fun q => by rw [q, ga] at k1; cases k1; rw [da] at k2; cases k2) k1, vs, k2⟩
theorem St.slots {c : Cx} {f : Fx} {m : Loc} {H : AH} {s s' : Shared} (S : St c f m H s) (g : Heap.SlotsOnly f.fs s.heap s'.heap) (hg : s'.gens = s.gens) (ho : s'.os = s.os) : St c f m H s' ∧ Tk s.heap s'.heap := by
  have ne : ∀ b, H b ≠ none → b ∉ f.fs := fun b e q => e (S.fh b q)
  have t : Tk s.heap s'.heap := fun b o vs n e cl dt => let ⟨sl, z⟩ := g.2.2 b o e; ⟨_, z, cl, dt⟩
  refine ⟨⟨fun b z e => ?_, fun b o e => ?_, S.bE, S.hb, fun b o e q => ?_, S.dom, S.up, ?_, S.newL, S.trL, fun y b e => ?_, S.apart, S.ff.of_slotsOnly g, S.fh, S.big, fun p hp => ?_, hg.trans S.gens, ho.trans S.os⟩, t⟩
  · exact (S.rep b z e).keep t fun o w => (g.2.1 b (ne b (by rw [e]; exact fun z => nomatch z))).trans w
  · exact (g.2.1 b fun q => by have := (S.ff.mem q).1; rw [e] at this; cases this).trans (S.base b o e)
  · refine ⟨fun n => (g.2.1 b n).trans ((S.off b o e q).1 n), fun n => ?_⟩
    obtain ⟨sl, z⟩ := (S.off b o e q).2 n
    obtain ⟨sl', z'⟩ := g.2.2 b _ z
    exact ⟨sl', z'⟩
  · refine e1a2 (S.loc) fun mv rq15 k => ?_; obtain ⟨oL, es, ep, hL, r⟩ := rq15
    obtain ⟨sl, z⟩ := g.2.2 _ _ hL
    refine ⟨mv, ⟨_, es, ep, z, r⟩, fun y d e => (k y d e).mono t fun b v _ w => ?_⟩
    refine e1a2 w fun o w1 w2 => ?_; clear w
    obtain ⟨sl, z⟩ := g.2.2 _ _ w1
    exact ⟨_, z, w2⟩
  · refine e0a4 (S.cel y b e) fun p q r rq16 => ?_; refine e2a2 rq16 fun ov o z zz => ?_; clear rq16
    obtain ⟨sl, z'⟩ := g.2.2 _ _ z
    exact ⟨p, q, r, ov, _, z', zz⟩
  · obtain ⟨k1, vs, k2⟩ := S.kp p hp
    refine ⟨(g.2.1 p.1 fun q => ?_).trans k1, vs, k2⟩
    obtain ⟨_, o, ho, hnf⟩ := S.ff.mem q
    rw [k1] at ho; cases ho; exact hnf vs k2
theorem St.other {c : Cx} {f : Fx} {m : Loc} {H : AH} {s s' : Shared} (S : St c f m H s) {a : Addr} (hH : H a = none) (hnew : f.hE.get? a = none) (hL : a ≠ f.env.locals) (hcl : ∀ x b, f.env.cells.lookup x = some b → b ≠ a)
    (hfs : a ∉ f.fs) (hkp : ∀ p ∈ f.keep, a ≠ p.1) (hnt : ∀ o vs n, s.heap.get? a = some o → o.cls = .type "tuple" → o.data ≠ .seq vs n)
    (ext : Heap.ExtBut a s.heap s'.heap) (hg : s'.gens = s.gens) (ho : s'.os = s.os) : St c f m H s' ∧ Tk s.heap s'.heap := by
  have t : Tk s.heap s'.heap := fun b o vs n e cl dt => by
    by_cases q : b = a
    · subst q; exact absurd dt (hnt o vs n e cl)
    · exact ⟨o, ext b o q e, cl, dt⟩
  have neH : ∀ b, H b ≠ none → b ≠ a := fun b e q => e (q ▸ hH)
  refine ⟨⟨fun b z e => ?_, fun b o e => ?_, S.bE, S.hb, fun b o e q => ?_, S.dom, S.up, ?_, S.newL, S.trL, fun y b e => ?_, S.apart, ?_, S.fh, S.big, fun p hp => ?_, hg.trans S.gens, ho.trans S.os⟩, t⟩
  · exact (S.rep b z e).keep t fun o => ext b o (neH b (by rw [e]; exact fun z => nomatch z))
  · refine ext b o (fun q => ?_) (S.base b o e)
    have h1 := S.bE b o e
    rw [q, hnew] at h1; cases h1
  · have nb : b ≠ a := fun z => by rw [z, hnew] at e; cases e
    exact ⟨fun n => ext b o nb ((S.off b o e q).1 n), fun n => let ⟨sl, z⟩ := (S.off b o e q).2 n; ⟨sl, ext _ _ nb z⟩⟩
  · refine e1a2 (S.loc) fun mv n k => ?_
    refine ⟨mv, n.extBut ext (Ne.symm hL), fun y d e => (k y d e).mono t fun b v eb w => ?_⟩
    refine e1a2 w fun o w1 w2 => ?_; clear w
    exact ⟨o, ext b o (hcl y b eb) w1, w2⟩
  · refine e0a4 (S.cel y b e) fun p q r rq17 => ?_; refine e2a2 rq17 fun ov o z zz => ?_; clear rq17
    exact ⟨p, q, r, ov, o, ext b o (hcl y b e) z, zz⟩
  · refine funFrames_keep S.ff fun b hb o e hd' => ?_
    exact ⟨o, ext b o (fun q => hfs (q ▸ hb)) e, hd'⟩
  · obtain ⟨k1, vs, k2⟩ := S.kp p hp
    exact ⟨ext p.1 p.2 (Ne.symm (hkp p hp)) k1, vs, k2⟩
theorem St.recd {c : Cx} {f : Fx} {m : Loc} {H : AH} {s s' : Shared} (S : St c f m H s) {a : Addr} {oa : Obj} {vs : Array Value} (ga : s.heap.get? a = some oa) (da : oa.data = .fields vs) (hnew : f.hE.get? a = none)
    (hkp : ∀ p ∈ f.keep, a ≠ p.1) (ext : Heap.ExtBut a s.heap s'.heap) (hg : s'.gens = s.gens) (ho : s'.os = s.os) : St c f m H s' ∧ Tk s.heap s'.heap := by
  have t : Tk s.heap s'.heap := fun b o vs n e cl dt => by
    by_cases q : b = a
    · rw [q, ga] at e; cases e; rw [da] at dt; cases dt
    · exact ⟨o, ext b o q e, cl, dt⟩
  have neH : ∀ b, H b ≠ none → b ≠ a := fun b e q => by
    cases hx : H b with
    | none => exact e hx
    | some y => refine e1a4 ((S.rep b y hx).obj) fun o' g' _ nf _ => ?_; rw [q, ga] at g'; cases g'; exact nf _ da
  refine ⟨⟨fun b z e => ?_, fun b o e => ?_, S.bE, S.hb, fun b o e q => ?_, S.dom, S.up, ?_, S.newL, S.trL, fun y b e => ?_, S.apart, ?_, S.fh, S.big, fun p hp => ?_, hg.trans S.gens, ho.trans S.os⟩, t⟩
  · exact (S.rep b z e).keep t fun o => ext b o (neH b (by rw [e]; exact fun z => nomatch z))
  · refine ext b o (fun q => ?_) (S.base b o e)
    have h1 := S.bE b o e
    rw [q, hnew] at h1; cases h1
  · have nb : b ≠ a := fun z => by rw [z, hnew] at e; cases e
    exact ⟨fun n => ext b o nb ((S.off b o e q).1 n), fun n => let ⟨sl, z⟩ := (S.off b o e q).2 n; ⟨sl, ext _ _ nb z⟩⟩
  · refine e1a2 (S.loc) fun mv n k => ?_
    refine e3a3 (id n) fun oL es ep hL hLd _ => ?_
    refine ⟨mv, n.extBut ext (fun q => ?_), fun y d e => (k y d e).mono t fun b v _ w => ?_⟩
    · rw [q, ga] at hL; cases hL; rw [da] at hLd; cases hLd
    · refine e1a2 w fun o w1 w2 => ?_; clear w
      exact ⟨o, ext b o (fun q => by rw [q, ga] at w1; cases w1; rw [da] at w2; cases w2) w1, w2⟩
  · refine e0a4 (S.cel y b e) fun p q r rq18 => ?_; refine e2a2 rq18 fun ov o z zz => ?_; clear rq18
    exact ⟨p, q, r, ov, o, ext b o (fun q => by rw [q, ga] at z; cases z; rw [da] at zz; cases zz) z, zz⟩
  · refine funFrames_keep S.ff fun b hb o e hd' => ?_
    exact ⟨o, ext b o (fun q => by rw [q, ga] at e; cases e; exact hd' _ da) e, hd'⟩
  · obtain ⟨k1, vs, k2⟩ := S.kp p hp
    exact ⟨ext p.1 p.2 (Ne.symm (hkp p hp)) k1, vs, k2⟩
end Mine
set_option maxRecDepth 100000
set_option linter.unusedVariables false
namespace Mine
open PySem
abbrev Cx.M (c : Cx) : Model := model c.prog c.w
def Dirty (C : Value) : Prop := C = .ref 56
def Sz (C : Value) (vs : Array Value) : Prop := 1 < vs.size ∧ (vs[2]? = some .none ∨ Dirty C)
def Fly (f : Fx) (e : Addr) (C : Value) (h : Heap) : Prop :=
  (f.hE.get? e = none ∧ ∀ p ∈ f.keep, e ≠ p.1) ∧ ∃ oe vs, h.get? e = some oe ∧ oe.cls = C ∧ oe.data = .fields vs ∧ Sz C vs ∧
    (vs[1]? = some .none ∨ ∃ T oT ts fl, vs[1]? = some (.ref T) ∧ (f.hE.get? T = none ∧ ∀ p ∈ f.keep, T ≠ p.1) ∧ T ≠ e ∧ h.get? T = some oT ∧ oT.data = .fields ts ∧ ts[3]? = some fl ∧
      (fl = .none ∨ ∃ L, f.env.frame = some L ∧ fl = rawInt L))
def Thr (c : Cx) (f : Fx) (m : Loc) (X : Value → AH → Prop) (x : Value) (s' : Shared) : Prop :=
  ∃ C H' e, x = .ref e ∧ St c f m H' s' ∧ Fly f e C s'.heap ∧ X C H'
def Good (c : Cx) (f : Fx) (m : Loc) (Q : V → AH → Prop) (s : Shared) (v : Value) (s' : Shared) : Prop :=
  Tk s.heap s'.heap ∧ ∃ d H', Is s'.heap d v ∧ St c f m H' s' ∧ Q d H'
structure Ev (c : Cx) (f : Fx) (e : Expr) (m : Loc) (H : AH) (Q : V → AH → Prop) (X : Value → AH → Prop) : Prop where
  mk ::
  run :
    ∀ s, St c f m H s → wpAny c.M f.A (eval e f.env) (Good c f m Q s) (Thr c f m X) s
instance {c : Cx} {f : Fx} {e : Expr} {m : Loc} {H : AH} {Q : V → AH → Prop} {X : Value → AH → Prop} : CoeFun (Ev c f e m H Q X) (fun _ =>
    ∀ s, St c f m H s → wpAny c.M f.A (eval e f.env) (Good c f m Q s) (Thr c f m X) s) := ⟨Ev.run⟩
structure Op1 (c : Cx) (f : Fx) (t : Value → Sem Value) (d : V) (m : Loc) (H : AH) (Q : V → AH → Prop) (X : Value → AH → Prop) : Prop where
  mk ::
  run :
    ∀ s v, St c f m H s → Is s.heap d v → wpAny c.M f.A (t v) (Good c f m Q s) (Thr c f m X) s
instance {c : Cx} {f : Fx} {t : Value → Sem Value} {d : V} {m : Loc} {H : AH} {Q : V → AH → Prop} {X : Value → AH → Prop} : CoeFun (Op1 c f t d m H Q X) (fun _ =>
    ∀ s v, St c f m H s → Is s.heap d v → wpAny c.M f.A (t v) (Good c f m Q s) (Thr c f m X) s) := ⟨Op1.run⟩
structure Op2 (c : Cx) (f : Fx) (t : Value → Value → Sem Value) (d₁ d₂ : V) (m : Loc) (H : AH) (Q : V → AH → Prop) (X : Value → AH → Prop) : Prop where
  mk ::
  run :
    ∀ s v₁ v₂, St c f m H s → Is s.heap d₁ v₁ → Is s.heap d₂ v₂ → wpAny c.M f.A (t v₁ v₂) (Good c f m Q s) (Thr c f m X) s
instance {c : Cx} {f : Fx} {t : Value → Value → Sem Value} {d₁ d₂ : V} {m : Loc} {H : AH} {Q : V → AH → Prop} {X : Value → AH → Prop} : CoeFun (Op2 c f t d₁ d₂ m H Q X) (fun _ =>
    ∀ s v₁ v₂, St c f m H s → Is s.heap d₁ v₁ → Is s.heap d₂ v₂ → wpAny c.M f.A (t v₁ v₂) (Good c f m Q s) (Thr c f m X) s) := ⟨Op2.run⟩
structure OpN (c : Cx) (f : Fx) (t : List Value → Sem Value) (ds : List V) (m : Loc) (H : AH) (Q : V → AH → Prop) (X : Value → AH → Prop) : Prop where
  mk ::
  run :
    ∀ s vs, St c f m H s → IsAll s.heap ds vs → wpAny c.M f.A (t vs) (Good c f m Q s) (Thr c f m X) s
instance {c : Cx} {f : Fx} {t : List Value → Sem Value} {ds : List V} {m : Loc} {H : AH} {Q : V → AH → Prop} {X : Value → AH → Prop} : CoeFun (OpN c f t ds m H Q X) (fun _ =>
    ∀ s vs, St c f m H s → IsAll s.heap ds vs → wpAny c.M f.A (t vs) (Good c f m Q s) (Thr c f m X) s) := ⟨OpN.run⟩
def Yield (c : Cx) (A : Around) (t : Sem Value) (s : Shared) (d : V) : Prop :=
  wpAny c.M A t (fun v s' => Grow s.heap s'.heap ∧ s'.gens = s.gens ∧ s'.os = s.os ∧ Is s'.heap d v) (fun _ _ => False) s
section
variable {c : Cx} {f : Fx} {m : Loc} {H : AH} {Q Q' : V → AH → Prop} {X X' : Value → AH → Prop}
theorem Good.mono {s : Shared} {v : Value} {s' : Shared} (h : Good c f m Q s v s') (k : ∀ d H, Q d H → Q' d H) : Good c f m Q' s v s' :=
  let ⟨t, d, H', i, S, q⟩ := h; ⟨t, d, H', i, S, k d H' q⟩
theorem Thr.mono {x : Value} {s' : Shared} (h : Thr c f m X x s') (k : ∀ C H, X C H → X' C H) : Thr c f m X' x s' :=
  let ⟨C, H', e, p, S, F, q⟩ := h; ⟨C, H', e, p, S, F, k C H' q⟩
theorem Ev.mono {e : Expr} (h : Ev c f e m H Q X) (k : ∀ d H, Q d H → Q' d H) (kx : ∀ C H, X C H → X' C H) : Ev c f e m H Q' X' :=
  .mk fun s S => wpAny_mono (h s S) (fun _ _ g => g.mono k) fun _ _ g => g.mono kx
theorem Yield.good {t : Sem Value} {s : Shared} {d : V} (h : Yield c f.A t s d) (S : St c f m H s) (q : Q d H) : wpAny c.M f.A t (Good c f m Q s) (Thr c f m X) s :=
  wpAny_mono h (fun _ _ ⟨g, hg, ho, i⟩ => ⟨g.tk, d, H, i, S.grow g hg ho, q⟩) fun _ _ z => z.elim
def Pe (c : Cx) (f : Fx) (e : Expr) (m : Loc) (H : AH) (d : V) : Prop := Ev c f e m H (fun d' H' => d' = d ∧ H' = H) (fun _ _ => False)
instance {c : Cx} {f : Fx} {e : Expr} {m : Loc} {H : AH} {d : V} : CoeFun (Pe c f e m H d) (fun _ => ∀ s, St c f m H s → wpAny c.M f.A (eval e f.env) (Good c f m (fun d' H' => d' = d ∧ H' = H) s) (Thr c f m (fun _ _ => False)) s) := ⟨fun h => Ev.run h⟩
theorem Pe.ev {e : Expr} {d : V} (h : Pe c f e m H d) (q : Q d H) : Ev c f e m H Q X :=
  Ev.mono h (fun _ _ ⟨a, b⟩ => by subst a; subst b; exact q) fun _ _ z => z.elim
theorem Ev_bin {l r : Expr} {op : Operator} {p : Pos} (h : Ev c f l m H (fun d₁ H₁ => Ev c f r m H₁ (fun d₂ H₂ => Op2 c f (binaryOp op) d₁ d₂ m H₂ Q X) X) X) : Ev c f (.BinOp l op r p) m H Q X := .mk fun s S =>
  wpAny_BinOp (wpAny_mono (h s S) (fun v₁ s₁ ⟨t₁, d₁, H₁, i₁, S₁, q₁⟩ => wpAny_mono (q₁ s₁ S₁) (fun v₂ s₂ ⟨t₂, d₂, H₂, i₂, S₂, q₂⟩ =>
    wpAny_mono (q₂ s₂ v₁ v₂ S₂ (i₁.tk t₂) i₂) (fun v s₃ ⟨t₃, r⟩ => ⟨t₁.trans (t₂.trans t₃), r⟩) fun _ _ x => x) fun _ _ x => x) fun _ _ x => x)
theorem Ev_cmp {l r : Expr} {op : CmpOp} {p : Pos} (h : Ev c f l m H (fun d₁ H₁ => Ev c f r m H₁ (fun d₂ H₂ => Op2 c f (compareOp op) d₁ d₂ m H₂ Q X) X) X)
    (hm : behindInMarks op r = false := by with_unfolding_all rfl) : Ev c f (.Compare l [op] [r] p) m H Q X := .mk fun s S =>
  wpAny_Compare1 (wpAny_mono (h s S) (fun v₁ s₁ ⟨t₁, d₁, H₁, i₁, S₁, q₁⟩ => wpAny_mono (q₁ s₁ S₁) (fun v₂ s₂ ⟨t₂, d₂, H₂, i₂, S₂, q₂⟩ =>
    wpAny_mono (q₂ s₂ v₁ v₂ S₂ (i₁.tk t₂) i₂) (fun v s₃ ⟨t₃, r⟩ => ⟨t₁.trans (t₂.trans t₃), r⟩) fun _ _ x => x) fun _ _ x => x) fun _ _ x => x) hm
theorem Ev_int {i : Int} {k : Nat} {p : Pos} (q : Q (.int i) H) : Ev c f (.Constant (.int i) k p) m H Q X := .mk fun s S =>
  wpAny_Constant_int ⟨Tk.refl _, .int i, H, ⟨_, rfl⟩, S.grow (s' := { s with toks := s.toks + 1 }) (Grow.refl _) rfl rfl, q⟩
theorem Ev_str {x : Str} {k : Nat} {p : Pos} (q : Q (.str x) H) : Ev c f (.Constant (.str x) k p) m H Q X := .mk fun s S =>
  wpAny_Constant_str ⟨Tk.refl _, .str x, H, ⟨_, rfl⟩, S.grow (s' := { s with toks := s.toks + 1 }) (Grow.refl _) rfl rfl, q⟩
theorem Ev_none {k : Nat} {p : Pos} (q : Q .none H) : Ev c f (.Constant .none k p) m H Q X := .mk fun s S =>
  wpAny_Constant_none ⟨Tk.refl _, .none, H, rfl, S, q⟩
theorem Ev_bool {b : Bool} {k : Nat} {p : Pos} (q : Q (.bool b) H) : Ev c f (.Constant (.bool b) k p) m H Q X := .mk fun s S =>
  wpAny_Constant_bool ⟨Tk.refl _, .bool b, H, rfl, S, q⟩
theorem Ev_var {x : Str} {p : Pos} {d : V} (hx : m x = some d) (q : Q d H) (hk : f.env.scope.kind = .function := by rfl) (hd : (x == ("__debug__" : Str)) = false := by decide)
    (hn : (x == ("__classdict__" : Str)) = false := by decide) : Ev c f (.Name x p) m H Q X := .mk fun s S => by
  refine e1a2 (S.loc) fun mv n k => ?_
  rcases k x d hx with ⟨e, v, a, b⟩ | ⟨e | e, a, v, b, r, u⟩
  · exact wpAny_Name (wpAny_loadName_local hk e n a ⟨Tk.refl _, d, H, b, S, q⟩) hd
  · exact wpAny_Name (wpAny_loadName_cell hk e b r ⟨Tk.refl _, d, H, u, S, q⟩) hd
  · exact wpAny_Name (wpAny_loadName_free hk e b r ⟨Tk.refl _, d, H, u, S, q⟩ hn) hd
end
end Mine
set_option maxRecDepth 100000
set_option linter.unusedVariables false
namespace Mine
open PySem
structure FrOk (f : Fx) : Prop where
  frames : f.A.frames = some f.frs
  head : ∃ r, f.frs = f.env :: r
  frame : f.env.frame = some f.env.locals
  kind : f.env.scope.kind = .function
def FlyT (f : Fx) (e : Addr) (C : Value) (fl : Value) (h : Heap) : Prop :=
  (f.hE.get? e = none ∧ ∀ p ∈ f.keep, e ≠ p.1) ∧ ∃ oe vs T oT ts, h.get? e = some oe ∧ oe.cls = C ∧ oe.data = .fields vs ∧ Sz C vs ∧
    vs[1]? = some (.ref T) ∧ (f.hE.get? T = none ∧ ∀ p ∈ f.keep, T ≠ p.1) ∧ T ≠ e ∧ h.get? T = some oT ∧ oT.data = .fields ts ∧ ts[3]? = some fl
theorem FlyT.fly_here {f : Fx} {e : Addr} {C : Value} {h : Heap} {L : Addr} (hL : f.env.frame = some L) (k : FlyT f e C (rawInt L) h) : Fly f e C h := by
  obtain ⟨n, oe, vs, T, oT, ts, a1, a2, a3, a4, a5, a6, a7, a8, a9, a10⟩ := k
  exact ⟨n, oe, vs, a1, a2, a3, a4, .inr ⟨T, oT, ts, _, a5, a6, a7, a8, a9, a10, .inr ⟨L, hL, rfl⟩⟩⟩
section
variable {c : Cx} {f : Fx} {m : Loc} {H : AH} {E : Value → Shared → Prop} {s : Shared} {e : Addr} {C : Value} {Q : Unit → Shared → Prop}
theorem fly_not_frame (S : St c f m H s) {oe : Obj} {vs : Array Value} (he : s.heap.get? e = some oe) (hd : oe.data = .fields vs) : e ∉ f.fs := fun hm => by
  obtain ⟨_, o, ho, hnf⟩ := S.ff.mem hm
  rw [he] at ho; cases ho; exact hnf vs hd
theorem entry_ok (O : FrOk f) (S : St c f m H s) {oe : Obj} {vs : Array Value} {head : Value} {hadNext : Bool} (hn : f.hE.get? e = none ∧ ∀ p ∈ f.keep, e ≠ p.1) (he : s.heap.get? e = some oe) (hd : oe.data = .fields vs) (hsz : Sz C vs) (hC : oe.cls = C)
    (hQ : ∀ s', St c f m H s' → FlyT f e C (rawInt f.env.locals) s'.heap → Q () s') :
    wpAny c.M f.A (do let a ← frameOf f.env; let pl ← entryPlaceOf f.env.locals hadNext; let b ← EntryCells.newEntry head a .none (rawInt f.env.locals) .none pl; setField (.ref e) 1 b) Q E s := by
  obtain ⟨r, hr⟩ := O.head
  have ff := S.ff
  rw [hr] at ff
  refine wpAny_bind (wpAny_frameOf_fun (O.frames.trans (by rw [hr])) ff O.frame fun h₁ hs₁ => ?_)
  refine wpAny_bind (wpAny_entryPlaceOf fun pl hpl => ?_)
  unfold EntryCells.newEntry newFields
  refine wpAny_bind (wpAny_newObj_type ?_ (hpl.sizeOk5 _ _ _ _ _))
  rw [← hr] at hs₁
  obtain ⟨S₁, _⟩ := S.slots (s' := { s with heap := h₁ }) hs₁ rfl rfl
  have hene := fly_not_frame S he hd
  have he₁ : h₁.get? e = some oe := (hs₁.2.1 e hene).trans he
  refine wpAny_setField (Heap.get?_push_of_some _ he₁) hd hsz.1 ?_
  have hTe : h₁.objs.size ≠ e := Nat.ne_of_gt (Heap.lt_size he₁)
  have hTn : h₁.get? h₁.objs.size = none := by
    cases q : h₁.get? h₁.objs.size with
    | none => rfl
    | some o => exact absurd (Heap.lt_size q) (Nat.lt_irrefl _)
  have S₂ := S₁.grow (s' := { s with heap := h₁.push { cls := .type "traceback", dict := none, data := .fields ([head, .ref f.env.locals, .none, rawInt f.env.locals, .none] ++ (if pl.isEmpty then List.replicate 6 Value.none else pl)).toArray } }) (Grow.push _ _) rfl rfl
  have he₂ := Heap.get?_push_of_some { cls := .type "traceback", dict := none, data := .fields ([head, .ref f.env.locals, .none, rawInt f.env.locals, .none] ++ (if pl.isEmpty then List.replicate 6 Value.none else pl)).toArray } he₁
  obtain ⟨S₃, _⟩ := S₂.recd (s' := { s with heap := (h₁.push { cls := .type "traceback", dict := none, data := .fields ([head, .ref f.env.locals, .none, rawInt f.env.locals, .none] ++ (if pl.isEmpty then List.replicate 6 Value.none else pl)).toArray }).update e (Obj.mapFields (·.setIfInBounds 1 (Value.ref h₁.objs.size))) })
    he₂ hd hn.1 hn.2 (Heap.SameBut.update ..).extBut rfl rfl
  have hd₃ := Obj.data_mapFields hd (·.setIfInBounds 1 (Value.ref h₁.objs.size))
  have he₃ := Heap.get?_update_self (Obj.mapFields (·.setIfInBounds 1 (Value.ref h₁.objs.size))) he₂ (Obj.isFreed_of_fields hd₃)
  have hT₃ := (Heap.get?_update_other (h₁.push { cls := .type "traceback", dict := none, data := .fields ([head, .ref f.env.locals, .none, rawInt f.env.locals, .none] ++ (if pl.isEmpty then List.replicate 6 Value.none else pl)).toArray })
    (Obj.mapFields (·.setIfInBounds 1 (Value.ref h₁.objs.size))) (Ne.symm hTe)).trans (Heap.get?_push_size h₁ rfl)
  exact hQ _ S₃ ⟨hn, _, _, h₁.objs.size, _, _, he₃, (Obj.cls_mapFields _ _).trans hC, hd₃, ⟨by simpa using hsz.1, hsz.2.imp (fun h => by rw [Array.getElem?_setIfInBounds_ne (by decide)]; exact h) id⟩, by simp [hsz.1], ⟨S₁.old hTn, fun p hp q => by have := (S₁.kp p hp).1; rw [← q] at this; exact absurd (hTn.symm.trans this) (fun z => nomatch z)⟩, hTe, hT₃, rfl, by simp⟩
theorem note_ok (O : FrOk f) (S : St c f m H s) (F : Fly f e C s.heap) (hQ : ∀ s', St c f m H s' → FlyT f e C (rawInt f.env.locals) s'.heap → Q () s') : wpAny c.M f.A (noteFrame (.ref e) f.env) Q E s := by
  obtain ⟨hn, oe, vs, he, hC, hd, hsz, h1⟩ := F
  unfold noteFrame
  simp only [O.frame]
  rcases h1 with h1 | ⟨T, oT, ts, fl, h1, hTn, hTe, hT, hTd, h3, hfl⟩
  · refine wpAny_bind (wpAny_field he hd h1 ?_)
    rw [if_neg (by decide)]
    exact entry_ok O S hn he hd hsz hC hQ
  · refine wpAny_bind (wpAny_field he hd h1 ?_)
    rw [if_pos (show (Value.ref T != Value.none) = true from by simp)]
    refine wpAny_bind (wpAny_field hT hTd h3 ?_)
    by_cases hh : (fl == rawInt f.env.locals) = true
    · rw [if_pos hh]
      refine wpAny_pure (hQ s S ⟨hn, oe, vs, T, oT, ts, he, hC, hd, hsz, h1, hTn, hTe, hT, hTd, ?_⟩)
      rw [h3, beq_iff_eq.mp hh]
    · rw [if_neg hh]
      refine wpAny_bind (wpAny_setField hT hTd (Array.getElem?_eq_some_iff.mp h3).1 ?_)
      obtain ⟨S₁, _⟩ := S.recd (s' := { s with heap := s.heap.update T (Obj.mapFields (·.setIfInBounds 3 Value.none)) }) hT hTd hTn.1 hTn.2 (Heap.SameBut.update ..).extBut rfl rfl
      have he₁ : (s.heap.update T (Obj.mapFields (·.setIfInBounds 3 Value.none))).get? e = some oe := (Heap.get?_update_other _ _ hTe).trans he
      exact entry_ok O S₁ hn he₁ hd hsz hC hQ
theorem flight_ok (S : St c f m H s) {fl : Value} {fr : Option Addr} (F : FlyT f e C fl s.heap) (hQ : ∀ s', St c f m H s' → FlyT f e C (fr.elim .none fun x => rawInt x) s'.heap → Q () s') : wpAny c.M f.A (setFlight (.ref e) fr) Q E s := by
  obtain ⟨hn, oe, vs, T, oT, ts, he, hC, hd, hsz, h1, hTn, hTe, hT, hTd, h3⟩ := F
  unfold setFlight
  refine wpAny_bind (wpAny_field he hd h1 ?_)
  rw [if_pos (show (Value.ref T != Value.none) = true from by simp)]
  have hs3 := (Array.getElem?_eq_some_iff.mp h3).1
  refine wpAny_setField hT hTd hs3 ?_
  obtain ⟨S₁, _⟩ := S.recd (s' := { s with heap := s.heap.update T (Obj.mapFields (·.setIfInBounds 3 (fr.elim .none fun x => rawInt x))) }) hT hTd hTn.1 hTn.2 (Heap.SameBut.update ..).extBut rfl rfl
  have hd₃ := Obj.data_mapFields hTd (·.setIfInBounds 3 (fr.elim Value.none fun x => rawInt x))
  exact hQ _ S₁ ⟨hn, oe, vs, T, _, _, (Heap.get?_update_other _ _ hTe).trans he, hC, hd, hsz, h1, hTn, hTe, Heap.get?_update_self _ hT (Obj.isFreed_of_fields hd₃), hd₃, by simp [hs3]⟩
theorem leaving_ok (O : FrOk f) (S : St c f m H s) (F : Fly f e C s.heap) (hQ : ∀ s', St c f m H s' → FlyT f e C .none s'.heap → Q () s') : wpAny c.M f.A (leaving f.env (.ref e)) Q E s := by
  unfold leaving
  exact wpAny_bind (note_ok O S F fun s₁ S₁ F₁ => flight_ok S₁ F₁ hQ)
theorem noted_ok (O : FrOk f) (S : St c f m H s) (F : Fly f e C s.heap) (hE : ∀ s', St c f m H s' → FlyT f e C (rawInt f.env.locals) s'.heap → E (.ref e) s') : notedBy c.M f.A f.env E (.ref e) s := by
  unfold notedBy
  exact note_ok O S F hE
theorem cameBack_ok (O : FrOk f) (S : St c f m H s) {fl : Value} (F : FlyT f e C fl s.heap) (hE : ∀ s', St c f m H s' → Fly f e C s'.heap → E (.ref e) s') : cameBackBy c.M f.A f.env E (.ref e) s := by
  unfold cameBackBy
  obtain ⟨hn, oe, vs, T, oT, ts, he, hC, hd, hsz, h1, r⟩ := id F
  refine wpAny_bind (wpAny_field he hd h1 ?_)
  rw [if_neg (by simp)]
  rw [O.frame]
  exact flight_ok (fr := some f.env.locals) S F fun s' S' F' => hE s' S' (F'.fly_here O.frame)
end
end Mine
set_option maxRecDepth 100000
set_option linter.unusedVariables false
namespace Mine
open PySem
structure Room (k : Nat) (A : Around) : Prop where
  handled : A.handled = none
  depth : A.depth + 3 * k + 10 < recursionLimit
  units : A.units + 12 * k + 200 < cLine
theorem Room.deeper {k : Nat} {A : Around} (h : Room (k + 1) A) (env : Env) : Room k (A.deeper env) :=
  ⟨h.handled, by show A.depth + 1 + 3 * k + 10 < _; have := h.depth; exact om0 this, by show A.units + 3 + 12 * k + 200 < _; have := h.units; exact om1 this⟩
theorem Room.le {k j : Nat} {A : Around} (h : Room k A) (hj : j ≤ k) : Room j A :=
  ⟨h.handled, by have := h.depth; exact om2 hj this, by have := h.units; exact om3 hj this⟩
structure Ent (c : Cx) (frs : List Env) (H : AH) (s : Shared) : Prop where
  rep : Rep c H s.heap
  base : c.base.StaysIn s.heap
  hb : ∀ b o, c.base.get? b = some o → H b = none
  ff : s.heap.FunFrames c.base frs
  fh : ∀ a ∈ frs.filterMap (·.frame), H a = none
  big : ∀ a x, H a = some x → cStatics < a
  gens : s.gens = #[]
  os : s.os = c.os
structure Lft (c : Cx) (frs : List Env) (H : AH) (s : Shared) (H' : AH) (s' : Shared) : Prop where
  rep : Rep c H' s'.heap
  off : ∀ a o, s.heap.get? a = some o → H a = none → (a ∉ frs.filterMap (·.frame) → s'.heap.get? a = some o) ∧ (a ∈ frs.filterMap (·.frame) → ∃ sl, s'.heap.get? a = some { o with slots := sl })
  dom : ∀ a o, s.heap.get? a = some o → H a = none → H' a = none
  up : ∀ a, H a ≠ none → H' a ≠ none
  big : ∀ a x, H' a = some x → cStatics < a
  gens : s'.gens = #[]
  os : s'.os = c.os
def Gone (h : Heap) (e : Addr) (C : Value) (h' : Heap) : Prop :=
  h.get? e = none ∧ ∃ oe vs T oT ts, h'.get? e = some oe ∧ oe.cls = C ∧ oe.data = .fields vs ∧ Sz C vs ∧
    vs[1]? = some (.ref T) ∧ h.get? T = none ∧ T ≠ e ∧ h'.get? T = some oT ∧ oT.data = .fields ts ∧ ts[3]? = some .none
structure Fn (c : Cx) (k : Nat) (fv : Value) (args : List V) (H : AH) (Q : V → AH → Prop) (X : Value → AH → Prop) : Prop where
  mk ::
  run :
    ∀ A frs s vs, Room k A → A.frames = some frs → Ent c frs H s → IsAll s.heap args vs →
      codeAny c.M A (.call fv ⟨vs, []⟩) (fun r s' => ∃ H', Lft c frs H s H' s' ∧
        match r with
        | .ok (.ret v) => ∃ d, Is s'.heap d v ∧ Q d H'
        | .ok _ => False
        | .error x => ∃ C e, x = .ref e ∧ Gone s.heap e C s'.heap ∧ X C H') s
instance {c : Cx} {k : Nat} {fv : Value} {args : List V} {H : AH} {Q : V → AH → Prop} {X : Value → AH → Prop} : CoeFun (Fn c k fv args H Q X) (fun _ =>
    ∀ A frs s vs, Room k A → A.frames = some frs → Ent c frs H s → IsAll s.heap args vs →
      codeAny c.M A (.call fv ⟨vs, []⟩) (fun r s' => ∃ H', Lft c frs H s H' s' ∧
        match r with
        | .ok (.ret v) => ∃ d, Is s'.heap d v ∧ Q d H'
        | .ok _ => False
        | .error x => ∃ C e, x = .ref e ∧ Gone s.heap e C s'.heap ∧ X C H') s) := ⟨Fn.run⟩
section
variable {c : Cx} {f : Fx} {m : Loc} {H : AH} {s : Shared}
theorem St.ent (S : St c f m H s) : Ent c f.frs H s := ⟨S.rep, S.base, S.hb, S.ff, S.fh, S.big, S.gens, S.os⟩
theorem Ent.tk {frs : List Env} {H' : AH} {s' : Shared} (E : Ent c frs H s) (L : Lft c frs H s H' s') : Tk s.heap s'.heap := fun b o vs n e cl dt => by
  have hb : H b = none := by
    cases q : H b with
    | none => rfl
    | some x => refine e1a3 ((E.rep b x q).obj) fun o' g nt _ => ?_; rw [e] at g; cases g; exact absurd dt (nt _ _ cl)
  by_cases q : b ∈ frs.filterMap (·.frame)
  · obtain ⟨sl, z⟩ := (L.off b o e hb).2 q; exact ⟨_, z, cl, dt⟩
  · exact ⟨o, (L.off b o e hb).1 q, cl, dt⟩
theorem Lft.data {frs : List Env} {H' : AH} {s' : Shared} (L : Lft c frs H s H' s') {a : Addr} {o : Obj} (e : s.heap.get? a = some o) (h : H a = none) : ∃ sl, s'.heap.get? a = some { o with slots := sl } := by
  by_cases q : a ∈ frs.filterMap (·.frame)
  · exact (L.off a o e h).2 q
  · exact ⟨o.slots, (L.off a o e h).1 q⟩
theorem St.back (S : St c f m H s) {H' : AH} {s' : Shared} (L : Lft c f.frs H s H' s') : St c f m H' s' ∧ Tk s.heap s'.heap := by
  have t := S.ent.tk L
  refine ⟨⟨L.rep, fun b o e => ?_, S.bE, fun b o e => ?_, fun a o e q => ?_, fun a o e q => ?_, fun a q => L.up a (S.up a q), ?_, S.newL, ?_, fun x a e => ?_, S.apart, ?_, fun a q => ?_, L.big, fun p hp => ?_, L.gens, L.os⟩, t⟩
  · refine (L.off b o (S.base b o e) (S.hb b o e)).1 fun q => ?_
    have := (S.ff.mem q).1; rw [e] at this; cases this
  · exact L.dom b o (S.base b o e) (S.hb b o e)
  · have hH := S.dom a o e q
    obtain ⟨k1, k2⟩ := S.off a o e q
    refine ⟨fun n => (L.off a o (k1 n) hH).1 n, fun n => ?_⟩
    obtain ⟨sl, z⟩ := k2 n
    obtain ⟨sl', z'⟩ := (L.off a _ z hH).2 n
    exact ⟨sl', z'⟩
  · obtain ⟨k1, k2⟩ := S.off a o e q
    by_cases n : a ∈ f.fs
    · obtain ⟨sl, z⟩ := k2 n; exact L.dom a _ z (S.dom a o e q)
    · exact L.dom a _ (k1 n) (S.dom a o e q)
  · refine e1a2 (S.loc) fun mv rq19 k => ?_; obtain ⟨oL, es, ep, hL, r⟩ := rq19
    obtain ⟨sl, z⟩ := L.data hL S.trL
    refine ⟨mv, ⟨_, es, ep, z, r⟩, fun x d e => (k x d e).mono t fun a v ea w => ?_⟩
    refine e1a2 w fun o w1 w2 => ?_; clear w
    obtain ⟨sl, z⟩ := L.data w1 (S.cel x a ea).1
    exact ⟨_, z, w2⟩
  · refine e1a2 (S.loc) fun mv rq20 k => ?_; obtain ⟨oL, es, ep, hL, r⟩ := rq20
    exact L.dom _ _ hL S.trL
  · refine e0a4 (S.cel x a e) fun p q r rq21 => ?_; refine e2a2 rq21 fun ov o z zz => ?_; clear rq21
    obtain ⟨sl, z'⟩ := L.data z p
    exact ⟨L.dom a o z p, q, r, ov, _, z', zz⟩
  · refine funFrames_keep S.ff fun b hb o e hd => ?_
    obtain ⟨sl, z⟩ := L.data e (S.fh b hb)
    exact ⟨_, z, hd⟩
  · obtain ⟨_, o, e, _⟩ := S.ff.mem q
    exact L.dom a o e (S.fh a q)
  · obtain ⟨k1, vs, k2⟩ := S.kp p hp
    have hH : H p.1 = none := by
      cases z : H p.1 with
      | none => rfl
      | some y => refine e1a4 ((S.rep p.1 y z).obj) fun o' g' _ nf _ => ?_; rw [k1] at g'; cases g'; exact absurd k2 (nf vs)
    refine ⟨(L.off p.1 p.2 k1 hH).1 fun q => ?_, vs, k2⟩
    obtain ⟨_, o, ho, hnf⟩ := S.ff.mem q
    rw [k1] at ho; cases ho; exact hnf vs k2
theorem Gone.fly (S : St c f m H s) {e : Addr} {C : Value} {h' : Heap} (k : Gone s.heap e C h') : Fly f e C h' := by
  obtain ⟨n, oe, vs, T, oT, ts, a1, a2, a3, a4, a5, a6, a7, a8, a9, a10⟩ := k
  have kk : ∀ b, s.heap.get? b = none → ∀ p ∈ f.keep, b ≠ p.1 := fun b hb p hp q => by have := (S.kp p hp).1; rw [← q, hb] at this; cases this
  exact ⟨⟨S.old n, kk e n⟩, oe, vs, a1, a2, a3, a4, .inr ⟨T, oT, ts, .none, a5, ⟨S.old a6, kk T a6⟩, a7, a8, a9, a10, .inl rfl⟩⟩
theorem Fn.op {k : Nat} {fv : Value} {args : List V} {Q : V → AH → Prop} {X : Value → AH → Prop} (h : Fn c k fv args H Q X) (R : Room k f.A) (hf : f.A.frames = some f.frs) {vs : List Value} (S : St c f m H s) (i : IsAll s.heap args vs) :
    wpAny c.M f.A (call fv vs) (Good c f m Q s) (Thr c f m X) s := by
  refine wpAny_call (codeAny_mono (h f.A f.frs s vs R hf S.ent i) fun r s' z => ?_)
  refine e1a2 z fun H' L rq22 => ?_; clear z; have z := rq22; clear rq22
  obtain ⟨S', t⟩ := S.back L
  cases r with
  | error x => refine e2a3 z fun C e rq23 g q => ?_; clear z; obtain rfl := rq23; exact ⟨C, H', e, rfl, S', g.fly S, q⟩
  | ok fl => cases fl with
    | ret v => refine e1a2 z fun d i' q => ?_; clear z; exact ⟨t, d, H', i', S', q⟩
    | _ => exact z.elim
end
inductive Out where
  | next | brk | cont
  | ret (d : V)
  | exc (C : Value)
def FlowIs (h : Heap) : Flow → Out → Prop
  | .next, o => o = .next
  | .brk, o => o = .brk
  | .cont, o => o = .cont
  | .ret v, o => ∃ d, o = .ret d ∧ Is h d v
abbrev Ko := Out → Loc → AH → Prop
def ExOk (c : Cx) (f : Fx) (Q : Ko) (fl : Flow) (s' : Shared) : Prop := ∃ o m' H', FlowIs s'.heap fl o ∧ St c f m' H' s' ∧ Q o m' H'
def ExTh (c : Cx) (f : Fx) (Q : Ko) (x : Value) (s' : Shared) : Prop := ∃ C m' H' e, x = .ref e ∧ St c f m' H' s' ∧ Fly f e C s'.heap ∧ Q (.exc C) m' H'
structure Ex (c : Cx) (f : Fx) (sts : List Stmt) (m : Loc) (H : AH) (Q : Ko) : Prop where
  mk ::
  run :
    ∀ s, St c f m H s → wpAny c.M f.A (execs sts f.env) (ExOk c f Q) (ExTh c f Q) s
instance {c : Cx} {f : Fx} {sts : List Stmt} {m : Loc} {H : AH} {Q : Ko} : CoeFun (Ex c f sts m H Q) (fun _ =>
    ∀ s, St c f m H s → wpAny c.M f.A (execs sts f.env) (ExOk c f Q) (ExTh c f Q) s) := ⟨Ex.run⟩
structure Ex1 (c : Cx) (f : Fx) (st : Stmt) (m : Loc) (H : AH) (Q : Ko) : Prop where
  mk ::
  run :
    ∀ s, St c f m H s → wpAny c.M f.A (exec st f.env) (ExOk c f Q) (ExTh c f Q) s
instance {c : Cx} {f : Fx} {st : Stmt} {m : Loc} {H : AH} {Q : Ko} : CoeFun (Ex1 c f st m H Q) (fun _ =>
    ∀ s, St c f m H s → wpAny c.M f.A (exec st f.env) (ExOk c f Q) (ExTh c f Q) s) := ⟨Ex1.run⟩
def Fin (Q : V → AH → Prop) (X : Value → AH → Prop) : Ko := fun o _ H => match o with
  | .ret d => Q d H
  | .next => Q .none H
  | .exc C => X C H
  | _ => False
section
variable {c : Cx} {f : Fx} {m : Loc} {H : AH}
theorem Thr.ex {X : Value → AH → Prop} {Q : Ko} {x : Value} {s' : Shared} (h : Thr c f m X x s') (k : ∀ C H', X C H' → Q (.exc C) m H') : ExTh c f Q x s' :=
  let ⟨C, H', e, p, S, F, q⟩ := h; ⟨C, m, H', e, p, S, F, k C H' q⟩
theorem ExTh.mono {Q Q' : Ko} {x : Value} {s' : Shared} (h : ExTh c f Q x s') (k : ∀ C m H, Q (.exc C) m H → Q' (.exc C) m H) : ExTh c f Q' x s' :=
  let ⟨C, m', H', e, p, S, F, q⟩ := h; ⟨C, m', H', e, p, S, F, k C m' H' q⟩
theorem Ex_nil {Q : Ko} (q : Q .next m H) : Ex c f [] m H Q := .mk fun s S => wpAny_execs_nil ⟨.next, m, H, rfl, S, q⟩
theorem Ex_cons {st : Stmt} {rest : List Stmt} {Q Q₁ : Ko} (h : Ex1 c f st m H Q₁) (hn : ∀ m' H', Q₁ .next m' H' → Ex c f rest m' H' Q) (hb : ∀ m' H', Q₁ .brk m' H' → Q .brk m' H') (hc : ∀ m' H', Q₁ .cont m' H' → Q .cont m' H')
    (hr : ∀ d m' H', Q₁ (.ret d) m' H' → Q (.ret d) m' H') (hx : ∀ C m' H', Q₁ (.exc C) m' H' → Q (.exc C) m' H') : Ex c f (st :: rest) m H Q := .mk fun s S => by
  refine wpAny_execs_cons (wpAny_mono (h s S) (fun fl s' z => ?_) fun x s' z => z.mono hx)
  refine e3a3 z fun o m' H' fi S' q => ?_; clear z
  cases fl with
  | next => cases fi; exact hn m' H' q s' S'
  | brk => cases fi; exact ⟨_, m', H', rfl, S', hb m' H' q⟩
  | cont => cases fi; exact ⟨_, m', H', rfl, S', hc m' H' q⟩
  | ret v => refine e1a2 fi fun d rq24 i => ?_; clear fi; obtain rfl := rq24; exact ⟨_, m', H', ⟨d, rfl, i⟩, S', hr d m' H' q⟩
def Then (c : Cx) (f : Fx) (rest : List Stmt) (Q : Ko) : Ko := fun o m H => match o with
  | .next => Ex c f rest m H Q
  | o => Q o m H
theorem Ex_seq {st : Stmt} {rest : List Stmt} {Q : Ko} (h : Ex1 c f st m H (Then c f rest Q)) : Ex c f (st :: rest) m H Q :=
  Ex_cons h (fun _ _ z => z) (fun _ _ z => z) (fun _ _ z => z) (fun _ _ _ z => z) (fun _ _ _ z => z)
theorem store_ok {x : Str} {v : Value} {d : V} {s : Shared} {E : Value → Shared → Prop} {Q : Unit → Shared → Prop} (S : St c f m H s) (i : Is s.heap d v) (hx : (f.env.kindOf x = some .local) ∨ (f.env.kindOf x = some .cell ∧ (f.env.cells.lookup x).isSome = true))
    (hfn : f.fn = true) (hk : f.env.scope.kind = .function) (hQ : ∀ s', St c f (m.set x d) H s' → Tk s.heap s'.heap → (∀ b o, b ≠ f.env.locals → (∀ x a, f.env.cells.lookup x = some a → b ≠ a) → s.heap.get? b = some o → s'.heap.get? b = some o) → Q () s') : wpAny c.M f.A (storeName f.env x v) Q E s := by
  rcases hx with hl | ⟨hl, hs⟩
  · refine e1a2 (S.loc) fun mv n k => ?_
    refine wpAny_storeName_local hl n (fun h' hn hs => ?_) (by rw [hk]; rfl)
    have : ∀ mv, s.heap.Ns f.env.locals mv → h'.Ns f.env.locals (fun y => if y = x then some v else mv y) := fun mv' n' => by
      have e : mv = mv' := by
        refine e3a4 n fun o1 es1 ep1 g1 d1 _ e1 => ?_; clear n
        refine e3a4 n' fun o2 es2 ep2 g2 d2 _ e2 => ?_; clear n'
        rw [g1] at g2; cases g2; rw [d1] at d2; cases d2
        funext y; rw [← e1 y, ← e2 y]
      rw [← e]; exact hn
    obtain ⟨S', t⟩ := S.store (s' := { s with heap := h', toks := s.toks + 1 }) hfn hl hs this rfl rfl i
    exact hQ _ S' t fun b o n _ e => hs.extBut b o n e
  · obtain ⟨a, ha⟩ := Option.isSome_iff_exists.mp hs
    refine e0a4 (S.cel x a ha) fun _ _ _ rq25 => ?_; obtain ⟨ov, hc⟩ := rq25
    refine wpAny_storeName_cell hk hl ha hc fun h' hn hs => ?_
    obtain ⟨S', t⟩ := S.storeC (s' := { s with heap := h' }) hfn hl ha hs hn rfl rfl i
    exact hQ _ S' t fun b o _ n e => hs.extBut b o (n x a ha) e
theorem Ex_assign {x : Str} {p q : Pos} {e : Expr} {rest : List Stmt} {Q : Ko} (h : Ev c f e m H (fun d H' => Ex c f rest (m.set x d) H' Q) (fun C H' => Q (.exc C) m H'))
    (hx : (f.env.kindOf x = some .local) ∨ (f.env.kindOf x = some .cell ∧ (f.env.cells.lookup x).isSome = true)) (hfn : f.fn = true := by rfl) (hk : f.env.scope.kind = .function := by rfl)
    (hs : swapsWith e (some (.Name x p)) q.line f.env = pure false := by rfl) : Ex c f (.Assign [.Name x p] e q :: rest) m H Q := .mk fun s S => by
  refine wpAny_execs_cons (wpAny_Assign_Name (wpAny_mono (h s S) (fun v s₁ z => ?_) fun x s' z => z.ex fun _ _ y => y) hs)
  obtain ⟨t, d, H', i, S₁, q⟩ := z
  exact store_ok S₁ i hx hfn hk fun s' S' _ _ => q s' S'
theorem Ex_ret {e : Expr} {p : Pos} {rest : List Stmt} {Q : Ko} (h : Ev c f e m H (fun d H' => Q (.ret d) m H') (fun C H' => Q (.exc C) m H')) : Ex c f (.Return (some e) p :: rest) m H Q := .mk fun s S => by
  refine wpAny_execs_cons (wpAny_Return_some (wpAny_mono (h s S) (fun v s₁ z => ?_) fun x s' z => z.ex fun _ _ y => y))
  obtain ⟨t, d, H', i, S₁, q⟩ := z
  exact ⟨_, m, H', ⟨d, rfl, i⟩, S₁, q⟩
theorem Ex_expr {e : Expr} {p : Pos} {rest : List Stmt} {Q : Ko} (h : Ev c f e m H (fun d H' => (∀ h v, Is h d v → ∀ a, v ≠ .ref a) ∧ Ex c f rest m H' Q) (fun C H' => Q (.exc C) m H'))
    (hi : interactive f.env = false := by rfl) (hs : swapsWith e none p.line f.env = pure false := by rfl) : Ex c f (.Expr e p :: rest) m H Q := .mk fun s S => by
  refine wpAny_execs_cons (wpAny_Expr (wpAny_mono (h s S) (fun v s₁ z => ?_) fun x s' z => z.ex fun _ _ y => y) hi hs)
  obtain ⟨t, d, H', i, S₁, n, q⟩ := z
  have := n _ v i
  cases v <;> first | exact q s₁ S₁ | exact absurd rfl (this _)
end
end Mine
set_option maxRecDepth 100000
set_option linter.unusedVariables false
namespace Mine
open PySem
abbrev mkF (A : Around) (L : Addr) (fd : FuncData) (fa : Addr) (frs : List Env) (hE : Heap) (H : AH) : Fx :=
  { A := A, env := callEnvC fd L fa, frs := callEnvC fd L fa :: frs, hE := hE, HE := H, keep := [], fn := true }
def locOf (names : List Str) (args : List V) : Loc := fun x => (names.zip args).lookup x
theorem lookup_mem {α : Type} : ∀ {l : List (Str × α)} {x : Str} {a : α}, l.lookup x = some a → (x, a) ∈ l
  | [], _, _, e => by cases e
  | (y, b) :: r, x, a, e => by
    rw [List.lookup_cons] at e
    by_cases q : x == y
    · simp only [q] at e; cases e; rw [beq_iff_eq.mp q]; exact .head _
    · simp only [q] at e; exact .tail _ (lookup_mem e)
theorem zip_is {h : Heap} : ∀ {names : List Str} {ds : List V} {vs : List Value} {x : Str} {d : V}, IsAll h ds vs → (names.zip ds).lookup x = some d → ∃ v, (x, v) ∈ names.zip vs ∧ Is h d v
  | [], _, _, _, _, _, e => by cases e
  | n :: ns, [], _, _, _, _, e => by cases e
  | n :: ns, d :: ds, _, x, d', i, e => by
    simp only [IsAll] at i
    refine e2a3 i fun v r rq26 i1 i2 => ?_; clear i; obtain rfl := rq26
    rw [List.zip_cons_cons, List.lookup_cons] at e
    by_cases q : x == n
    · simp only [q] at e; cases e; exact ⟨v, by rw [beq_iff_eq.mp q]; exact .head _, i1⟩
    · simp only [q] at e
      refine e1a2 (zip_is i2 e) fun w a b => ?_
      exact ⟨w, .tail _ a, b⟩
theorem bindL_out {K : Str → Option NameKind} : ∀ {binds : List (Str × Value)} {m0 : Str → Option Value} {x : Str}, x ∉ binds.map (·.1) → bindL K binds m0 x = m0 x
  | [], _, _, _ => rfl
  | (n, v) :: r, m0, x, h => by
    simp only [List.map_cons, List.mem_cons, not_or] at h
    unfold bindL
    rw [bindL_out h.2]
    split
    · exact if_neg h.1
    · rfl
theorem bindL_in {K : Str → Option NameKind} : ∀ {binds : List (Str × Value)} {m0 : Str → Option Value} {x : Str} {v : Value}, (binds.map (·.1)).Nodup → (x, v) ∈ binds → K x = some .local → bindL K binds m0 x = some v
  | (n, u) :: r, m0, x, v, nd, h, hk => by
    rw [List.map_cons, List.nodup_cons] at nd
    unfold bindL
    cases h with
    | head => rw [bindL_out nd.1, if_pos hk, if_pos rfl]
    | tail _ h => exact bindL_in nd.2 h hk
theorem bindC_out {K : Str → Option NameKind} : ∀ {binds : List (Str × Value)} {m0 : Str → Option Value} {x : Str}, x ∉ binds.map (·.1) → bindC K binds m0 x = m0 x
  | [], _, _, _ => rfl
  | (n, v) :: r, m0, x, h => by
    simp only [List.map_cons, List.mem_cons, not_or] at h
    unfold bindC
    rw [bindC_out h.2]
    split
    · rfl
    · exact if_neg h.1
theorem bindC_in {K : Str → Option NameKind} : ∀ {binds : List (Str × Value)} {m0 : Str → Option Value} {x : Str} {v : Value}, (binds.map (·.1)).Nodup → (x, v) ∈ binds → K x ≠ some .local → bindC K binds m0 x = some v
  | (n, u) :: r, m0, x, v, nd, h, hk => by
    rw [List.map_cons, List.nodup_cons] at nd
    unfold bindC
    cases h with
    | head => rw [bindC_out nd.1, if_neg hk, if_pos rfl]
    | tail _ h => exact bindC_in nd.2 h hk
theorem map_fst_zip {α β : Type} : ∀ {l : List α} {r : List β}, l.length = r.length → (l.zip r).map (·.1) = l
  | [], [], _ => rfl
  | a :: l, b :: r, h => by simp only [List.zip_cons_cons, List.map_cons]; rw [map_fst_zip (by simpa using h)]
  | [], _ :: _, h => by simp at h
  | _ :: _, [], h => by simp at h
theorem pair_apart : ∀ {l : List (Str × Addr)} {x y : Str} {a : Addr}, l.Pairwise (fun x y => x.2 ≠ y.2) → (x, a) ∈ l → (y, a) ∈ l → x = y
  | (n, b) :: r, x, y, a, p, hx, hy => by
    rw [List.pairwise_cons] at p
    cases hx with
    | head => cases hy with
      | head => rfl
      | tail _ hy => exact absurd rfl (p.1 (y, b) hy)
    | tail _ hx => cases hy with
      | head => exact absurd rfl (p.1 (x, b) hx)
      | tail _ hy => exact pair_apart p.2 hx hy
theorem Fn_defR {c : Cx} {k : Nat} {fa : Addr} {o : Obj} {fd : FuncData} {body : List Stmt} {names : List Str} {args : List V} {H : AH} {Q : V → AH → Prop} {X : Value → AH → Prop}
    (hlim : c.base.NoLimit) (ho : c.base.get? fa = some o) (hd : o.data = .func fd) (hbody : fd.body = .stmts body) (hcode : c.base.CodeRec fd.code fd.qualname) (hclo : fd.closure = [])
    (hbind : ∀ vs, vs.length = args.length → bindArgs fd ⟨vs, []⟩ = pure (names.zip vs)) (hlen : names.length = args.length) (hnd : names.Nodup)
    (hkind : ∀ n, ∀ x ∈ names, fd.scope.names.lookup x = some .local ∨ (fd.scope.names.lookup x = some .cell ∧ ((cellsFrom n fd.scope.names []).lookup x).isSome = true))
    (hco : fd.scope.isCoroutine = false) (hgen : fd.scope.isGenerator = false) (hk : fd.scope.kind = .function)
    (h : ∀ A L frs hE, Rep c H hE → Room k A → FrOk (mkF A L fd fa frs hE H) → Ex c (mkF A L fd fa frs hE H) body (locOf names args) H (Fin Q X)) : Fn c (k + 1) (.ref fa) args H Q X := by
  refine .mk ?_
  intro A frs s vs R hf E i
  have hvl := i.length
  have hzl : (names.zip vs).map (·.1) = names := map_fst_zip (hlen.trans hvl.symm)
  refine codeAny_call_cells (by have := R.depth; exact om4 this) (E.base _ _ ho) hd (hlim.keeps E.base) (hcode.keeps E.base) hbody (hbind vs hvl) hclo
    (fun x hx => hkind _ x.1 (by rw [← hzl]; exact List.mem_map_of_mem hx)) (fun s₁ x => ?_) hco hgen hk
  -- the frame
  have hL : s.heap.get? s.heap.objs.size = none := by
    cases q : s.heap.get? s.heap.objs.size with
    | none => rfl
    | some o => exact absurd (Heap.lt_size q) (Nat.lt_irrefl _)
  have hfree : ∀ a, s.heap.objs.size ≤ a → s.heap.get? a = none := fun a q => by
    cases z : s.heap.get? a with
    | none => rfl
    | some o => exact absurd (Heap.lt_size z) (Nat.not_lt.mpr q)
  have hH : ∀ a, s.heap.get? a = none → H a = none := fun a q => by
    cases z : H a with
    | none => rfl
    | some y => refine e1a2 ((E.rep a y z).obj) fun o' g _ => ?_; rw [q] at g; cases g
  refine e2a2 (x.done) fun h₁ tk rq27 _ => ?_; obtain rfl := rq27
  have g : Grow s.heap h₁ := x.toInCall.keep
  have ix := i.tk g.tk
  have hff : h₁.FunFrames c.base (callEnvC fd s.heap.objs.size fa :: frs) := by
    refine .cons (by show fd.scope.kind ≠ .module; rw [hk]; decide) rfl x.toInCall.ns ?_ (E.ff.of_keeps fun b o e _ => ⟨o, g b o e, rfl⟩)
    show c.base.get? s.heap.objs.size = none
    cases q : c.base.get? s.heap.objs.size with
    | none => rfl
    | some o =>
      have h2 : s.heap.get? s.heap.objs.size = some o := E.base _ _ q
      rw [hL] at h2; cases h2
  have S : St c (mkF (A.deeper (callEnvC fd s.heap.objs.size fa)) s.heap.objs.size fd fa frs s.heap H) (locOf names args) H { s with heap := h₁, toks := tk } := by
    refine ⟨fun a y e => (E.rep a y e).keep g.tk (fun o => g a o), fun b o e => g b o (E.base b o e), E.base, E.hb, fun a o e q => ⟨fun _ => g a o e, fun _ => ⟨o.slots, g a o e⟩⟩, fun a o e q => q, fun a q => q,
      ⟨_, x.toInCall.ns, fun y d e => ?_⟩, (fun _ => hL), hH _ hL, fun y a e => ?_, fun y z a ey ez => pair_apart x.apart (lookup_mem ey) (lookup_mem ez), hff, fun a q => ?_, E.big, (fun p hp => nomatch hp), E.gens, E.os⟩
    · refine e1a2 (zip_is ix e) fun v hm iv => ?_
      have hy : y ∈ names := by rw [← hzl]; exact List.mem_map_of_mem (f := (·.1)) hm
      rcases hkind (s.heap.objs.size + 1) y hy with q | ⟨q, qs⟩
      · exact .inl ⟨q, v, bindL_in (by rw [hzl]; exact hnd) hm q, iv⟩
      · obtain ⟨a, ha⟩ := Option.isSome_iff_exists.mp qs
        have hc := x.cell y a ha
        rw [bindC_in (v := v) (by rw [hzl]; exact hnd) hm (by show fd.scope.names.lookup y ≠ _; rw [q]; exact fun z => nomatch z)] at hc
        exact .inr ⟨.inl q, a, v, ha, hc, iv⟩
    · have hab : s.heap.objs.size < a := x.above y a (lookup_mem e)
      exact ⟨hH a (hfree a (Nat.le_of_lt hab)), Nat.ne_of_gt hab, fun _ _ => hfree a (Nat.le_of_lt hab), _, x.cell y a e⟩
    · have q' : a ∈ s.heap.objs.size :: frs.filterMap (·.frame) := by simpa only [Fx.fs, mkF, callEnvC, newEnv, List.filterMap_cons] using q
      cases q' with
      | head => exact hH _ hL
      | tail _ q' => exact E.fh a q'
  have O : FrOk (mkF (A.deeper (callEnvC fd s.heap.objs.size fa)) s.heap.objs.size fd fa frs s.heap H) := ⟨Around.frames_deeper hf, ⟨_, rfl⟩, rfl, hk⟩
  have lft : ∀ {m' : Loc} {H' : AH} {s' : Shared}, St c (mkF (A.deeper (callEnvC fd s.heap.objs.size fa)) s.heap.objs.size fd fa frs s.heap H) m' H' s' → Lft c frs H s H' s' := fun S' => by
    refine ⟨S'.rep, fun a o e q => ?_, S'.dom, S'.up, S'.big, S'.gens, S'.os⟩
    have ne : a ≠ s.heap.objs.size := fun z => by rw [z, hL] at e; cases e
    have fsx : ∀ b, b ∈ (mkF (A.deeper (callEnvC fd s.heap.objs.size fa)) s.heap.objs.size fd fa frs s.heap H).fs ↔ b = s.heap.objs.size ∨ b ∈ frs.filterMap (·.frame) := fun b => by
      simp only [Fx.fs, callEnvC, newEnv, List.filterMap_cons, List.mem_cons]
    obtain ⟨k1, k2⟩ := S'.off a o e q
    exact ⟨fun n => k1 fun z => ((fsx a).mp z).elim ne n, fun n => k2 ((fsx a).mpr (.inr n))⟩
  refine wpAny_mono (h _ _ _ _ E.rep (R.deeper _) O _ S) (fun fl s' z => ?_) fun y s' z => ?_
  · refine e3a3 z fun o' m' H' fi S' q => ?_; clear z
    refine ⟨H', lft S', ?_⟩
    cases fl with
    | next => cases fi; exact ⟨.none, rfl, q⟩
    | brk => cases fi; exact q.elim
    | cont => cases fi; exact q.elim
    | ret v => refine e1a2 fi fun d rq28 iv => ?_; clear fi; obtain rfl := rq28; exact ⟨d, iv, q⟩
  · refine e4a4 z fun C m' H' e rq29 S' F q => ?_; clear z; obtain rfl := rq29
    refine leaving_ok O S' F fun s'' S'' F'' => ⟨H', lft S'', C, e, rfl, ?_, q⟩
    obtain ⟨n, oe, vs, T, oT, ts, a1, a2, a3, a4, a5, a6, r⟩ := F''
    exact ⟨n.1, oe, vs, T, oT, ts, a1, a2, a3, a4, a5, a6.1, r⟩
theorem Fn_def {c : Cx} {k : Nat} {fa : Addr} {o : Obj} {fd : FuncData} {body : List Stmt} {names : List Str} {args : List V} {H : AH} {Q : V → AH → Prop} {X : Value → AH → Prop}
    (hlim : c.base.NoLimit) (ho : c.base.get? fa = some o) (hd : o.data = .func fd) (hbody : fd.body = .stmts body) (hcode : c.base.CodeRec fd.code fd.qualname) (hclo : fd.closure = [])
    (hbind : ∀ vs, vs.length = args.length → bindArgs fd ⟨vs, []⟩ = pure (names.zip vs)) (hlen : names.length = args.length) (hnd : names.Nodup)
    (hkind : ∀ n, ∀ x ∈ names, fd.scope.names.lookup x = some .local ∨ (fd.scope.names.lookup x = some .cell ∧ ((cellsFrom n fd.scope.names []).lookup x).isSome = true))
    (hco : fd.scope.isCoroutine = false) (hgen : fd.scope.isGenerator = false) (hk : fd.scope.kind = .function)
    (h : ∀ A L frs hE, Room k A → FrOk (mkF A L fd fa frs hE H) → Ex c (mkF A L fd fa frs hE H) body (locOf names args) H (Fin Q X)) : Fn c (k + 1) (.ref fa) args H Q X :=
  Fn_defR hlim ho hd hbody hcode hclo hbind hlen hnd hkind hco hgen hk fun A L frs hE _ => h A L frs hE
def GN (c : Cx) (x : Str) (v : Value) : Prop := c.mg x = some v ∨ (c.mg x = none ∧ c.mb x = some v)
structure CxOk (c : Cx) : Prop where
  g : c.base.Ns mainGlobals c.mg
  b : c.base.Ns builtinsNs c.mb
  lim : c.base.NoLimit
section
variable {c : Cx} {f : Fx} {m : Loc} {H : AH} {X : Value → AH → Prop}
theorem Ev_glob {x : Str} {p : Pos} {v : Value} {Q : V → AH → Prop} (K : CxOk c) (hx : GN c x v) (q : Q (.raw v) H) (hg : f.env.globals = mainGlobals := by rfl) (hb : f.env.builtins = builtinsNs := by rfl)
    (hk : f.env.scope.kind = .function := by rfl) (hn : f.env.kindOf x = some .globalImplicit := by rfl) (hd : (x == ("__debug__" : Str)) = false := by decide) : Ev c f (.Name x p) m H Q X := .mk fun s S => by
  refine Calls.Name_function_global hk hn ?_ hd
  rcases hx with e | ⟨e1, e2⟩
  · exact Calls.loadGlobal_global (by rw [hg]; exact K.g.keeps S.base) e ⟨Tk.refl _, .raw v, H, rfl, S, q⟩
  · exact Calls.loadGlobal_builtin (by rw [hg]; exact K.g.keeps S.base) e1 (by rw [hb]; exact K.b.keeps S.base) e2 ⟨Tk.refl _, .raw v, H, rfl, S, q⟩
structure Evs (c : Cx) (f : Fx) (es : List Expr) (p : Pos) (m : Loc) (H : AH) (Q : List V → AH → Prop) (X : Value → AH → Prop) : Prop where
  mk ::
  run :
    ∀ s, St c f m H s → wpAny c.M f.A (spliced (backTo p (starEach es f.env))) (fun vs s' => Tk s.heap s'.heap ∧ ∃ ds H', IsAll s'.heap ds vs ∧ St c f m H' s' ∧ Q ds H') (Thr c f m X) s
instance {c : Cx} {f : Fx} {es : List Expr} {p : Pos} {m : Loc} {H : AH} {Q : List V → AH → Prop} {X : Value → AH → Prop} : CoeFun (Evs c f es p m H Q X) (fun _ =>
    ∀ s, St c f m H s → wpAny c.M f.A (spliced (backTo p (starEach es f.env))) (fun vs s' => Tk s.heap s'.heap ∧ ∃ ds H', IsAll s'.heap ds vs ∧ St c f m H' s' ∧ Q ds H') (Thr c f m X) s) := ⟨Evs.run⟩
theorem Evs_nil {p : Pos} {Q : List V → AH → Prop} (q : Q [] H) : Evs c f [] p m H Q X := .mk fun s S => wpAny_items_nil ⟨Tk.refl _, [], H, isAll_nil _, S, q⟩
theorem Evs_cons {p : Pos} {e : Expr} {es : List Expr} {Q : List V → AH → Prop} (h : Ev c f e m H (fun d H₁ => Evs c f es p m H₁ (fun ds H₂ => Q (d :: ds) H₂) X) X)
    (he : starEach (e :: es) f.env = (false, eval e f.env) :: starEach es f.env := by rfl) : Evs c f (e :: es) p m H Q X := .mk fun s S =>
  wpAny_items_cons (wpAny_mono (h s S) (fun v s₁ ⟨t₁, d, H₁, i₁, S₁, q₁⟩ => wpAny_mono (q₁ s₁ S₁) (fun vs s₂ ⟨t₂, ds, H₂, i₂, S₂, q₂⟩ => ⟨t₁.trans t₂, d :: ds, H₂, isAll_cons (i₁.tk t₂) i₂, S₂, q₂⟩) fun _ _ x => x) fun _ _ x => x) he
theorem Ev_call {x : Str} {p₁ p : Pos} {e : Expr} {es : List Expr} {k : Nat} {fa : Addr} {o : Obj} {fd : FuncData} {Q : V → AH → Prop} (ho : c.base.get? fa = some o) (hd : o.data = .func fd) (R : Room k f.A) (hf : f.A.frames = some f.frs)
    (h : Ev c f (.Name x p₁) m H (fun d H' => d = .ref fa ∧ Evs c f (e :: es) p m H' (fun ds H'' => Fn c k (.ref fa) ds H'' Q X) X) X)
    (he : starEach (e :: es) f.env = (false, eval e f.env) :: starEach es f.env := by rfl) : Ev c f (.Call (.Name x p₁) (e :: es) [] p) m H Q X := .mk fun s S => by
  refine PyProof.Rows.Call_ (wpAny_mono (h s S) (fun v s₁ z => ?_) fun _ _ x => x)
  obtain ⟨t₁, d, H₁, i₁, S₁, rfl, q₁⟩ := z
  obtain rfl : v = .ref fa := i₁
  refine PyProof.Rows.callWith_def hd (wpAny_mono (q₁ s₁ S₁) (fun vs s₂ z => ?_) fun _ _ x => x) he
  obtain ⟨t₂, ds, H₂, i₂, S₂, q₂⟩ := z
  exact ⟨S₂.base _ _ ho, wpAny_mono (q₂.op R hf S₂ i₂) (fun v s₃ ⟨t₃, r⟩ => ⟨t₁.trans (t₂.trans t₃), r⟩) fun _ _ x => x⟩
end
end Mine
set_option maxRecDepth 100000
set_option linter.unusedVariables false
namespace Mine
open PySem
section
variable {c : Cx} {f : Fx} {m : Loc} {H : AH}
structure Ts (c : Cx) (f : Fx) (e : Expr) (m : Loc) (H : AH) (Q : Bool → AH → Prop) (X : Value → AH → Prop) : Prop where
  mk ::
  run :
    ∀ s, St c f m H s → wpAny c.M f.A (isTrue e f.env (eval e f.env)) (fun b s' => ∃ H', St c f m H' s' ∧ Q b H') (Thr c f m X) s
instance {c : Cx} {f : Fx} {e : Expr} {m : Loc} {H : AH} {Q : Bool → AH → Prop} {X : Value → AH → Prop} : CoeFun (Ts c f e m H Q X) (fun _ =>
    ∀ s, St c f m H s → wpAny c.M f.A (isTrue e f.env (eval e f.env)) (fun b s' => ∃ H', St c f m H' s' ∧ Q b H') (Thr c f m X) s) := ⟨Ts.run⟩
structure Tl (c : Cx) (f : Fx) (op : BoolOp) (es : List Expr) (m : Loc) (H : AH) (Q : Bool → AH → Prop) (X : Value → AH → Prop) : Prop where
  mk ::
  run :
    ∀ s, St c f m H s → wpAny c.M f.A (allTrue op es f.env) (fun b s' => ∃ H', St c f m H' s' ∧ Q b H') (Thr c f m X) s
instance {c : Cx} {f : Fx} {op : BoolOp} {es : List Expr} {m : Loc} {H : AH} {Q : Bool → AH → Prop} {X : Value → AH → Prop} : CoeFun (Tl c f op es m H Q X) (fun _ =>
    ∀ s, St c f m H s → wpAny c.M f.A (allTrue op es f.env) (fun b s' => ∃ H', St c f m H' s' ∧ Q b H') (Thr c f m X) s) := ⟨Tl.run⟩
variable {Q : Bool → AH → Prop} {X : Value → AH → Prop}
theorem Ts.mono {e : Expr} {Q' : Bool → AH → Prop} {X' : Value → AH → Prop} (h : Ts c f e m H Q X) (k : ∀ b H, Q b H → Q' b H) (kx : ∀ C H, X C H → X' C H) : Ts c f e m H Q' X' :=
  .mk fun s S => wpAny_mono (h s S) (fun _ _ ⟨H', S', q⟩ => ⟨H', S', k _ _ q⟩) fun _ _ g => g.mono kx
theorem Ts_cmp {l r : Expr} {op : CmpOp} {p : Pos} (h : Ev c f l m H (fun d₁ H₁ => Ev c f r m H₁ (fun d₂ H₂ => Op2 c f (compareOp op) d₁ d₂ m H₂ (fun d H₃ => ∃ b, d = .bool b ∧ Q b H₃) X) X) X)
    (hm : behindInMarks op r = false := by with_unfolding_all rfl) : Ts c f (.Compare l [op] [r] p) m H Q X := .mk fun s S =>
  wpAny_isTrue_Compare1 (wpAny_mono (h s S) (fun v₁ s₁ ⟨t₁, d₁, H₁, i₁, S₁, q₁⟩ => wpAny_mono (q₁ s₁ S₁) (fun v₂ s₂ ⟨t₂, d₂, H₂, i₂, S₂, q₂⟩ =>
    wpAny_mono (q₂ s₂ v₁ v₂ S₂ (i₁.tk t₂) i₂) (fun v s₃ ⟨t₃, d, H₃, i₃, S₃, b, e, q₃⟩ => by
      subst e; obtain rfl : v = .bool b := i₃; exact wpAny_truthy_bool ⟨H₃, S₃, q₃⟩) fun _ _ x => x) fun _ _ x => x) fun _ _ x => x) hm
theorem Ts_not {e : Expr} {p : Pos} (h : Ts c f e m H (fun b H' => Q (!b) H') X) : Ts c f (.UnaryOp .Not e p) m H Q X := .mk fun s S =>
  wpAny_isTrue_Not (wpAny_mono (h s S) (fun b s' z => z) fun _ _ x => x)
theorem Ts_bool {op : BoolOp} {es : List Expr} {p : Pos} (h : Tl c f op es m H Q X) : Ts c f (.BoolOp op es p) m H Q X := .mk fun s S => wpAny_isTrue_BoolOp (h s S)
theorem Tl_and_nil (q : Q true H) : Tl c f .And [] m H Q X := .mk fun s S => wpAny_allTrue_And_nil ⟨H, S, q⟩
theorem Tl_or_nil (q : Q false H) : Tl c f .Or [] m H Q X := .mk fun s S => wpAny_allTrue_Or_nil ⟨H, S, q⟩
theorem Tl_and {e : Expr} {es : List Expr} (h : Ts c f e m H (fun b H' => (b = true → Tl c f .And es m H' Q X) ∧ (b = false → Q false H')) X) : Tl c f .And (e :: es) m H Q X := .mk fun s S =>
  wpAny_allTrue_And_cons (wpAny_mono (h s S) (fun b s₁ ⟨H₁, S₁, q₁, q₂⟩ => by
    cases b with
    | true => exact q₁ rfl s₁ S₁
    | false => exact ⟨H₁, S₁, q₂ rfl⟩) fun _ _ x => x)
theorem Tl_or {e : Expr} {es : List Expr} (h : Ts c f e m H (fun b H' => (b = false → Tl c f .Or es m H' Q X) ∧ (b = true → Q true H')) X) : Tl c f .Or (e :: es) m H Q X := .mk fun s S =>
  wpAny_allTrue_Or_cons (wpAny_mono (h s S) (fun b s₁ ⟨H₁, S₁, q₁, q₂⟩ => by
    cases b with
    | false => exact q₁ rfl s₁ S₁
    | true => exact ⟨H₁, S₁, q₂ rfl⟩) fun _ _ x => x)
theorem Ts_val {e : Expr} (h : Ev c f e m H (fun d H' => ∃ b, d = .bool b ∧ Q b H') X)
    (he : ∀ w, isTrue e f.env w = (do let v ← w; standAt e.pos; holding [v] (truthy v)) := by intro _; rfl) : Ts c f e m H Q X := .mk fun s S =>
  wpAny_isTrue_value (wpAny_mono (h s S) (fun v s₁ ⟨t₁, d, H₁, i₁, S₁, b, e, q₁⟩ => by
    subst e; obtain rfl : v = .bool b := i₁; exact wpAny_truthy_bool ⟨H₁, S₁, q₁⟩) fun _ _ x => x) (he _)
def Tp (c : Cx) (f : Fx) (e : Expr) (m : Loc) (H : AH) (P : Prop) : Prop := Ts c f e m H (fun b H' => H' = H ∧ (b = true ↔ P)) (fun _ _ => False)
theorem wp_execs_append {M : Model} {Γ : Ctx} {env : Env} {E : Value → Pos → Shared → Prop} : ∀ (a b : List Stmt) (Q : Flow → Pos → Shared → Prop) (p : Pos) (s : Shared),
    Sem.wp M Γ (execs (a ++ b) env) Q E p s = Sem.wp M Γ (execs a env) (fun fl p' s' => match fl with | .next => Sem.wp M Γ (execs b env) Q E p' s' | fl => Q fl p' s') E p s
  | [], b, Q, p, s => rfl
  | st :: a, b, Q, p, s => by
    rw [List.cons_append, execs_cons, execs_cons, Sem.wp_bind', Sem.wp_bind']
    congr 1
    funext fl p' s'
    cases fl <;> first | exact wp_execs_append a b Q p' s' | rfl
theorem wpAny_execs_of_append {M : Model} {A : Around} {env : Env} {a b : List Stmt} {Q : Flow → Shared → Prop} {E : Value → Shared → Prop} {s : Shared} (Γ : Ctx) (p : Pos) (hΓ : Γ.In A) (h : wpAny M A (execs (a ++ b) env) Q E s) :
    Sem.wp M Γ (execs a env) (fun fl p' s' => match fl with | .next => Sem.wp M Γ (execs b env) (fun x _ s' => Q x s') (fun e _ s' => E e s') p' s' | fl => Q fl s') (fun e _ s' => E e s') p s := by
  have := h Γ p hΓ
  rw [wp_execs_append] at this
  exact this
theorem Ex_if {t : Expr} {body orelse rest : List Stmt} {p : Pos} {Q : Ko} (h : Ts c f t m H (fun b H' => (b = true → Ex c f (body ++ rest) m H' Q) ∧ (b = false → Ex c f (orelse ++ rest) m H' Q)) (fun C H' => Q (.exc C) m H')) :
    Ex c f (.If t body orelse p :: rest) m H Q := .mk fun s S Γ pp hΓ => by
  rw [execs_cons, Sem.wp_bind', exec_If]
  rw [Sem.wp_bind', Sem.wp_cmd_standAt, Sem.wp_bind']
  refine Sem.wp_mono c.M Γ _ (fun b p₂ s₂ h₂ => ?_) (fun x _ s' h' => ?_) _ _ (h s S Γ _ hΓ)
  · refine e1a3 h₂ fun H' S' q₁ q₂ => ?_; clear h₂
    cases b with
    | true =>
      refine Sem.wp_mono c.M Γ _ (fun fl p₃ s₃ h₃ => ?_) (fun _ _ _ h' => h') _ _ (wpAny_execs_of_append Γ p₂ hΓ (q₁ rfl s₂ S'))
      cases fl <;> exact h₃
    | false =>
      refine Sem.wp_mono c.M Γ _ (fun fl p₃ s₃ h₃ => ?_) (fun _ _ _ h' => h') _ _ (wpAny_execs_of_append Γ p₂ hΓ (q₂ rfl s₂ S'))
      cases fl <;> exact h₃
  · exact Thr.ex h' fun _ _ z => z
theorem Ex_ifp {t : Expr} {body orelse rest : List Stmt} {p : Pos} {Q : Ko} {P : Prop} (h : Tp c f t m H P) (h1 : P → Ex c f (body ++ rest) m H Q) (h2 : ¬ P → Ex c f (orelse ++ rest) m H Q) : Ex c f (.If t body orelse p :: rest) m H Q :=
  Ex_if (Ts.mono h (fun b H' ⟨e, q⟩ => by subst e; exact ⟨fun z => h1 (q.mp z), fun z => h2 fun y => by rw [q.mpr y] at z; cases z⟩) fun _ _ z => z.elim)
theorem Ex_while (O : FrOk f) {t : Expr} {body rest : List Stmt} {p : Pos} {Q : Ko} (I : Nat → Loc → AH → Prop) (n : Nat) (h0 : I n m H)
    (turn : ∀ n m' H', I n m' H' → Ts c f t m' H' (fun b H'' => (b = true → Ex c f body m' H'' (fun o m₂ H₂ => match o with | .next => ∃ k, k < n ∧ I k m₂ H₂ | .cont => ∃ k, k < n ∧ I k m₂ H₂ | .brk => Ex c f rest m₂ H₂ Q | o => Q o m₂ H₂)) ∧
      (b = false → Ex c f rest m' H'' Q)) (fun C H'' => Q (.exc C) m' H'')) : Ex c f (.While t body [] p :: rest) m H Q := .mk fun s S => by
  refine wpAny_execs_cons (wpAny_While (codeAny_whileLoop (fun n s => ∃ m' H', St c f m' H' s ∧ I n m' H') (fun n s₁ z => ?_) n ⟨m, H, S, h0⟩))
  refine e2a2 z fun m₁ H₁ S₁ i₁ => ?_; clear z
  have thr : ∀ {Q' : Ko} {x : Value} {s' : Shared}, (∀ C m' H', Q' (.exc C) m' H' → Q (.exc C) m' H') → ExTh c f Q' x s' → notedBy c.M f.A f.env (fun e s' => cameBackBy c.M f.A f.env (ExTh c f Q) e s') x s' := fun k z => by
    refine e4a4 z fun C m' H' e rq30 S' F q => ?_; clear z; obtain rfl := rq30
    exact noted_ok O S' F fun s'' S'' F'' => cameBack_ok O S'' F'' fun s₃ S₃ F₃ => ⟨C, m', H', e, rfl, S₃, F₃, k C m' H' q⟩
  refine wpAny_mono (turn n m₁ H₁ i₁ s₁ S₁) (fun b s₂ z => ?_) fun x s' z => thr (Q' := Q) (fun _ _ _ y => y) (z.ex fun _ _ y => y)
  refine e1a3 z fun H₂ S₂ q₁ q₂ => ?_; clear z
  cases b with
  | true =>
    refine wpAny_mono (q₁ rfl s₂ S₂) (fun fl s₃ z => ?_) fun x s' z => thr (fun _ _ _ y => y) z
    refine e3a3 z fun o m₃ H₃ fi S₃ q₃ => ?_; clear z
    cases fl with
    | next => cases fi; refine e1a2 q₃ fun k hk i => ?_; clear q₃; exact ⟨k, hk, m₃, H₃, S₃, i⟩
    | cont => cases fi; refine e1a2 q₃ fun k hk i => ?_; clear q₃; exact ⟨k, hk, m₃, H₃, S₃, i⟩
    | brk => cases fi; exact q₃ s₃ S₃
    | ret v => refine e1a2 fi fun d rq31 i => ?_; clear fi; obtain rfl := rq31; exact ⟨_, m₃, H₃, ⟨d, rfl, i⟩, S₃, q₃⟩
  | false => exact wpAny_execs_nil (q₂ rfl s₂ S₂)
end
end Mine
set_option maxRecDepth 100000
set_option linter.unusedVariables false
namespace Mine
open PySem
abbrev Fx.kept (f : Fx) (kp : List (Addr × Obj)) : Fx := { f with keep := kp }
def ItrOk (c : Cx) (A : Around) (I : Addr) (ds : List V) (tr : List Addr) (H₁ : AH) (h : Heap) : Prop :=
  ∃ fp P St', Walks c.prog c.w A I fp [I] ds.length P St' ∧ St' 0 h ∧ (∀ i h, St' i h → ∃ o vs, h.get? I = some o ∧ o.data = .fields vs) ∧
    (∀ b ∈ fp, b = I ∨ b ∈ tr ∨ ∃ o, c.base.get? b = some o) ∧ (∀ b ∈ tr, ∃ x, H₁ b = some x) ∧
    (∀ i v d H' h, P i v → ds[i]? = some d → Rep c H' h → c.base.StaysIn h → (∀ b ∈ tr, H' b = H₁ b) → Is h d v)
structure EvIt (c : Cx) (f : Fx) (iter : Expr) (m : Loc) (H : AH) (Q : List V → List Addr → AH → Prop) (X : Value → AH → Prop) : Prop where
  mk ::
  run :
    ∀ s, St c f m H s → wpAny c.M f.A (eval iter f.env) (fun xv s₁ => wpAny c.M f.A (pyIter xv) (fun it s₂ => ∃ I ds tr H₁, it = .ref I ∧ Tk s.heap s₂.heap ∧ St c f m H₁ s₂ ∧ f.hE.get? I = none ∧ (∀ p ∈ f.keep, I ≠ p.1) ∧ ItrOk c f.A I ds tr H₁ s₂.heap ∧ Q ds tr H₁) (Thr c f m X) s₁) (Thr c f m X) s
instance {c : Cx} {f : Fx} {iter : Expr} {m : Loc} {H : AH} {Q : List V → List Addr → AH → Prop} {X : Value → AH → Prop} : CoeFun (EvIt c f iter m H Q X) (fun _ =>
    ∀ s, St c f m H s → wpAny c.M f.A (eval iter f.env) (fun xv s₁ => wpAny c.M f.A (pyIter xv) (fun it s₂ => ∃ I ds tr H₁, it = .ref I ∧ Tk s.heap s₂.heap ∧ St c f m H₁ s₂ ∧ f.hE.get? I = none ∧ (∀ p ∈ f.keep, I ≠ p.1) ∧ ItrOk c f.A I ds tr H₁ s₂.heap ∧ Q ds tr H₁) (Thr c f m X) s₁) (Thr c f m X) s) := ⟨EvIt.run⟩
section
variable {c : Cx} {f : Fx} {m : Loc} {H : AH}
theorem FrOk.kept (O : FrOk f) (kp : List (Addr × Obj)) : FrOk (f.kept kp) := ⟨O.frames, O.head, O.frame, O.kind⟩
theorem St.toKept {s : Shared} (S : St c f m H s) {kp : List (Addr × Obj)} (k : ∀ p ∈ kp, s.heap.get? p.1 = some p.2 ∧ ∃ vs, p.2.data = .fields vs) : St c (f.kept kp) m H s :=
  ⟨S.rep, S.base, S.bE, S.hb, S.off, S.dom, S.up, S.loc, S.newL, S.trL, S.cel, S.apart, S.ff, S.fh, S.big, k, S.gens, S.os⟩
theorem St.unKept {s : Shared} {I : Addr} {o : Obj} (S : St c (f.kept ((I, o) :: f.keep)) m H s) : St c f m H s ∧ s.heap.get? I = some o :=
  ⟨⟨S.rep, S.base, S.bE, S.hb, S.off, S.dom, S.up, S.loc, S.newL, S.trL, S.cel, S.apart, S.ff, S.fh, S.big, fun p hp => S.kp p (.tail _ hp), S.gens, S.os⟩, (S.kp _ (.head _)).1⟩
theorem Fly.unKept {e : Addr} {C : Value} {h : Heap} {I : Addr} {o : Obj} (F : Fly (f.kept ((I, o) :: f.keep)) e C h) : Fly f e C h := by
  obtain ⟨⟨n1, n2⟩, oe, vs, a1, a2, a3, a4, r⟩ := F
  refine ⟨⟨n1, fun p hp => n2 p (.tail _ hp)⟩, oe, vs, a1, a2, a3, a4, ?_⟩
  rcases r with r | ⟨T, oT, ts, fl, b1, ⟨b2, b3⟩, b4⟩
  · exact .inl r
  · exact .inr ⟨T, oT, ts, fl, b1, ⟨b2, fun p hp => b3 p (.tail _ hp)⟩, b4⟩
theorem fp_stay {fp : List Addr} {tr : List Addr} {I : Addr} {H₁ H₂ : AH} {h h' : Heap} (hfp : ∀ b ∈ fp, b = I ∨ b ∈ tr ∨ ∃ o, c.base.get? b = some o) (htr : ∀ b ∈ tr, ∃ x, H₁ b = some x)
    (R : Rep c H₁ h) (R' : Rep c H₂ h') (B : c.base.StaysIn h) (B' : c.base.StaysIn h') (e : ∀ b ∈ tr, H₂ b = H₁ b) (hI : ∀ o, h.get? I = some o → h'.get? I = some o) : ∀ b ∈ fp, ∀ o, h.get? b = some o → h'.get? b = some o := fun b hb o q => by
  rcases hfp b hb with rfl | h1 | ⟨o', h1⟩
  · exact hI o q
  · obtain ⟨x, hx⟩ := htr b h1
    have k1 := (R b x hx).1
    have k2 := (R' b x ((e b h1).trans hx)).1
    rw [q] at k1; rw [k1]; exact k2
  · have := B b o' h1; rw [q] at this; rw [this]; exact B' b o' h1
theorem ExTh.unKept {Q Q' : Ko} {x : Value} {s' : Shared} {I : Addr} {o : Obj} (h : ExTh c (f.kept ((I, o) :: f.keep)) Q x s') (k : ∀ C m H, Q (.exc C) m H → Q' (.exc C) m H) : ExTh c f Q' x s' :=
  let ⟨C, m', H', e, p, S, F, q⟩ := h; ⟨C, m', H', e, p, S.unKept.1, F.unKept, k C m' H' q⟩
def ForPost (c : Cx) (f : Fx) (rest : List Stmt) (Q : Ko) (J : Nat → Loc → AH → Prop) (i : Nat) (tr : List Addr) (H₁ : AH) : Ko := fun o m₂ H₂ => match o with
  | .next => J (i + 1) m₂ H₂ ∧ ∀ b ∈ tr, H₂ b = H₁ b
  | .cont => J (i + 1) m₂ H₂ ∧ ∀ b ∈ tr, H₂ b = H₁ b
  | .brk => Ex c f rest m₂ H₂ Q
  | .ret d => Q (.ret d) m₂ H₂
  | .exc C => Q (.exc C) m₂ H₂
theorem Ex_for (O : FrOk f) {x : Str} {p q : Pos} {iter : Expr} {body rest : List Stmt} {Q : Ko}
    (h : EvIt c f iter m H (fun ds tr H₁ => ∃ J : Nat → Loc → AH → Prop, J 0 m H₁ ∧
      (∀ i d m' H' kp, ds[i]? = some d → J i m' H' → (∀ b ∈ tr, H' b = H₁ b) → Ex c (f.kept kp) body (m'.set x d) H' (ForPost c f rest Q J i tr H₁)) ∧
      (∀ m' H', J ds.length m' H' → (∀ b ∈ tr, H' b = H₁ b) → Ex c f rest m' H' Q)) (fun C H₁ => Q (.exc C) m H₁))
    (hx : (f.env.kindOf x = some .local) ∨ (f.env.kindOf x = some .cell ∧ (f.env.cells.lookup x).isSome = true)) (hfn : f.fn = true := by rfl)
    (hs : ∀ x, foldedSetIterable iter f.env x = pure x := by intro _; rfl) : Ex c f (.For (.Name x p) iter body [] q :: rest) m H Q := .mk fun s S => by
  have thr : ∀ {Q' : Ko} {x : Value} {s' : Shared}, (∀ C m' H', Q' (.exc C) m' H' → Q (.exc C) m' H') → ExTh c f Q' x s' → notedBy c.M f.A f.env (fun e s' => cameBackBy c.M f.A f.env (ExTh c f Q) e s') x s' := fun k z => by
    refine e4a4 z fun C m' H' e rq32 S' F q => ?_; clear z; obtain rfl := rq32
    exact noted_ok O S' F fun s'' S'' F'' => cameBack_ok O S'' F'' fun s₃ S₃ F₃ => ⟨C, m', H', e, rfl, S₃, F₃, k C m' H' q⟩
  refine wpAny_execs_cons (wpAny_For (wpAny_mono (h s S) (fun xv s₁ z => wpAny_mono z (fun it s₂ z => ?_) fun x s' z => z.ex fun _ _ y => y) fun x s' z => z.ex fun _ _ y => y) hs)
  refine e4a7 z fun I ds tr H₁ rq33 _ S₂ hIn hIk rq34 rq35 => ?_; clear z; obtain rfl := rq33; obtain ⟨fp, P, St', W, st, hrec, hfp, htr, hit⟩ := rq34; refine e1a3 rq35 fun J j0 turn done => ?_; clear rq35
  refine codeAny_forLoop (fun n s' => ∃ i m' H', n + i = ds.length + 1 ∧ i ≤ ds.length ∧ St c f m' H' s' ∧ St' i s'.heap ∧ J i m' H' ∧ ∀ b ∈ tr, H' b = H₁ b) (fun n s₃ z => ?_) (ds.length + 1) ⟨0, m, H₁, rfl, Nat.zero_le _, S₂, st, j0, fun _ _ => rfl⟩
  refine e3a6 z fun i m₃ H₃ hn hle S₃ st₃ j₃ e₃ => ?_; clear z
  refine e2a2 (hrec i _ st₃) fun oI vI gI dI => ?_
  by_cases hlt : i < ds.length
  · refine W.item i _ _ _ hlt st₃ fun v h' tk hP st' kp => ?_
    obtain ⟨S₄, _⟩ := S₃.recd (s' := { s₃ with heap := h', toks := tk }) gI dI hIn hIk (fun b o hb e => kp b o (by simpa using hb) e) rfl rfl
    have hd : ds[i]? = some ds[i] := List.getElem?_eq_getElem hlt
    have iv := hit i v _ H₃ h' hP hd S₄.rep S₄.base e₃
    refine e2a2 (hrec (i + 1) _ st') fun oI' vI' gI' dI' => ?_
    have S₅ := S₄.toKept (kp := (I, oI') :: f.keep) fun p hp => by
      cases hp with
      | head => exact ⟨gI', vI', dI'⟩
      | tail _ hp => exact S₄.kp p hp
    refine wpAny_assign_Name (store_ok (f := f.kept ((I, oI') :: f.keep)) S₅ iv hx hfn O.kind fun s₅ S₆ _ _ => ?_)
    refine wpAny_mono (turn i ds[i] m₃ H₃ ((I, oI') :: f.keep) hd j₃ e₃ s₅ S₆) (fun fl s₆ z => ?_) fun x s' z => thr (Q' := Q) (fun _ _ _ y => y) (z.unKept fun _ _ _ y => y)
    refine e3a3 z fun o m₆ H₆ fi S₇ q₆ => ?_; clear z
    obtain ⟨S₈, gI₈⟩ := S₇.unKept
    have stay : (∀ b ∈ tr, H₆ b = H₁ b) → St' (i + 1) s₆.heap := fun e₆ => W.frame _ _ _ st' (fp_stay (H₁ := H₃) (H₂ := H₆) (tr := tr) hfp (fun b hb => by rw [e₃ b hb]; exact htr b hb) S₄.rep S₈.rep S₄.base S₈.base
      (fun b hb => (e₆ b hb).trans (e₃ b hb).symm) fun o q => by rw [gI'] at q; cases q; exact gI₈)
    cases fl with
    | next => cases fi; exact ⟨n - 1, by exact om5 hn hlt, i + 1, m₆, H₆, by exact om6 hn hlt, hlt, S₈, stay q₆.2, q₆.1, q₆.2⟩
    | cont => cases fi; exact ⟨n - 1, by exact om5 hn hlt, i + 1, m₆, H₆, by exact om6 hn hlt, hlt, S₈, stay q₆.2, q₆.1, q₆.2⟩
    | brk => cases fi; exact (show Ex c f rest m₆ H₆ Q from q₆).run s₆ S₈
    | ret v => refine e1a2 fi fun d rq36 iv => ?_; clear fi; obtain rfl := rq36; exact ⟨_, m₆, H₆, ⟨d, rfl, iv⟩, S₈, q₆⟩
  · obtain rfl : i = ds.length := by exact om7 hle hlt
    refine W.done _ _ _ st₃ fun h' tk kp => ?_
    obtain ⟨S₄, _⟩ := S₃.recd (s' := { s₃ with heap := h', toks := tk }) gI dI hIn hIk (fun b o hb e => kp b o (by simpa using hb) e) rfl rfl
    exact wpAny_execs_nil (done m₃ H₃ j₃ e₃ _ S₄)
end
end Mine
set_option maxRecDepth 100000
set_option linter.unusedVariables false
namespace Mine
open PySem
abbrev compF (f : Fx) (scope : Scope) (cl : List (Str × Addr)) (C : Addr) (hE : Heap) (H : AH) : Fx :=
  { A := f.A, env := compEnvC scope cl C f.env, frs := f.frs, hE := hE, HE := H, keep := [], fn := false }
def compM (m : Loc) (cl : List (Str × Addr)) (x : Str) (d : V) : Loc := fun y => if y = x then some d else if (cl.lookup y).isSome then m y else none
def CompT (c : Cx) (fC : Fx) (elt : Expr) (ifs : List Expr) (mC : Loc) (H : AH) (Qy : V → AH → Prop) (Qn : AH → Prop) : Prop := match ifs with
  | [] => Ev c fC elt mC H Qy (fun _ _ => False)
  | [t] => Ts c fC t mC H (fun b H' => (b = true → Ev c fC elt mC H' Qy (fun _ _ => False)) ∧ (b = false → Qn H')) (fun _ _ => False)
  | _ => False
section
variable {c : Cx} {f : Fx} {m : Loc} {H : AH}
theorem none_size (h : Heap) : h.get? h.objs.size = none := by
  cases q : h.get? h.objs.size with
  | none => rfl
  | some o => exact absurd (Heap.lt_size q) (Nat.lt_irrefl _)
theorem St.apartOf {s : Shared} (S : St c f m H s) {a : Addr} (e : s.heap.get? a = none) : H a = none ∧ f.hE.get? a = none ∧ a ≠ f.env.locals ∧ (∀ x b, f.env.cells.lookup x = some b → b ≠ a) ∧ a ∉ f.fs ∧ (∀ p ∈ f.keep, a ≠ p.1) := by
  refine ⟨?_, S.old e, fun q => ?_, fun x b hb q => ?_, fun q => ?_, fun p hp q => ?_⟩
  · cases z : H a with
    | none => rfl
    | some y => refine e1a2 ((S.rep a y z).obj) fun o' g _ => ?_; rw [e] at g; cases g
  · refine e1a2 (S.loc) fun mv rq37 _ => ?_; obtain ⟨o, _, _, g, _⟩ := rq37; rw [← q, e] at g; cases g
  · refine e0a4 (S.cel x b hb) fun _ _ _ rq38 => ?_; refine e2a2 rq38 fun ov o g _ => ?_; clear rq38; rw [q, e] at g; cases g
  · obtain ⟨_, o, g, _⟩ := S.ff.mem q; rw [e] at g; cases g
  · have := (S.kp p hp).1; rw [← q, e] at this; cases this
theorem St.track {s : Shared} (S : St c f m H s) {a : Addr} {x : Cell} (hH : H a = none) (hnew : f.hE.get? a = none) (hL : a ≠ f.env.locals) (hcl : ∀ x b, f.env.cells.lookup x = some b → b ≠ a)
    (hfs : a ∉ f.fs) (hbig : cStatics < a) (hx : CellIs c s.heap a x) : St c f m (H.set a x) s := by
  have hS : ∀ b, b ≠ a → (H.set a x) b = H b := fun b q => if_neg q
  refine ⟨fun b y e => ?_, S.base, S.bE, fun b o e => ?_, S.off, fun b o e q => ?_, fun b q => ?_, S.loc, S.newL, ?_, fun y b e => ?_, S.apart, S.ff, fun b q => ?_, fun b y e => ?_, S.kp, S.gens, S.os⟩
  · by_cases q : b = a
    · subst q; rw [AH.set, if_pos rfl] at e; cases e; exact hx
    · rw [hS b q] at e; exact S.rep b y e
  · rw [hS b (fun q => by have := S.bE b o e; rw [q, hnew] at this; cases this)]; exact S.hb b o e
  · rw [hS b (fun z => by rw [z, hnew] at e; cases e)]; exact S.dom b o e q
  · by_cases z : b = a
    · subst z; rw [AH.set, if_pos rfl]; exact fun w => nomatch w
    · rw [hS b z]; exact S.up b q
  · rw [hS _ (Ne.symm hL)]; exact S.trL
  · obtain ⟨p, q⟩ := S.cel y b e
    exact ⟨by rw [hS b (hcl y b e)]; exact p, q⟩
  · rw [hS b (fun z => hfs (z ▸ q))]; exact S.fh b q
  · by_cases q : b = a
    · exact q ▸ hbig
    · rw [hS b q] at e; exact S.big b y e
theorem St.comp {s : Shared} (S : St c f m H s) {scope : Scope} {cl : List (Str × Addr)} {C : Addr} {mv : Str → Option Value} {x : Str} {v : Value} {d : V}
    (hcl : ∀ y a, cl.lookup y = some a → f.env.cells.lookup y = some a ∧ f.env.kindOf y = some .cell ∧ (relabel scope f.env).names.lookup y = some .cell) (hx : (relabel scope f.env).names.lookup x = some .local)
    (hn : s.heap.Ns C mv) (hv : mv x = some v) (i : Is s.heap d v) (hC : H C = none) (hCc : ∀ y a, f.env.cells.lookup y = some a → a ≠ C) : St c (compF f scope cl C s.heap H) (compM m cl x d) H s := by
  refine e1a2 (S.loc) fun mvo no ko => ?_
  refine ⟨S.rep, S.base, S.base, S.hb, fun a o e q => ⟨fun _ => e, fun _ => ⟨o.slots, e⟩⟩, fun a o e q => q, fun a q => q, ⟨mv, hn, fun y d' e => ?_⟩, (fun z => nomatch z), hC, fun y a e => ?_, fun y z a ey ez => ?_, S.ff, S.fh, S.big, (fun p hp => nomatch hp), S.gens, S.os⟩
  · by_cases q : y = x
    · subst q
      rw [compM, if_pos rfl] at e; cases e
      exact .inl ⟨hx, v, hv, i⟩
    · rw [compM, if_neg q] at e
      cases z : cl.lookup y with
      | none => rw [z] at e; cases e
      | some a =>
        rw [z] at e
        refine e0a3 (hcl y a z) fun k1 k2 k3 => ?_
        rcases ko y d' (by simpa using e) with ⟨e1, _⟩ | ⟨_, a', v', p, r, u⟩
        · rw [k2] at e1; cases e1
        · rw [k1] at p; cases p
          exact .inr ⟨.inl k3, a, v', z, r, u⟩
  · refine e0a3 (hcl y a e) fun k1 k2 k3 => ?_
    refine e0a4 (S.cel y a k1) fun p q r z => ?_
    exact ⟨p, hCc y a k1, (fun w => nomatch w), z⟩
  · exact S.apart y z a (hcl y a ey).1 (hcl z a ez).1
theorem St.compLft {s s' : Shared} {H' : AH} {m' : Loc} {scope : Scope} {cl : List (Str × Addr)} {C : Addr} (S : St c (compF f scope cl C s.heap H) m' H' s') : Lft c f.frs H s H' s' :=
  ⟨S.rep, S.off, S.dom, S.up, S.big, S.gens, S.os⟩
theorem tests_one {env : Env} {t : Expr} {A : Around} {Q : Bool → Shared → Prop} {E : Value → Shared → Prop} {s : Shared} (h : wpAny c.M A (isTrue t env (eval t env)) Q E s) :
    wpAny c.M A (forIn [t] true fun c r => if r = true then do let ok ← isTrue c env (eval c env); pure (ForInStep.yield ok) else pure (ForInStep.yield r)) Q E s := wpAny_tests_one h
theorem comp_core {x : Str} {px pos : Pos} {iter elt : Expr} {ifs : List Expr} {scope : Scope} {cl : List (Str × Addr)} {I : Addr} {ds : List V} {tr : List Addr} {H₁ : AH} {s₂ : Shared} {E : Value → Shared → Prop} {RR : Value → Addr → Result → Shared → Prop}
    (S₂ : St c f m H₁ s₂) (hIn : f.hE.get? I = none) (hIk : ∀ p ∈ f.keep, I ≠ p.1) (hI : ItrOk c f.A I ds tr H₁ s₂.heap) (hsz : ds.length ≤ sizeLine) (hbg : cStatics < s₂.heap.objs.size) (J : Nat → List V → AH → Prop) (j0 : J 0 [] H₁)
    (hcell : ∀ y ∈ scope.names, y.2 ≠ .cell) (hkind : scope.kind = .function) (hx : scope.names.lookup x = some .local)
    (hcl : ∀ y a, cl.lookup y = some a → f.env.cells.lookup y = some a ∧ f.env.kindOf y = some .cell ∧ (relabel scope f.env).names.lookup y = some .cell)
    (turn : ∀ i d acc H' C hE, ds[i]? = some d → J i acc H' → (∀ b ∈ tr, H' b = H₁ b) →
      CompT c (compF f scope cl C hE H') elt ifs (compM m cl x d) H' (fun e H'' => J (i + 1) (acc ++ [e]) H'' ∧ ∀ b ∈ tr, H'' b = H₁ b) (fun H'' => J (i + 1) acc H'' ∧ ∀ b ∈ tr, H'' b = H₁ b))
    (done : ∀ D C s' acc vs H' mv, cStatics < D → St c f m H' s' → Tk s₂.heap s'.heap → PlainL s'.heap D vs.toArray → IsAll s'.heap acc vs → s'.heap.Ns C mv → H' D = none → H' C = none → s₂.heap.get? D = none → s₂.heap.get? C = none → D ≠ C → J ds.length acc H' → (∀ b ∈ tr, H' b = H₁ b) →
      RR (.ref D) C (.ok .next) s') :
    wpAny c.M f.A (newList []) (fun acc s₃ => wpAny c.M f.A (newFunctionEnv scope f.env.globals cl [] f.env.qual none .none (some f.env)) (fun cenv s₄ =>
      codeAny c.M f.A (.compStart (.ListComp elt [⟨.Name x px, iter, ifs, 0⟩] scope pos) 0 (.ref I) acc { cenv with scope := relabel scope f.env }) (RR acc cenv.locals) s₄) E s₃) E s₂ := by
  refine e3a6 hI fun fp P St' W st hrec hfp htr hit => ?_; clear hI
  refine wpAny_newObj_type (wpAny_newFunctionEnv hcell (by intro y hy; simp at hy) (fun h₁ hns₁ hsb₁ => ?_) hkind)
  dsimp only at hns₁ hsb₁ ⊢
  generalize hH2 : s₂.heap.push { cls := .type "list", dict := none, data := .seq ([] : List Value).toArray } = H2 at hns₁ hsb₁ ⊢
  generalize hDd : s₂.heap.objs.size = D
  generalize hCd : H2.objs.size = C at hns₁ hsb₁ ⊢
  have hC : C = D + 1 := by rw [← hCd, ← hH2, Heap.size_push, hDd]
  have hDC : D ≠ C := by exact om8 hC
  have hfree : ∀ a, D ≤ a → s₂.heap.get? a = none := fun a ha => by
    cases e : s₂.heap.get? a with
    | none => rfl
    | some o' => exact absurd (Heap.lt_size e) (Nat.not_lt.mpr (hDd ▸ ha))
  have hD0 := hfree D (Nat.le_refl _)
  have hC0 := hfree C (by exact om9 hC)
  refine e0a6 (S₂.apartOf hD0) fun aD1 aD2 aD3 aD4 aD5 aD6 => ?_
  refine e0a6 (S₂.apartOf hC0) fun aC1 aC2 aC3 aC4 aC5 aC6 => ?_
  refine e2a2 (hrec 0 _ st) fun oI₀ vI₀ gI₀ dI₀ => ?_
  have hDI : D ≠ I := fun q => by rw [q, gI₀] at hD0; cases hD0
  have hCI : C ≠ I := fun q => by rw [q, gI₀] at hC0; cases hC0
  have grow : Grow s₂.heap h₁ := fun b o e => by
    have : b < D := hDd ▸ Heap.lt_size e
    exact hsb₁.extBut b o (fun (q : b = C) => by rw [q, hC] at this; exact absurd this (Nat.not_lt.mpr (Nat.le_succ D))) (Heap.get?_push_of_some _ (hH2 ▸ Heap.get?_push_of_some _ e))
  have hacc : PlainL h₁ D ([] : List Value).toArray := ⟨_, 0, hsb₁.extBut _ _ hDC (Heap.get?_push_of_some _ (hH2 ▸ hDd ▸ Heap.get?_push_size _ rfl)), rfl, rfl, rfl⟩
  have loop : ∀ s₃ : Shared, s₃ = { s₂ with heap := h₁, toks := s₂.toks + ([] : List (Str × Value)).length } →
      codeAny c.M f.A (.compLoop (.ListComp elt [⟨.Name x px, iter, ifs, 0⟩] scope pos) 0 (.ref I) (.ref D) (compEnvC scope cl C f.env)) (RR (.ref D) C) s₃ := by
    rintro s₃ rfl
    have S₃ := S₂.grow (s' := { s₂ with heap := h₁, toks := s₂.toks + ([] : List (Str × Value)).length }) grow rfl rfl
    refine codeAny_compLoop_tests (fun n s' => ∃ i acc H' vs mv, n + i = ds.length + 1 ∧ i ≤ ds.length ∧ St c f m H' s' ∧ Tk s₂.heap s'.heap ∧ St' i s'.heap ∧ PlainL s'.heap D vs.toArray ∧ IsAll s'.heap acc vs ∧ s'.heap.Ns C mv ∧ H' D = none ∧ H' C = none ∧ vs.length ≤ i ∧ J i acc H' ∧ ∀ b ∈ tr, H' b = H₁ b)
      (fun n s' z => ?_) (ds.length + 1) ⟨0, [], H₁, [], _, rfl, Nat.zero_le _, S₃, grow.tk, W.frame _ _ _ st fun b _ o e => grow b o e, hacc, isAll_nil _, hns₁, aD1, aC1, Nat.le_refl _, j0, fun _ _ => rfl⟩
    refine e5a13 z fun i acc H' vs mv hn hle S' tk' st' pl' ia' ns' D' C' hvl j' e' => ?_; clear z
    refine e2a2 (hrec i _ st') fun oI vI gI dI => ?_
    have hIH : H' I = none := by
      cases z : H' I with
      | none => rfl
      | some y => refine e1a4 ((S'.rep I y z).obj) fun o' g _ nf _ => ?_; rw [gI] at g; cases g; exact absurd dI (nf _)
    have hIfs : I ∉ f.fs := fun q => by obtain ⟨_, o, g, nf⟩ := S'.ff.mem q; rw [gI] at g; cases g; exact nf _ dI
    by_cases hlt : i < ds.length
    · refine W.item i _ _ _ hlt st' fun v h' tk hP st₄ kp => ?_
      have ext₄ : Heap.ExtBut I s'.heap h' := fun b o hb e => kp b o (by simpa using hb) e
      obtain ⟨S₄, t₄⟩ := S'.recd (s' := { s' with heap := h', toks := tk }) gI dI hIn hIk ext₄ rfl rfl
      have hd : ds[i]? = some ds[i] := List.getElem?_eq_getElem hlt
      have iv := hit i v _ H' h' hP hd S₄.rep S₄.base e'
      have hx' := lookup_relabel_local (env := f.env) hx
      refine wpAny_assign_Name (wpAny_storeName_local (env := compEnvC scope cl C f.env) hx' (ns'.extBut ext₄ hCI) (fun h₅ ns₅ sb₅ => ?_) (by simp [compEnvC, relabel, hkind]))
      refine e3a3 (ns'.extBut ext₄ hCI) fun oC esC epC gC dC _ => ?_
      obtain ⟨S₅, t₅⟩ := S₄.other (s' := { s' with heap := h₅, toks := tk + 1 }) C' aC2 aC3 aC4 aC5 aC6 (fun o vs n e cl' dt => by
        have : oC = o := Option.some.inj (gC.symm.trans e)
        subst this; rw [dC] at dt; cases dt) sb₅.extBut rfl rfl
      have iv₅ := iv.tk t₅
      have S₆ := S₅.comp (scope := scope) (cl := cl) (x := x) (d := ds[i]) (v := v) hcl hx' ns₅ (if_pos rfl) iv₅ C' aC4
      have plD₅ : PlainL h₅ D vs.toArray := (pl'.extBut ext₄ hDI).extBut sb₅.extBut hDC
      have iaD₅ : IsAll h₅ acc vs := (ia'.tk t₄).tk t₅
      refine e2a2 (hrec (i + 1) _ st₄) fun oI' vI' gI' dI' => ?_
      have gI₅ : h₅.get? I = some oI' := sb₅.extBut I oI' (Ne.symm hCI) gI'
      have tk₅ : Tk s₂.heap h₅ := tk'.trans (t₄.trans t₅)
      -- after the turn's work
      have back : ∀ {H'' : AH} {s₇ : Shared}, Lft c f.frs H' { s' with heap := h₅, toks := tk + 1 } H'' s₇ → (∀ b ∈ tr, H'' b = H₁ b) → St c f m H'' s₇ ∧ Tk s₂.heap s₇.heap ∧ St' (i + 1) s₇.heap ∧ PlainL s₇.heap D vs.toArray ∧ IsAll s₇.heap acc vs ∧ (∃ mv, s₇.heap.Ns C mv) ∧ H'' D = none ∧ H'' C = none ∧ s₇.heap.get? I = some oI' := fun L e'' => by
        obtain ⟨S₇, t₇⟩ := S₅.back L
        have un : ∀ a o, h₅.get? a = some o → H' a = none → a ∉ f.fs → _ := fun a o e q n => (L.off a o e q).1 n
        refine e2a2 plD₅ fun oD nD gD rD => ?_; clear plD₅
        refine e3a2 ns₅ fun oC' es' ep' gC' rC' => ?_; clear ns₅
        have gI₇ := un I oI' gI₅ hIH hIfs
        refine ⟨S₇, tk₅.trans t₇, ?_, ⟨oD, nD, un D oD gD D' aD5, rD⟩, iaD₅.tk t₇, ⟨_, oC', es', ep', un C oC' gC' C' aC5, rC'⟩, L.dom D oD gD D', L.dom C oC' gC' C', gI₇⟩
        exact W.frame _ _ _ st₄ (fp_stay (H₁ := H') (tr := tr) hfp (fun b hb => by rw [e' b hb]; exact htr b hb) S₄.rep S₇.rep S₄.base S₇.base (fun b hb => (e'' b hb).trans (e' b hb).symm) fun o q => by rw [gI'] at q; cases q; exact gI₇)
      have ended : ∀ {y : Value} {e : V} {H'' : AH} {s₇ : Shared}, Lft c f.frs H' { s' with heap := h₅, toks := tk + 1 } H'' s₇ → Is s₇.heap e y → J (i + 1) (acc ++ [e]) H'' → (∀ b ∈ tr, H'' b = H₁ b) →
          wpAny c.M f.A (call (.builtin "list.append") [.ref D, y]) (fun _ s₅ => ∃ k, k < n ∧ ∃ i acc H' vs mv, k + i = ds.length + 1 ∧ i ≤ ds.length ∧ St c f m H' s₅ ∧ Tk s₂.heap s₅.heap ∧ St' i s₅.heap ∧ PlainL s₅.heap D vs.toArray ∧ IsAll s₅.heap acc vs ∧ s₅.heap.Ns C mv ∧ H' D = none ∧ H' C = none ∧ vs.length ≤ i ∧ J i acc H' ∧ ∀ b ∈ tr, H' b = H₁ b)
            (notedBy c.M f.A (compEnvC scope cl C f.env) fun e s' => RR (.ref D) C (.error e) s') s₇ := fun {y e H'' s₇} L iy jj ee => by
        refine e0a9 (back L ee) fun S₇ t₇ st₇ pl₇ ia₇ rq39 D₇ C₇ gI₇ => ?_; obtain ⟨mv₇, ns₇⟩ := rq39
        refine list_append_plainL pl₇ (fun h₈ pl₈ sb₈ => ?_) (by rw [List.size_toArray]; exact om10 hsz hvl hlt)
        refine e2a4 pl₇ fun oD nD gD cD ddD dD => ?_; clear pl₇
        obtain ⟨S₈, t₈⟩ := S₇.other (s' := { s₇ with heap := h₈ }) D₇ aD2 aD3 aD4 aD5 aD6 (fun o vs n e cl' dt => by rw [gD] at e; cases e; rw [cD] at cl'; exact absurd cl' (by decide)) sb₈.extBut rfl rfl
        refine ⟨n - 1, by exact om5 hn hlt, i + 1, acc ++ [e], H'', vs ++ [y], mv₇, by exact om6 hn hlt, hlt, S₈, t₇.trans t₈, ?_, by simpa using pl₈, (ia₇.append (isAll_one iy)).tk t₈, ns₇.extBut sb₈.extBut (Ne.symm hDC), D₇, C₇, by simp; exact om11 hvl, jj, ee⟩
        exact W.frame _ _ _ st₇ (fp_stay (H₁ := H'') (tr := tr) hfp (fun b hb => by rw [ee b hb]; exact htr b hb) S₇.rep S₈.rep S₇.base S₈.base (fun b hb => rfl) fun o q => sb₈.extBut I o (Ne.symm hDI) q)
      have T := turn i ds[i] acc H' C h₅ hd j' e'
      match ifs, T with
      | [], T =>
        refine wpAny_tests_nil ?_
        rw [if_pos rfl]
        refine wpAny_mono (Ev.run T _ S₆) (fun y s₇ z => ?_) fun _ _ z => ?_
        · obtain ⟨_, e, H'', iy, S₇, jj, ee⟩ := z
          exact ended S₇.compLft iy jj ee
        · refine e3a4 z fun _ _ _ _ _ _ rq40 => ?_; clear z; have z := rq40; clear rq40; exact z.elim
      | [t], T =>
        refine tests_one (wpAny_mono (Ts.run T _ S₆) (fun b s₇ z => ?_) fun _ _ z => ?_)
        · refine e1a3 z fun H'' S₇ q1 q2 => ?_; clear z
          cases b with
          | true =>
            rw [if_pos rfl]
            refine wpAny_mono (q1 rfl s₇ S₇) (fun y s₈ z => ?_) fun _ _ z => ?_
            · obtain ⟨_, e, H₃, iy, S₈, jj, ee⟩ := z
              exact ended S₈.compLft iy jj ee
            · refine e3a4 z fun _ _ _ _ _ _ rq41 => ?_; clear z; have z := rq41; clear rq41; exact z.elim
          | false =>
            rw [if_neg (by decide)]
            obtain ⟨jj, ee⟩ := q2 rfl
            refine e0a9 (back S₇.compLft ee) fun S₈ t₈ st₈ pl₈ ia₈ rq42 D₈ C₈ _ => ?_; obtain ⟨mv₈, ns₈⟩ := rq42
            exact ⟨n - 1, by exact om5 hn hlt, i + 1, acc, H'', vs, mv₈, by exact om6 hn hlt, hlt, S₈, t₈, st₈, pl₈, ia₈, ns₈, D₈, C₈, by exact om12 hvl, jj, ee⟩
        · refine e3a4 z fun _ _ _ _ _ _ rq43 => ?_; clear z; have z := rq43; clear rq43; exact z.elim
      | _ :: _ :: _, T => exact T.elim
    · obtain rfl : i = ds.length := by exact om7 hle hlt
      refine W.done _ _ _ st' fun h' tk kp => ?_
      have ext₄ : Heap.ExtBut I s'.heap h' := fun b o hb e => kp b o (by simpa using hb) e
      obtain ⟨S₄, t₄⟩ := S'.recd (s' := { s' with heap := h', toks := tk }) gI dI hIn hIk ext₄ rfl rfl
      exact done D C _ acc vs H' mv (hDd ▸ hbg) S₄ (tk'.trans t₄) (pl'.extBut ext₄ hDI) (ia'.tk t₄) (ns'.extBut ext₄ hCI) D' C' hD0 hC0 hDC j' e'
  exact codeAny_compStart_list (loop _ rfl) (W.self 0 _ _ _ (W.frame _ _ _ st fun b _ o e => grow b o e) (loop _ rfl))
end
end Mine
set_option maxRecDepth 100000
set_option linter.unusedVariables false
namespace Mine
open PySem
def ListAt (H : AH) (a : Addr) (ds : List V) : Prop := ∃ o, H a = some ⟨o, .list ds⟩
def DictIs (H : AH) (a : Addr) (kvs : List (Int × V)) : Prop := ∃ o, H a = some ⟨o, .dict kvs⟩
section
variable {c : Cx} {f : Fx} {m : Loc} {H : AH} {X : Value → AH → Prop}
theorem AH.set_other (H : AH) {a b : Addr} (x : Cell) (h : b ≠ a) : (H.set a x) b = H b := if_neg h
theorem St.sizeBig {s : Shared} (K : CxOk c) (S : St c f m H s) : cStatics < s.heap.objs.size := by
  refine e1a2 (K.lim) fun mc rq44 _ => ?_; obtain ⟨o, _, _, g, _⟩ := rq44
  exact Heap.lt_size (S.base _ _ g)
theorem Rep.list {a : Addr} {o : Obj} {ds : List V} {h : Heap} (R : Rep c H h) (e : H a = some ⟨o, .list ds⟩) : ∃ vs n, h.get? a = some o ∧ o.cls = .type "list" ∧ o.dict = none ∧ o.data = .seq vs.toArray n ∧ IsAll h ds vs := by
  obtain ⟨g, vs, ⟨o', n, g', r1, r2, r3⟩, i⟩ := R a _ e
  rw [g'] at g; cases g
  exact ⟨vs, n, g', r1, r2, r3, i⟩
theorem Rep.plain {a : Addr} {ds : List V} {h : Heap} (R : Rep c H h) (e : ListAt H a ds) : ∃ vs, PlainL h a vs.toArray ∧ IsAll h ds vs := by
  obtain ⟨o, e⟩ := e
  refine e2a5 (R.list e) fun vs n g r1 r2 r3 i => ?_
  exact ⟨vs, ⟨o, n, g, r1, r2, r3⟩, i⟩
theorem Rep.dict {a : Addr} {o : Obj} {kvs : List (Int × V)} {h : Heap} (R : Rep c H h) (e : H a = some ⟨o, .dict kvs⟩) : ∃ kv es ep, h.get? a = some o ∧ o.ExactDict ∧ o.data = .dict es ep ∧ KeysOf (intKind c.prog c.w) es ∧ Pairs (intKind c.prog c.w) es.toList kv ∧ (kv.map (·.1)).Nodup ∧
    kv.map (·.1) = kvs.map (·.1) ∧ IsAll h (kvs.map (·.2)) (kv.map (·.2)) := by
  obtain ⟨g, kv, ⟨o', es, ep, g', r1, r2, r3, r4, r5⟩, p, i⟩ := R a _ e
  rw [g'] at g; cases g
  exact ⟨kv, es, ep, g', r1, r2, r3, r4, r5, p, i⟩
theorem Rep.dictOf {a : Addr} {kvs : List (Int × V)} {h : Heap} (R : Rep c H h) (e : DictIs H a kvs) : ∃ kv : List (Int × Value), h.DictOf (intKind c.prog c.w) a kv ∧ kv.map (·.1) = kvs.map (·.1) ∧ IsAll h (kvs.map (·.2)) (kv.map (·.2)) := by
  obtain ⟨o, e⟩ := e
  refine e3a8 (R.dict e) fun kv es ep g r1 r2 r3 r4 r5 p i => ?_
  exact ⟨kv, ⟨o, es, ep, g, r1, r2, r3, r4, r5⟩, p, i⟩
theorem notSys {s : Shared} (S : St c f m H s) {a : Addr} {x : Cell} (e : H a = some x) : (a == sysModules) = false := by
  have := S.big a x e
  exact beq_eq_false_iff_ne.mpr fun q => by rw [q] at this; exact absurd this (by decide)
theorem EvIt_list {iter : Expr} {Q : List V → List Addr → AH → Prop} (hh : f.A.handled = none) (h : Ev c f iter m H (fun d H₁ => ∃ a ds, d = .ref a ∧ ListAt H₁ a ds ∧ Q ds [a] H₁) X) : EvIt c f iter m H Q X := .mk fun s S => by
  refine wpAny_mono (h s S) (fun v s₁ z => ?_) fun _ _ x => x
  obtain ⟨t₁, d, H₁, i₁, S₁, a, ds, rfl, ⟨o, ha⟩, q⟩ := z
  obtain rfl : v = .ref a := i₁
  refine e2a5 (S₁.rep.list ha) fun vs n g c1 c2 c3 ia => ?_
  have hl : s₁.heap.IsList a vs.toArray := ⟨o, g, c1, n, c3⟩
  have hI := none_size s₁.heap
  refine e0a6 (S₁.apartOf hI) fun _ b2 _ _ _ b6 => ?_
  have hne : a ≠ s₁.heap.objs.size := Nat.ne_of_lt (Heap.lt_size g)
  refine wpAny_pyIter_list hl ⟨_, ds, [a], H₁, rfl, t₁.trans (Grow.push _ _).tk, S₁.grow (Grow.push _ _) rfl rfl, b2, b6, ?_, q⟩
  have W := Walks.list (prog := c.prog) (w := c.w) hh s₁.heap.objs.size a hne vs.toArray
  have hsz : vs.toArray.size = ds.length := by rw [List.size_toArray]; exact ia.length
  rw [hsz] at W
  refine ⟨_, _, _, W, ⟨⟨_, Heap.get?_push_size _ rfl, rfl, rfl⟩, hl.push _⟩, fun i h st => ?_, fun b hb => ?_, fun b hb => ?_, fun i v d H' h hP hd R B e => ?_⟩
  · obtain ⟨⟨o, g, _, d⟩, _⟩ := st; exact ⟨o, _, g, d⟩
  · simp only [List.mem_cons, List.not_mem_nil, or_false] at hb
    rcases hb with rfl | rfl
    · exact .inl rfl
    · exact .inr (.inl (.head _))
  · simp only [List.mem_cons, List.not_mem_nil, or_false] at hb; subst hb; exact ⟨_, ha⟩
  · refine e2a5 (R.list ((e a (.head _)).trans ha)) fun vs' n' g' _ _ c3' ia' => ?_
    rw [c3] at c3'
    injection c3' with hv _
    have : vs = vs' := by simpa using hv
    subst this
    refine e1a2 (ia'.get hd) fun v' e1 e2 => ?_
    have : vs[i]? = some v := by simpa using hP
    rw [this] at e1; cases e1; exact e2
theorem EvIt_dict {iter : Expr} {Q : List V → List Addr → AH → Prop} (hh : f.A.handled = none) (h : Ev c f iter m H (fun d H₁ => ∃ a kvs, d = .ref a ∧ DictIs H₁ a kvs ∧ Q (kvs.map fun p => .int p.1) [a] H₁) X) : EvIt c f iter m H Q X := .mk fun s S => by
  refine wpAny_mono (h s S) (fun v s₁ z => ?_) fun _ _ x => x
  obtain ⟨t₁, d, H₁, i₁, S₁, a, kvs, rfl, ⟨o, ha⟩, q⟩ := z
  obtain rfl : v = .ref a := i₁
  refine e3a8 (S₁.rep.dict ha) fun kv es ep g c1 c2 c3 c4 c5 p ia => ?_
  have hm : s₁.heap.DictAt (intKind c.prog c.w) a kv ep := ⟨o, es, g, c1, c2, c3, c4, c5⟩
  have hI := none_size s₁.heap
  refine e0a6 (S₁.apartOf hI) fun _ b2 _ _ _ b6 => ?_
  have hne : a ≠ s₁.heap.objs.size := Nat.ne_of_lt (Heap.lt_size g)
  have hlen : kv.length = (kvs.map fun p => V.int p.1).length := by have := congrArg List.length p; simpa using this
  refine wpAny_pyIter_dict (notSys S₁ ha) hm ⟨_, kvs.map fun p => .int p.1, [a], H₁, rfl, t₁.trans (Grow.push _ _).tk, S₁.grow (Grow.push _ _) rfl rfl, b2, b6, ?_, q⟩
  have W := Walks.dictKeys (knd := intKind c.prog c.w) hh s₁.heap.objs.size a hne kv ep
  have W' := W
  rw [hlen] at W'
  refine ⟨_, _, _, W', ⟨⟨_, Heap.get?_push_size _ rfl, rfl, (by rw [← hlen]; rfl)⟩, hm.push _⟩, fun i h st => ?_, fun b hb => ?_, fun b hb => ?_, fun i v d H' h hP hd R B e => ?_⟩
  · obtain ⟨⟨o, g, _, d⟩, _⟩ := st; exact ⟨o, _, g, d⟩
  · simp only [List.mem_cons, List.not_mem_nil, or_false] at hb
    rcases hb with rfl | rfl
    · exact .inl rfl
    · exact .inr (.inl (.head _))
  · simp only [List.mem_cons, List.not_mem_nil, or_false] at hb; subst hb; exact ⟨_, ha⟩
  · refine e2a2 hP fun k x hk hv => ?_; clear hP
    have h1 : (kv.map (·.1))[i]? = some k := by rw [List.getElem?_map, hk]; rfl
    rw [p, List.getElem?_map] at h1
    rw [List.getElem?_map] at hd
    cases hq : kvs[i]? with
    | none => rw [hq] at hd; cases hd
    | some pr =>
      rw [hq] at hd h1
      cases hd
      cases h1
      obtain ⟨t, rfl⟩ := Value.isInt_shape hv
      simp only [Is]
      exact ⟨t, rfl⟩
theorem intsAre_length : ∀ {vs : List Value} {ns : List Int}, PyProof.Rows.IntsAre vs ns → vs.length = ns.length
  | _, _, .nil => rfl
  | _, _, .cons _ _ h => by simp [intsAre_length h]
theorem intsAre_get : ∀ {vs : List Value} {ns : List Int} {i : Nat} {k : Int}, PyProof.Rows.IntsAre vs ns → ns[i]? = some k → ∃ t, vs[i]? = some (.int k t)
  | _, _, _, _, .nil, e => by simp at e
  | _, _, 0, _, .cons n t h, e => by simp at e; subst e; exact ⟨t, rfl⟩
  | _, _, i + 1, _, .cons n t h, e => by simpa using intsAre_get h (by simpa using e)
theorem ints_size (a : Int) (n : Nat) : ((List.range n).map fun i : Nat => V.int (a + i)).length = n := by simp
theorem it_range {s₁ : Shared} {s₀ : Heap} {a b : Int} {t u v : Tok} {r : Addr} {Q : List V → List Addr → AH → Prop} (hh : f.A.handled = none) (S₁ : St c f m H s₁) (tk : Tk s₀ s₁.heap) (hr : IsRange s₁.heap r a b 1 t u v)
    (ha : -(2 ^ 62) ≤ a) (ha' : a < 2 ^ 62) (hb : -(2 ^ 62) ≤ b) (hb' : b < 2 ^ 62) (q : Q ((List.range (b - a).toNat).map fun i : Nat => .int (a + i)) [] H) {E : Value → Shared → Prop} :
    wpAny c.M f.A (pyIter (.ref r)) (fun it s₂ => ∃ I ds tr H₁, it = .ref I ∧ Tk s₀ s₂.heap ∧ St c f m H₁ s₂ ∧ f.hE.get? I = none ∧ (∀ p ∈ f.keep, I ≠ p.1) ∧ ItrOk c f.A I ds tr H₁ s₂.heap ∧ Q ds tr H₁) E s₁ := by
  have hI := none_size s₁.heap
  refine e0a6 (S₁.apartOf hI) fun _ b2 _ _ _ b6 => ?_
  refine wpAny_pyIter_range hr (small_one ha ha' hb hb') ⟨_, _, [], H, rfl, tk.trans (Grow.push _ _).tk, S₁.grow (Grow.push _ _) rfl rfl, b2, b6, ?_, q⟩
  have W := Walks.range (prog := c.prog) (w := c.w) hh s₁.heap.objs.size a 1 (b - a).toNat
  rw [← ints_size a (b - a).toNat] at W
  refine ⟨_, _, _, W, ?_, fun i h st => ⟨_, _, st, rfl⟩, fun b hb => .inl (by simpa using hb), fun b hb => (nomatch hb), fun i v d H' h hP hd R B e => ?_⟩
  · rw [ints_size]
    have h1 : Builtin.Range.rangeSize a b 1 = ((b - a).toNat : Int) - ((0 : Nat) : Int) := by rw [rangeSize_one]; split <;> omega
    have h2 : a + ((0 : Nat) : Int) * 1 = a := by simp
    show (s₁.heap.push _).get? _ = _
    rw [Heap.get?_push_size _ rfl, h1, h2]
  · obtain ⟨t, rfl⟩ := hP
    rw [List.getElem?_map] at hd
    cases hq : (List.range (b - a).toNat)[i]? with
    | none => rw [hq] at hd; cases hd
    | some k =>
      rw [hq] at hd; cases hd
      have : k = i := by
        rw [List.getElem?_eq_some_iff] at hq
        obtain ⟨_, hq⟩ := hq
        simpa using hq.symm
      subst this
      simp only [Is]
      exact ⟨t, by rw [Int.mul_one]⟩
theorem EvIt_range1 {x : Str} {p₁ p : Pos} {e : Expr} {Q : List V → List Addr → AH → Prop} (hh : f.A.handled = none)
    (h : Ev c f (.Name x p₁) m H (fun d H' => d = .raw (.type "range") ∧ Ev c f e m H' (fun d H₁ => ∃ n : Int, d = .int n ∧ n < 2 ^ 62 ∧ -(2 ^ 62) ≤ n ∧ Q ((List.range n.toNat).map fun i : Nat => .int i) [] H₁) X) X)
    (he : starEach [e] f.env = [(false, eval e f.env)] := by rfl) : EvIt c f (.Call (.Name x p₁) [e] [] p) m H Q X := .mk fun s S => by
  refine PyProof.Rows.Call_ (wpAny_mono (h s S) (fun v s₁ z => ?_) fun _ _ x => x)
  obtain ⟨t₁, d, H₁, i₁, S₁, rfl, q₁⟩ := z
  obtain rfl : v = .type "range" := i₁
  refine PyProof.Rows.callWith_type1 (PyProof.Rows.args_cons (wpAny_mono (q₁ s₁ S₁) (fun v s₂ z => ?_) fun _ _ x => x) he) he rfl
  obtain ⟨t₂, d, H₂, i₂, S₂, n, rfl, hn, hn', q₂⟩ := z
  simp only [Is] at i₂
  obtain ⟨t, rfl⟩ := i₂
  refine PyProof.Rows.args_nil (call_range_1 ?_)
  have S₃ := S₂.grow (s' := { s₂ with heap := s₂.heap.push { cls := .type "range", data := .fields #[.int 0 s₂.toks, .int n t, .int 1 (s₂.toks + 1)] }, toks := s₂.toks + 1 + 1 }) (Grow.push _ _) rfl rfl
  refine it_range (a := 0) (b := n) hh S₃ (t₁.trans (t₂.trans (Grow.push _ _).tk)) (IsRange.new ..) (by decide) (by decide) hn' hn ?_
  rw [Int.sub_zero]
  have : ((List.range n.toNat).map fun i : Nat => V.int (0 + (i : Int))) = (List.range n.toNat).map fun i : Nat => .int i := by simp
  rw [this]; exact q₂
end
end Mine
set_option maxRecDepth 100000
set_option linter.unusedVariables false
namespace Mine
open PySem
section
variable {c : Cx} {f : Fx} {m : Loc} {H : AH} {X : Value → AH → Prop}
def CompOk (c : Cx) (f : Fx) (m : Loc) (scope : Scope) (cl : List (Str × Addr)) (x : Str) (elt : Expr) (ifs : List Expr) (Q : V → AH → Prop) (ds : List V) (tr : List Addr) (H₁ : AH) : Prop :=
  ds.length ≤ sizeLine ∧ ∃ J : Nat → List V → AH → Prop, J 0 [] H₁ ∧
    (∀ i d acc H' C hE, ds[i]? = some d → J i acc H' → (∀ b ∈ tr, H' b = H₁ b) →
      CompT c (compF f scope cl C hE H') elt ifs (compM m cl x d) H' (fun e H'' => J (i + 1) (acc ++ [e]) H'' ∧ ∀ b ∈ tr, H'' b = H₁ b) (fun H'' => J (i + 1) acc H'' ∧ ∀ b ∈ tr, H'' b = H₁ b)) ∧
    (∀ acc H' a o, J ds.length acc H' → (∀ b ∈ tr, H' b = H₁ b) → H' a = none → Q (.ref a) (H'.set a ⟨o, .list acc⟩))
theorem Ev_comp {x : Str} {px pos : Pos} {iter elt : Expr} {ifs : List Expr} {scope : Scope} {cl : List (Str × Addr)} {Q : V → AH → Prop} (K : CxOk c)
    (h : EvIt c f iter m H (CompOk c f m scope cl x elt ifs Q) X) (hclos : closureFor scope f.env = pure cl)
    (hcell : ∀ y ∈ scope.names, y.2 ≠ .cell) (hkind : scope.kind = .function) (hnames : ∀ y ∈ scope.names, y.2 = .local → scope.names.lookup y.1 = some .local) (hx : scope.names.lookup x = some .local)
    (hcl : ∀ y a, cl.lookup y = some a → f.env.cells.lookup y = some a ∧ f.env.kindOf y = some .cell ∧ (relabel scope f.env).names.lookup y = some .cell)
    (hs : ∀ x, foldedSetIterable iter f.env x = pure x := by intro _; rfl) : Ev c f (.ListComp elt [⟨.Name x px, iter, ifs, 0⟩] scope pos) m H Q X := .mk fun s S => by
  rw [eval_ListComp]
  refine wpAny_comprehension_free (use := none) rfl hs hclos hkind hnames (wpAny_mono (h s S) (fun xv s₁ z => wpAny_mono z (fun it s₂ z => ?_) fun _ _ e => e) fun _ _ e => e)
  refine e4a8 z fun I ds tr H₁ rq45 t₂ S₂ hIn hIk hI hsz rq46 => ?_; clear z; obtain rfl := rq45; refine e1a3 rq46 fun J j0 turn fin => ?_; clear rq46
  refine comp_core (RR := fun acc C => compPost c.M f.A (Thr c f m X) none (Good c f m Q s) acc C) S₂ hIn hIk hI hsz (S₂.sizeBig K) J j0 hcell hkind hx hcl turn ?_
  intro D C s' acc vs H' mv hb S' t' pl ia ns D' C' hD hC hDC jj ee
  refine e0a6 (S₂.apartOf hD) fun _ aD2 aD3 aD4 aD5 aD6 => ?_
  refine e0a6 (S₂.apartOf hC) fun _ aC2 aC3 aC4 aC5 aC6 => ?_
  refine ⟨mv, ns, fun h' sb => ?_⟩
  refine e3a3 ns fun oC esC epC gC dC _ => ?_; clear ns
  obtain ⟨S₃, t₃⟩ := S'.other (s' := { s' with heap := h' }) C' aC2 aC3 aC4 aC5 aC6 (fun o vs n e cl' dt => by rw [gC] at e; cases e; rw [dC] at dt; cases dt) sb.extBut rfl rfl
  refine e2a2 (pl.extBut sb.extBut hDC) fun oD nD gD r => ?_
  exact ⟨t₂.trans (t'.trans t₃), .ref D, _, rfl, S₃.track (x := ⟨oD, .list acc⟩) D' aD2 aD3 aD4 aD5 hb ⟨gD, vs, ⟨oD, nD, gD, r⟩, ia.tk t₃⟩, fin acc H' D oD jj ee D'⟩
theorem Ex_assign_comp {x y : Str} {px py pos q : Pos} {iter elt : Expr} {ifs : List Expr} {scope : Scope} {cl : List (Str × Addr)} {rest : List Stmt} {Q : Ko} (K : CxOk c)
    (h : EvIt c f iter m H (CompOk c f m scope cl x elt ifs (fun d H' => Ex c f rest (m.set y d) H' Q)) (fun C H' => Q (.exc C) m H'))
    (hsw : swapsWith (.ListComp elt [⟨.Name x px, iter, ifs, 0⟩] scope pos) (some (.Name y py)) q.line f.env = pure true) (hclos : closureFor scope f.env = pure cl)
    (hcell : ∀ y ∈ scope.names, y.2 ≠ .cell) (hkind : scope.kind = .function) (hnames : ∀ y ∈ scope.names, y.2 = .local → scope.names.lookup y.1 = some .local) (hx : scope.names.lookup x = some .local)
    (hcl : ∀ y a, cl.lookup y = some a → f.env.cells.lookup y = some a ∧ f.env.kindOf y = some .cell ∧ (relabel scope f.env).names.lookup y = some .cell)
    (hy : (f.env.kindOf y = some .local) ∨ (f.env.kindOf y = some .cell ∧ (f.env.cells.lookup y).isSome = true)) (hfn : f.fn = true := by rfl) (hk : f.env.scope.kind = .function := by rfl)
    (hs : ∀ x, foldedSetIterable iter f.env x = pure x := by intro _; rfl) : Ex c f (.Assign [.Name y py] (.ListComp elt [⟨.Name x px, iter, ifs, 0⟩] scope pos) q :: rest) m H Q := .mk fun s S => by
  refine wpAny_execs_cons ?_
  rw [exec_Assign_Name_used _ _ _ _ hsw]
  refine wpAny_bind (wpAny_standAt (wpAny_bind ?_))
  show wpAny c.M f.A (do let _ ← comprehension (.ListComp elt [⟨.Name x px, iter, ifs, 0⟩] scope pos) scope f.env _ (newList []) false (eval iter f.env) (some (assign (.Name y py) f.env))) _ _ s
  refine wpAny_bind (wpAny_mono (wpAny_comprehension_free (use := some (assign (.Name y py) f.env)) (Q := fun _ s' => ∃ H' D, St c f (m.set y (.ref D)) H' s' ∧ Ex c f rest (m.set y (.ref D)) H' Q) rfl hs hclos hkind hnames
    (wpAny_mono (h s S) (fun xv s₁ z => wpAny_mono z (fun it s₂ z => ?_) fun x s' z => z.ex fun _ _ y => y) fun x s' z => z.ex fun _ _ y => y)) (fun _ s' z => ?_) fun _ _ e => e)
  · refine e4a8 z fun I ds tr H₁ rq47 t₂ S₂ hIn hIk hI hsz rq48 => ?_; clear z; obtain rfl := rq47; refine e1a3 rq48 fun J j0 turn fin => ?_; clear rq48
    refine comp_core (RR := fun acc C => compPost c.M f.A (ExTh c f Q) (some (assign (.Name y py) f.env)) (fun _ s' => ∃ H' D, St c f (m.set y (.ref D)) H' s' ∧ Ex c f rest (m.set y (.ref D)) H' Q) acc C) S₂ hIn hIk hI hsz (S₂.sizeBig K) J j0 hcell hkind hx hcl turn ?_
    intro D C s' acc vs H' mv hb S' t' pl ia ns D' C' hD hC hDC jj ee
    refine e0a6 (S₂.apartOf hD) fun _ aD2 aD3 aD4 aD5 aD6 => ?_
    refine e0a6 (S₂.apartOf hC) fun _ aC2 aC3 aC4 aC5 aC6 => ?_
    refine e2a2 pl fun oD nD gD r => ?_; clear pl
    refine e3a3 (id ns) fun oC esC epC gC dC nsr => ?_
    have S₃ := S'.track (x := ⟨oD, .list acc⟩) D' aD2 aD3 aD4 aD5 hb ⟨gD, vs, ⟨oD, nD, gD, r⟩, ia⟩
    -- the store, with the comprehension's own names standing by
    show wpAny c.M f.A (assign (.Name y py) f.env (.ref D)) _ _ _
    have HC : (H'.set D ⟨oD, .list acc⟩) C = none := (AH.set_other H' _ (Ne.symm hDC)).trans C'
    refine wpAny_assign_Name (store_ok S₃ (d := .ref D) rfl hy hfn hk fun s'' S'' _ kp => ?_)
    have gC'' := kp C oC aC3 (fun x a e q => aC4 x a e q.symm) gC
    refine ⟨mv, ⟨oC, esC, epC, gC'', dC, nsr⟩, fun h' sb => ?_⟩
    obtain ⟨S₅, _⟩ := S''.other (s' := { s'' with heap := h' }) HC aC2 aC3 aC4 aC5 aC6 (fun o vs n e cl' dt => by rw [gC''] at e; cases e; rw [dC] at dt; cases dt) sb.extBut rfl rfl
    exact ⟨_, D, S₅, fin acc H' D oD jj ee D'⟩
  · refine e2a2 z fun H' D S' e => ?_; clear z
    exact wpAny_pure (wpAny_pure (e s' S'))
end
end Mine
set_option maxRecDepth 100000
set_option linter.unusedVariables false
namespace Mine
open PySem PyProof.Rows
section
variable {c : Cx} {f : Fx} {m : Loc} {H : AH} {X : Value → AH → Prop} {Q : V → AH → Prop}
theorem Ev_callB {x : Str} {p₁ p : Pos} {e : Expr} {es : List Expr} {id : String}
    (h : Ev c f (.Name x p₁) m H (fun d H' => d = .raw (.builtin id) ∧ Evs c f (e :: es) p m H' (fun ds H'' => OpN c f (fun vs => call (.builtin id) vs) ds m H'' Q X) X) X)
    (he : starEach (e :: es) f.env = (false, eval e f.env) :: starEach es f.env := by rfl) (hp : (backTo p (starEach es f.env)).any (·.1) = false := by rfl) : Ev c f (.Call (.Name x p₁) (e :: es) [] p) m H Q X := .mk fun s S => by
  refine Call_ (wpAny_mono (h s S) (fun v s₁ z => ?_) fun _ _ x => x)
  obtain ⟨t₁, d, H₁, i₁, S₁, rfl, q₁⟩ := z
  obtain rfl : v = .builtin id := i₁
  refine callWith_builtin1 (wpAny_mono (q₁ s₁ S₁) (fun vs s₂ z => ?_) fun _ _ x => x) he hp
  obtain ⟨t₂, ds, H₂, i₂, S₂, q₂⟩ := z
  exact wpAny_mono (q₂ s₂ vs S₂ i₂) (fun v s₃ ⟨t₃, r⟩ => ⟨t₁.trans (t₂.trans t₃), r⟩) fun _ _ x => x
theorem Ev_callT {x : Str} {p₁ p : Pos} {e : Expr} {es : List Expr} {T : String}
    (h : Ev c f (.Name x p₁) m H (fun d H' => d = .raw (.type T) ∧ Evs c f (e :: es) p m H' (fun ds H'' => OpN c f (fun vs => call (.type T) vs) ds m H'' Q X) X) X)
    (he : starEach (e :: es) f.env = (false, eval e f.env) :: starEach es f.env := by rfl) (hp : (backTo p (starEach es f.env)).any (·.1) = false := by rfl) : Ev c f (.Call (.Name x p₁) (e :: es) [] p) m H Q X := .mk fun s S => by
  refine Call_ (wpAny_mono (h s S) (fun v s₁ z => ?_) fun _ _ x => x)
  obtain ⟨t₁, d, H₁, i₁, S₁, rfl, q₁⟩ := z
  obtain rfl : v = .type T := i₁
  refine callWith_type1 (wpAny_mono (q₁ s₁ S₁) (fun vs s₂ z => ?_) fun _ _ x => x) he hp
  obtain ⟨t₂, ds, H₂, i₂, S₂, q₂⟩ := z
  exact wpAny_mono (q₂ s₂ vs S₂ i₂) (fun v s₃ ⟨t₃, r⟩ => ⟨t₁.trans (t₂.trans t₃), r⟩) fun _ _ x => x
def Pes (c : Cx) (f : Fx) (es : List Expr) (m : Loc) (H : AH) (ds : List V) : Prop := ∀ p, Evs c f es p m H (fun ds' H' => ds' = ds ∧ H' = H) (fun _ _ => False)
theorem Evs.mono {p : Pos} {es : List Expr} {Q Q' : List V → AH → Prop} {X' : Value → AH → Prop} (h : Evs c f es p m H Q X) (k : ∀ d H, Q d H → Q' d H) (kx : ∀ C H, X C H → X' C H) : Evs c f es p m H Q' X' :=
  .mk fun s S => wpAny_mono (h s S) (fun _ _ ⟨t, d, H', i, S', q⟩ => ⟨t, d, H', i, S', k _ _ q⟩) fun _ _ g => g.mono kx
theorem Pes.evs {p : Pos} {es : List Expr} {ds : List V} {Q : List V → AH → Prop} (h : Pes c f es m H ds) (q : Q ds H) : Evs c f es p m H Q X :=
  Evs.mono (h p) (fun _ _ ⟨a, b⟩ => by subst a; subst b; exact q) fun _ _ z => z.elim
theorem Pes_nil : Pes c f [] m H [] := fun p => Evs_nil ⟨rfl, rfl⟩
theorem Pes_cons {e : Expr} {es : List Expr} {d : V} {ds : List V} (h : Pe c f e m H d) (hs : Pes c f es m H ds) (he : starEach (e :: es) f.env = (false, eval e f.env) :: starEach es f.env := by rfl) : Pes c f (e :: es) m H (d :: ds) := fun p =>
  Evs_cons (h.ev (hs.evs ⟨rfl, rfl⟩)) he
theorem Pe_var {x : Str} {p : Pos} {d : V} (hx : m x = some d) (hk : f.env.scope.kind = .function := by rfl) (hd : (x == ("__debug__" : Str)) = false := by decide)
    (hn : (x == ("__classdict__" : Str)) = false := by decide) : Pe c f (.Name x p) m H d := Ev_var hx ⟨rfl, rfl⟩ hk hd hn
theorem Pe_glob {x : Str} {p : Pos} {v : Value} (K : CxOk c) (hx : GN c x v) (hg : f.env.globals = mainGlobals := by rfl) (hb : f.env.builtins = builtinsNs := by rfl)
    (hk : f.env.scope.kind = .function := by rfl) (hn : f.env.kindOf x = some .globalImplicit := by rfl) (hd : (x == ("__debug__" : Str)) = false := by decide) : Pe c f (.Name x p) m H (.raw v) := Ev_glob K hx ⟨rfl, rfl⟩ hg hb hk hn hd
theorem Pe_int {i : Int} {k : Nat} {p : Pos} : Pe c f (.Constant (.int i) k p) m H (.int i) := Ev_int ⟨rfl, rfl⟩
theorem Pe_str {x : Str} {k : Nat} {p : Pos} : Pe c f (.Constant (.str x) k p) m H (.str x) := Ev_str ⟨rfl, rfl⟩
theorem Pe_none {k : Nat} {p : Pos} : Pe c f (.Constant .none k p) m H .none := Ev_none ⟨rfl, rfl⟩
theorem Pe_bool {b : Bool} {k : Nat} {p : Pos} : Pe c f (.Constant (.bool b) k p) m H (.bool b) := Ev_bool ⟨rfl, rfl⟩
structure B2 (c : Cx) (f : Fx) (H : AH) (t : Value → Value → Sem Value) (d₁ d₂ d : V) : Prop where
  mk ::
  run :
   ∀ m s v₁ v₂, St c f m H s → Is s.heap d₁ v₁ → Is s.heap d₂ v₂ → Yield c f.A (t v₁ v₂) s d
instance {c : Cx} {f : Fx} {H : AH} {t : Value → Value → Sem Value} {d₁ d₂ d : V} : CoeFun (B2 c f H t d₁ d₂ d) (fun _ =>
   ∀ m s v₁ v₂, St c f m H s → Is s.heap d₁ v₁ → Is s.heap d₂ v₂ → Yield c f.A (t v₁ v₂) s d) := ⟨B2.run⟩
theorem B2.op {t : Value → Value → Sem Value} {d₁ d₂ d : V} (h : B2 c f H t d₁ d₂ d) (q : Q d H) : Op2 c f t d₁ d₂ m H Q X := .mk fun s v₁ v₂ S i₁ i₂ => (h m s v₁ v₂ S i₁ i₂).good S q
structure BN (c : Cx) (f : Fx) (H : AH) (t : List Value → Sem Value) (ds : List V) (d : V) : Prop where
  mk ::
  run :
   ∀ m s vs, St c f m H s → IsAll s.heap ds vs → Yield c f.A (t vs) s d
instance {c : Cx} {f : Fx} {H : AH} {t : List Value → Sem Value} {ds : List V} {d : V} : CoeFun (BN c f H t ds d) (fun _ =>
   ∀ m s vs, St c f m H s → IsAll s.heap ds vs → Yield c f.A (t vs) s d) := ⟨BN.run⟩
theorem BN.op {t : List Value → Sem Value} {ds : List V} {d : V} (h : BN c f H t ds d) (q : Q d H) : OpN c f t ds m H Q X := .mk fun s vs S i => (h m s vs S i).good S q
theorem Pe_bin {l r : Expr} {op : Operator} {p : Pos} {d₁ d₂ d : V} (hl : Pe c f l m H d₁) (hr : Pe c f r m H d₂) (h : B2 c f H (binaryOp op) d₁ d₂ d) : Pe c f (.BinOp l op r p) m H d :=
  Ev_bin (hl.ev (hr.ev (h.op ⟨rfl, rfl⟩)))
theorem Pe_cmp {l r : Expr} {op : CmpOp} {p : Pos} {d₁ d₂ d : V} (hl : Pe c f l m H d₁) (hr : Pe c f r m H d₂) (h : B2 c f H (compareOp op) d₁ d₂ d) (hm : behindInMarks op r = false := by with_unfolding_all rfl) : Pe c f (.Compare l [op] [r] p) m H d :=
  Ev_cmp (hl.ev (hr.ev (h.op ⟨rfl, rfl⟩))) hm
theorem Tp_cmp {l r : Expr} {op : CmpOp} {p : Pos} {d₁ d₂ : V} {b : Bool} {P : Prop} (hl : Pe c f l m H d₁) (hr : Pe c f r m H d₂) (h : B2 c f H (compareOp op) d₁ d₂ (.bool b)) (hP : b = true ↔ P) (hm : behindInMarks op r = false := by with_unfolding_all rfl) :
    Tp c f (.Compare l [op] [r] p) m H P := Ts_cmp (hl.ev (hr.ev (h.op ⟨b, rfl, rfl, hP⟩))) hm
theorem Pe_callB {x : Str} {p₁ p : Pos} {e : Expr} {es : List Expr} {id : String} {ds : List V} {d : V} (hx : Pe c f (.Name x p₁) m H (.raw (.builtin id))) (hs : Pes c f (e :: es) m H ds) (h : BN c f H (fun vs => call (.builtin id) vs) ds d)
    (he : starEach (e :: es) f.env = (false, eval e f.env) :: starEach es f.env := by rfl) (hp : (backTo p (starEach es f.env)).any (·.1) = false := by rfl) : Pe c f (.Call (.Name x p₁) (e :: es) [] p) m H d :=
  Ev_callB (hx.ev ⟨rfl, hs.evs (h.op ⟨rfl, rfl⟩)⟩) he hp
theorem Pe_call {x : Str} {p₁ p : Pos} {e : Expr} {es : List Expr} {k : Nat} {fa : Addr} {o : Obj} {fd : FuncData} {ds : List V} {d : V} (ho : c.base.get? fa = some o) (hd : o.data = .func fd) (R : Room k f.A) (hf : f.A.frames = some f.frs)
    (hx : Pe c f (.Name x p₁) m H (.ref fa)) (hs : Pes c f (e :: es) m H ds) (h : Fn c k (.ref fa) ds H (fun d' H' => d' = d ∧ H' = H) (fun _ _ => False))
    (he : starEach (e :: es) f.env = (false, eval e f.env) :: starEach es f.env := by rfl) : Pe c f (.Call (.Name x p₁) (e :: es) [] p) m H d :=
  Ev_call ho hd R hf (hx.ev ⟨rfl, hs.evs h⟩) he
-- ints
theorem is_int {h : Heap} {i : Int} {v : Value} (x : Is h (.int i) v) : ∃ t, v = .int i t := by simpa only [Is] using x
theorem is_str {h : Heap} {i : Str} {v : Value} (x : Is h (.str i) v) : ∃ t, v = .str i t := by simpa only [Is] using x
theorem is_raw {h : Heap} {u v : Value} (x : Is h (.raw u) v) : v = u := by simpa only [Is] using x
theorem mk_int {h : Heap} {i : Int} {t : Tok} : Is h (.int i) (.int i t) := by simp only [Is]; exact ⟨t, rfl⟩
theorem mk_str {h : Heap} {i : Str} {t : Tok} : Is h (.str i) (.str i t) := by simp only [Is]; exact ⟨t, rfl⟩
theorem mk_raw {h : Heap} {u : Value} : Is h (.raw u) u := by simp only [Is]
theorem B_add {a b : Int} : B2 c f H (binaryOp .Add) (.int a) (.int b) (.int (a + b)) := .mk fun m s v₁ v₂ S i₁ i₂ => by
  obtain ⟨t, rfl⟩ := is_int i₁; obtain ⟨u, rfl⟩ := is_int i₂
  exact PyProof.Rows.add_int ⟨Grow.refl _, rfl, rfl, mk_int⟩
theorem B_sub {a b : Int} : B2 c f H (binaryOp .Sub) (.int a) (.int b) (.int (a - b)) := .mk fun m s v₁ v₂ S i₁ i₂ => by
  obtain ⟨t, rfl⟩ := is_int i₁; obtain ⟨u, rfl⟩ := is_int i₂
  exact PyProof.Rows.sub_int ⟨Grow.refl _, rfl, rfl, mk_int⟩
theorem B_mul {a b : Int} (hm : IntMulOk a b) : B2 c f H (binaryOp .Mult) (.int a) (.int b) (.int (a * b)) := .mk fun m s v₁ v₂ S i₁ i₂ => by
  obtain ⟨t, rfl⟩ := is_int i₁; obtain ⟨u, rfl⟩ := is_int i₂
  exact PyProof.Rows.mul_int ⟨Grow.refl _, rfl, rfl, mk_int⟩ hm
theorem B_div {a b : Int} (hb : 0 < b) (hb2 : b < 1073741824) : B2 c f H (binaryOp .FloorDiv) (.int a) (.int b) (.int (a / b)) := .mk fun m s v₁ v₂ S i₁ i₂ => by
  obtain ⟨t, rfl⟩ := is_int i₁; obtain ⟨u, rfl⟩ := is_int i₂
  refine PyProof.Rows.floordiv_int (by exact om13 hb) ?_ (.inl (PyProof.noPylong_small (by omega)))
  rw [Int.fdiv_eq_ediv_of_nonneg _ (by exact om14 hb)]
  exact ⟨Grow.refl _, rfl, rfl, mk_int⟩
theorem B_mod {a b : Int} (hb : 0 < b) : B2 c f H (binaryOp .Mod) (.int a) (.int b) (.int (a % b)) := .mk fun m s v₁ v₂ S i₁ i₂ => by
  obtain ⟨t, rfl⟩ := is_int i₁; obtain ⟨u, rfl⟩ := is_int i₂
  refine PyProof.Rows.mod_int (by exact om13 hb) ?_
  rw [Int.fmod_eq_emod_of_nonneg _ (by exact om14 hb)]
  exact ⟨Grow.refl _, rfl, rfl, mk_int⟩
theorem Pe_neg {e : Expr} {p : Pos} {a : Int} (h : Pe c f e m H (.int a)) : Pe c f (.UnaryOp .USub e p) m H (.int (-a)) := .mk fun s S => by
  show wpAny c.M f.A (do let v ← eval e f.env; standAt p; holding [v] (unaryOp .USub v)) _ _ s
  refine wpAny_bind (wpAny_mono (h s S) (fun v s₁ z => ?_) fun _ _ x => x)
  obtain ⟨t, d, H', i, S₁, rfl, rfl⟩ := z
  obtain ⟨u, rfl⟩ := is_int i
  exact wpAny_bind (wpAny_standAt (wpAny_holding (PyProof.Rows.neg_int ⟨t, .int (-a), H', mk_int, S₁.grow (s' := { s₁ with toks := s₁.toks + 1 }) (Grow.refl _) rfl rfl, rfl, rfl⟩)))
theorem B_lt {a b : Int} : B2 c f H (compareOp .Lt) (.int a) (.int b) (.bool (decide (a < b))) := .mk fun m s v₁ v₂ S i₁ i₂ => by
  obtain ⟨t, rfl⟩ := is_int i₁; obtain ⟨u, rfl⟩ := is_int i₂
  exact PyProof.Rows.lt_int ⟨Grow.refl _, rfl, rfl, mk_raw⟩
theorem B_le {a b : Int} : B2 c f H (compareOp .LtE) (.int a) (.int b) (.bool (decide (a ≤ b))) := .mk fun m s v₁ v₂ S i₁ i₂ => by
  obtain ⟨t, rfl⟩ := is_int i₁; obtain ⟨u, rfl⟩ := is_int i₂
  exact PyProof.Rows.le_int ⟨Grow.refl _, rfl, rfl, mk_raw⟩
theorem B_gt {a b : Int} : B2 c f H (compareOp .Gt) (.int a) (.int b) (.bool (decide (b < a))) := .mk fun m s v₁ v₂ S i₁ i₂ => by
  obtain ⟨t, rfl⟩ := is_int i₁; obtain ⟨u, rfl⟩ := is_int i₂
  exact PyProof.Rows.gt_int ⟨Grow.refl _, rfl, rfl, mk_raw⟩
theorem B_eq {a b : Int} : B2 c f H (compareOp .Eq) (.int a) (.int b) (.bool (a == b)) := .mk fun m s v₁ v₂ S i₁ i₂ => by
  obtain ⟨t, rfl⟩ := is_int i₁; obtain ⟨u, rfl⟩ := is_int i₂
  exact PyProof.Rows.eq_int ⟨Grow.refl _, rfl, rfl, mk_raw⟩
theorem B_ne {a b : Int} : B2 c f H (compareOp .NotEq) (.int a) (.int b) (.bool (a != b)) := .mk fun m s v₁ v₂ S i₁ i₂ => by
  obtain ⟨t, rfl⟩ := is_int i₁; obtain ⟨u, rfl⟩ := is_int i₂
  exact PyProof.Rows.ne_int ⟨Grow.refl _, rfl, rfl, mk_raw⟩
theorem B_eqs {x y : Str} : B2 c f H (compareOp .Eq) (.str x) (.str y) (.bool (x == y)) := .mk fun m s v₁ v₂ S i₁ i₂ => by
  obtain ⟨t, rfl⟩ := is_str i₁; obtain ⟨u, rfl⟩ := is_str i₂
  exact PyProof.Rows.eq_str ⟨Grow.refl _, rfl, rfl, mk_raw⟩
theorem B_nes {x y : Str} : B2 c f H (compareOp .NotEq) (.str x) (.str y) (.bool (x != y)) := .mk fun m s v₁ v₂ S i₁ i₂ => by
  obtain ⟨t, rfl⟩ := is_str i₁; obtain ⟨u, rfl⟩ := is_str i₂
  exact PyProof.Rows.ne_str ⟨Grow.refl _, rfl, rfl, mk_raw⟩
theorem B_cat {x y : Str} (hsz : x.length + y.length ≤ sizeLine) : B2 c f H (binaryOp .Add) (.str x) (.str y) (.str (x ++ y)) := .mk fun m s v₁ v₂ S i₁ i₂ => by
  obtain ⟨t, rfl⟩ := is_str i₁; obtain ⟨u, rfl⟩ := is_str i₂
  exact PyProof.Rows.add_str (fun t' tk => ⟨Grow.refl _, rfl, rfl, mk_str⟩) hsz
theorem isNone_iff {h : Heap} {d : V} {v : Value} (i : Is h d v) : (v == .none) = true ↔ d = .none := by
  rw [beq_iff_eq]
  cases d with
  | int i' => obtain ⟨t, rfl⟩ := is_int i; exact ⟨(fun e => nomatch e), (fun e => nomatch e)⟩
  | str i' => obtain ⟨t, rfl⟩ := is_str i; exact ⟨(fun e => nomatch e), (fun e => nomatch e)⟩
  | tup ds => simp only [Is] at i; refine e2a2 i fun a vs rq49 _ => ?_; clear i; obtain rfl := rq49; exact ⟨(fun e => nomatch e), (fun e => nomatch e)⟩
  | raw u => obtain rfl := is_raw i; exact ⟨fun e => by rw [e], fun e => by injection e⟩
theorem Tp_isNone {l : Expr} {p p₂ : Pos} {k : Nat} {d : V} (hl : Pe c f l m H d) : Tp c f (.Compare l [.Is] [.Constant .none k p₂] p) m H (d = .none) :=
  Ts_cmp (hl.ev (Pe_none.ev <| .mk fun s v₁ v₂ S i₁ i₂ => by
    obtain rfl := is_raw i₂
    exact is_none ⟨Tk.refl _, _, H, mk_raw, S, _, rfl, rfl, isNone_iff i₁⟩))
theorem Tp_isNotNone {l : Expr} {p p₂ : Pos} {k : Nat} {d : V} (hl : Pe c f l m H d) : Tp c f (.Compare l [.IsNot] [.Constant .none k p₂] p) m H (d ≠ .none) :=
  Ts_cmp (hl.ev (Pe_none.ev <| .mk fun s v₁ v₂ S i₁ i₂ => by
    obtain rfl := is_raw i₂
    refine isNot_none ⟨Tk.refl _, _, H, mk_raw, S, _, rfl, rfl, ?_⟩
    rw [ne_eq, ← isNone_iff i₁]; simp))
-- tests
theorem Tp_not {e : Expr} {p : Pos} {P : Prop} (h : Tp c f e m H P) : Tp c f (.UnaryOp .Not e p) m H (¬ P) :=
  Ts_not (Ts.mono h (fun b H' ⟨e, q⟩ => ⟨e, by cases b <;> simp_all⟩) fun _ _ z => z)
theorem Tp_val {e : Expr} {b : Bool} {P : Prop} (h : Pe c f e m H (.bool b)) (hP : b = true ↔ P) (he : ∀ w, isTrue e f.env w = (do let v ← w; standAt e.pos; holding [v] (truthy v)) := by intro _; rfl) : Tp c f e m H P :=
  Ts_val (h.ev ⟨b, rfl, rfl, hP⟩) he
end
end Mine
set_option maxRecDepth 100000
set_option linter.unusedVariables false
namespace Mine
open PySem PyProof.Rows PySem.Builtin
section
variable {c : Cx} {f : Fx} {m : Loc} {H : AH} {X : Value → AH → Prop} {Q : V → AH → Prop}
structure G2 (c : Cx) (f : Fx) (H : AH) (o i d : V) : Prop where
  mk ::
  run :
   ∀ m s vo vi, St c f m H s → Is s.heap o vo → Is s.heap i vi → ∃ T id, s.TypeIs vo T ∧ typeLookup (.type T) "__getitem__" = pure (some (.builtin id)) ∧ Yield c f.A (getItem vo vi) s d
instance {c : Cx} {f : Fx} {H : AH} {o i d : V} : CoeFun (G2 c f H o i d) (fun _ =>
   ∀ m s vo vi, St c f m H s → Is s.heap o vo → Is s.heap i vi → ∃ T id, s.TypeIs vo T ∧ typeLookup (.type T) "__getitem__" = pure (some (.builtin id)) ∧ Yield c f.A (getItem vo vi) s d) := ⟨G2.run⟩
theorem Pe_sub {value slice : Expr} {p : Pos} {o i d : V} (hv : Pe c f value m H o) (hi : Pe c f slice m H i) (h : G2 c f H o i d)
    (hs : ∀ o i, ∃ ops, subscripted slice false o i = operate ops (getItem o i) := by intro o i; exact ⟨_, rfl⟩) : Pe c f (.Subscript value slice p) m H d := .mk fun s S => by
  refine Subscript_ (wpAny_mono (hv s S) (fun vo s₁ z => ?_) fun _ _ x => x)
  obtain ⟨t₁, d₁, H₁, i₁, S₁, rfl, rfl⟩ := z
  refine wpAny_mono (hi s₁ S₁) (fun vi s₂ z => ?_) fun _ _ x => x
  obtain ⟨t₂, d₂, H₂, i₂, S₂, rfl, rfl⟩ := z
  refine e2a3 (h m s₂ vo vi S₂ (i₁.tk t₂) i₂) fun T id hT hl y => ?_
  obtain ⟨ops, e⟩ := hs vo vi
  refine tail_any hT hl (wpAny_mono y (fun v s₃ z => ?_) fun _ _ x => x.elim) e
  refine e0a4 z fun g hg ho i => ?_; clear z
  exact ⟨t₁.trans (t₂.trans g.tk), d, _, i, S₂.grow g hg ho, rfl, rfl⟩
abbrev V.s (l : List Nat) : V := .str ⟨l.toArray⟩
theorem V.s_of (x : Str) : V.str x = V.s x.cps.toList := by cases x; simp
theorem Pe_strc {x : Str} {k : Nat} {p : Pos} : Pe c f (.Constant (.str x) k p) m H (.s x.cps.toList) := V.s_of x ▸ Pe_str
theorem mk_length (l : List Nat) : Str.length ⟨l.toArray⟩ = l.length := by simp [Str.length]
theorem item_mk {l : List Nat} {i : Int} {ch : Nat} {j : Nat} (hj : seqIndex? i l.length = some j) (hc : l[j]? = some ch) : Txt.item ⟨l.toArray⟩ i = ⟨[ch].toArray⟩ ∧ (Txt.charAt ⟨l.toArray⟩ i).isSome = true := by
  have : Txt.charAt ⟨l.toArray⟩ i = some ch := by
    unfold Txt.charAt; rw [mk_length, hj]; simpa using hc
  exact ⟨by unfold Txt.item; rw [this]; rfl, by rw [this]; rfl⟩
theorem seqIndex_pos {i : Int} {n : Nat} (h0 : 0 ≤ i) (h1 : i < n) : seqIndex? i n = some i.toNat := by
  have : ¬ i < 0 := by exact om15 h0
  simp [seqIndex?, this, h0, h1]
theorem seqIndex_neg {i : Int} {n : Nat} (h0 : i < 0) (h1 : 0 ≤ i + n) : seqIndex? i n = some (i + n).toNat := by
  have : i + n < n := by exact om16 h0
  simp [seqIndex?, h0, h1, this]
theorem fits_of {i : Int} (h : -9223372036854775808 ≤ i ∧ i < 9223372036854775808) : fitsSsize i = true := by
  unfold fitsSsize; simp; exact om17 h
theorem G_str {l : List Nat} {i : Int} {j ch : Nat} (hj : seqIndex? i l.length = some j) (hc : l[j]? = some ch) (hf : -9223372036854775808 ≤ i ∧ i < 9223372036854775808) : G2 c f H (.s l) (.int i) (.s [ch]) := .mk fun m s vo vi S io ii => by
  obtain ⟨t, rfl⟩ := is_str io; obtain ⟨u, rfl⟩ := is_int ii
  obtain ⟨e, e'⟩ := item_mk hj hc
  refine e2a3 (SB.item (prog := c.prog) (w := c.w) (A := f.A) (E := fun _ _ => False) (s := s) (t := t) (u := u) (x := ⟨l.toArray⟩) (i := i) (Q := fun v s' => Grow s.heap s'.heap ∧ s'.gens = s.gens ∧ s'.os = s.os ∧ Is s'.heap (.s [ch]) v) (fits_of hf) e' (by rw [e]; exact ⟨Grow.refl _, rfl, rfl, mk_str⟩)) fun T id hl hT h => ?_
  exact ⟨T, id, hT, hl, h⟩
theorem G_tup {ds : List V} {i : Int} {j : Nat} {d : V} (hj : seqIndex? i ds.length = some j) (hd : ds[j]? = some d) (hf : -9223372036854775808 ≤ i ∧ i < 9223372036854775808) : G2 c f H (.tup ds) (.int i) d := .mk fun m s vo vi S io ii => by
  simp only [Is] at io; refine e2a3 io fun a vs rq50 rq51 ia => ?_; clear io; obtain rfl := rq50; obtain ⟨o, n, g, cl, dt⟩ := rq51; obtain ⟨u, rfl⟩ := is_int ii
  refine e1a2 (ia.get hd) fun v hv iv => ?_
  have ht : IsTup s.heap a vs.toArray := ⟨o, g, cl, n, dt⟩
  exact ⟨"tuple", _, ht.typeIs, slot_tuple_getitem.lookup, getItem_tuple ht (by omega) (by omega) (by rw [List.size_toArray, ia.length]; exact hj) (by simpa using hv) ⟨Grow.refl _, rfl, rfl, iv⟩⟩
theorem pick_take {l : List Nat} : ∀ (n a : Nat), a + n ≤ l.length → ((List.range n).map (fun k => a + k)).filterMap (l[·]?) = (l.take (a + n)).drop a
  | 0, a, h => by simp
  | n + 1, a, h => by
    have ih := pick_take (l := l) n (a + 1) (by exact om18 h)
    have ha : a < (l.take (a + (n + 1))).length := by simp; exact om19 h
    rw [List.drop_eq_getElem_cons ha, List.range_succ_eq_map, List.map_cons, List.filterMap_cons]
    have e : l[a + 0]? = some l[a] := by rw [Nat.add_zero]; exact List.getElem?_eq_getElem (by exact om20 h)
    rw [e]
    simp only [List.map_map, List.getElem_take]
    refine congrArg _ ?_
    rw [show a + (n + 1) = a + 1 + n by exact om21, ← ih]
    refine congrArg _ (List.map_congr_left fun k _ => ?_)
    simp only [Function.comp]; omega
theorem congrTwo {α β γ : Type} {f : α → β → γ} {a a' : α} {b b' : β} (h : a = a') (k : b = b') : f a b = f a' b' := by rw [h, k]
theorem slice_clip {i : Int} {n : Nat} (h : 0 ≤ i) : max 0 (min i (n : Int)) = ((min i.toNat n : Nat) : Int) := by exact om22
theorem slice_sr (p q : Nat) : sliceRange (p : Int) (q : Int) 1 = (List.range (q - p)).map (fun k => p + k) := by
  unfold sliceRange
  simp only [show (1 : Int) > 0 by decide, if_true]
  refine congrTwo (funext fun k => by exact om23) (congrArg _ ?_)
  split <;> omega
theorem slice_mk {l : List Nat} {lo hi : Option Int} {a b : Nat} (hlo : (lo = none ∧ a = 0) ∨ ∃ i, lo = some i ∧ 0 ≤ i ∧ a = i.toNat) (hhi : (hi = none ∧ b = l.length) ∨ ∃ j, hi = some j ∧ 0 ≤ j ∧ b = j.toNat) :
    Txt.slice ⟨l.toArray⟩ lo hi = ⟨((l.take b).drop a).toArray⟩ := by
  have key : Str.strSliceIndices lo hi 1 l.length = (List.range (min b l.length - min a l.length)).map (fun k => min a l.length + k) := by
    rw [← slice_sr]
    unfold Str.strSliceIndices
    rcases hlo with ⟨rfl, rfl⟩ | ⟨i, rfl, h0, rfl⟩ <;> rcases hhi with ⟨rfl, rfl⟩ | ⟨j, rfl, h0', rfl⟩ <;> simp only [show (1 : Int) > 0 by decide, if_true]
    · rw [Nat.zero_min, Nat.min_self]; rfl
    · rw [if_neg (Int.not_lt.mpr h0'), slice_clip h0', Nat.zero_min]; rfl
    · rw [if_neg (Int.not_lt.mpr h0), slice_clip h0, Nat.min_self]
    · rw [if_neg (Int.not_lt.mpr h0), slice_clip h0, if_neg (Int.not_lt.mpr h0'), slice_clip h0']
  clear hlo hhi
  unfold Txt.slice
  rw [mk_length, key]
  have e2 : (l.take b).drop a = (l.take (min b l.length)).drop (min a l.length) := by
    by_cases hb : b ≤ l.length
    · by_cases ha : a ≤ l.length
      · rw [Nat.min_eq_left hb, Nat.min_eq_left ha]
      · rw [Nat.min_eq_left hb, Nat.min_eq_right (by exact om24 ha), List.drop_of_length_le (by simp; exact om25 ha), List.drop_of_length_le (by simp; exact om26)]
    · rw [Nat.min_eq_right (by exact om24 hb : l.length ≤ b), List.take_of_length_le (by exact om24 hb), List.take_of_length_le (Nat.le_refl _)]
      by_cases ha : a ≤ l.length
      · rw [Nat.min_eq_left ha]
      · rw [Nat.min_eq_right (by exact om24 ha), List.drop_of_length_le (by exact om24 ha), List.drop_of_length_le (by exact om27)]
  rw [e2]
  by_cases hab : min a l.length ≤ min b l.length
  · have hp := pick_take (l := l) (min b l.length - min a l.length) (min a l.length) (by exact om28)
    rw [show min a l.length + (min b l.length - min a l.length) = min b l.length by exact om29 hab] at hp
    split
    · rename_i hc
      simp only [beq_self_eq_true, Bool.true_and, List.length_map, List.length_range, beq_iff_eq] at hc
      rw [show min a l.length = 0 by exact om30 hc, show min b l.length = l.length by exact om31 hc]
      simp
    · rw [← hp]
      simp
  · have h0 : min b l.length - min a l.length = 0 := by exact om32 hab
    rw [h0]
    have hr : List.drop (min a l.length) (List.take (min b l.length) l) = [] := List.drop_of_length_le (by simp; exact om33 hab)
    rw [hr]
    split
    · rename_i hc
      simp only [beq_self_eq_true, Bool.true_and, List.length_map, List.length_range, beq_iff_eq] at hc
      have : l = [] := List.length_eq_zero_iff.mp hc.symm
      rw [this]
    · rfl
theorem keptGrow {h₀ : Heap} : KeptH (Grow h₀) := fun h ob g => g.trans (Grow.push h ob)
theorem Pe_slice_ss {value lo hi : Expr} {p p' : Pos} {l : List Nat} {i j : Int} (hv : Pe c f value m H (.s l)) (hlo : Pe c f lo m H (.int i)) (hhi : Pe c f hi m H (.int j)) (hi0 : 0 ≤ i) (hj0 : 0 ≤ j) (hsz : l.length ≤ sizeLine) :
    Pe c f (.Subscript value (.Slice (some lo) (some hi) none p) p') m H (.s ((l.take j.toNat).drop i.toNat)) := .mk fun s S => by
  refine Subscript_ (wpAny_mono (hv s S) (fun vo s₁ z => ?_) fun _ _ x => x)
  obtain ⟨t₁, d₁, H₁, i₁, S₁, rfl, rfl⟩ := z
  obtain ⟨t, rfl⟩ := is_str i₁
  refine wpAny_Slice (wpAny_mono (hlo s₁ S₁) (fun vi s₂ z => ?_) fun _ _ x => x)
  obtain ⟨t₂, d₂, H₂, i₂, S₂, rfl, rfl⟩ := z
  obtain ⟨u, rfl⟩ := is_int i₂
  refine wpAny_mono (hhi s₂ S₂) (fun vj s₃ z => ?_) fun _ _ x => x
  obtain ⟨t₃, d₃, H₃, i₃, S₃, rfl, rfl⟩ := z
  obtain ⟨u', rfl⟩ := is_int i₃
  refine wpAny_pure ?_
  obtain ⟨T, id, hl, hT, h⟩ := SBH.sliceItem_ss (prog := c.prog) (w := c.w) (A := f.A) (E := Thr c f m fun _ _ => False) (s := s₃) (P := Grow s₃.heap) (t := t) (x := ⟨l.toArray⟩) (i := i) (ui := u) (j := j) (uj := u') (Q := Good c f m (fun d' H' => d' = .s ((l.take j.toNat).drop i.toNat) ∧ H' = _) s) keptGrow (Grow.refl _)
    (fun h' t' k g => by rw [slice_mk (.inr ⟨i, rfl, hi0, rfl⟩) (.inr ⟨j, rfl, hj0, rfl⟩)]; exact ⟨t₁.trans (t₂.trans (t₃.trans g.tk)), _, _, mk_str, S₃.grow (s' := { s₃ with heap := h', toks := k }) g rfl rfl, rfl, rfl⟩) (by rw [mk_length]; exact hsz)
  exact tail_any hT hl h rfl
theorem Pe_slice_ns {value hi : Expr} {p p' : Pos} {l : List Nat} {j : Int} (hv : Pe c f value m H (.s l)) (hhi : Pe c f hi m H (.int j)) (hj0 : 0 ≤ j) (hsz : l.length ≤ sizeLine) :
    Pe c f (.Subscript value (.Slice none (some hi) none p) p') m H (.s (l.take j.toNat)) := .mk fun s S => by
  refine Subscript_ (wpAny_mono (hv s S) (fun vo s₁ z => ?_) fun _ _ x => x)
  obtain ⟨t₁, d₁, H₁, i₁, S₁, rfl, rfl⟩ := z
  obtain ⟨t, rfl⟩ := is_str i₁
  refine wpAny_Slice (wpAny_pure ?_)
  refine wpAny_mono (hhi s₁ S₁) (fun vj s₃ z => ?_) fun _ _ x => x
  obtain ⟨t₃, d₃, H₃, i₃, S₃, rfl, rfl⟩ := z
  obtain ⟨u', rfl⟩ := is_int i₃
  refine wpAny_pure ?_
  obtain ⟨T, id, hl, hT, h⟩ := SBH.sliceItem_ns (prog := c.prog) (w := c.w) (A := f.A) (E := Thr c f m fun _ _ => False) (s := s₃) (P := Grow s₃.heap) (t := t) (x := ⟨l.toArray⟩) (j := j) (uj := u') (Q := Good c f m (fun d' H' => d' = .s (l.take j.toNat) ∧ H' = _) s) keptGrow (Grow.refl _)
    (fun h' t' k g => by rw [slice_mk (.inl ⟨rfl, rfl⟩) (.inr ⟨j, rfl, hj0, rfl⟩)]; exact ⟨t₁.trans (t₃.trans g.tk), _, _, mk_str, S₃.grow (s' := { s₃ with heap := h', toks := k }) g rfl rfl, rfl, rfl⟩) (by rw [mk_length]; exact hsz)
  exact tail_any hT hl h rfl
theorem Pe_slice_sn {value lo : Expr} {p p' : Pos} {l : List Nat} {i : Int} (hv : Pe c f value m H (.s l)) (hlo : Pe c f lo m H (.int i)) (hi0 : 0 ≤ i) (hsz : l.length ≤ sizeLine) :
    Pe c f (.Subscript value (.Slice (some lo) none none p) p') m H (.s (l.drop i.toNat)) := .mk fun s S => by
  refine Subscript_ (wpAny_mono (hv s S) (fun vo s₁ z => ?_) fun _ _ x => x)
  obtain ⟨t₁, d₁, H₁, i₁, S₁, rfl, rfl⟩ := z
  obtain ⟨t, rfl⟩ := is_str i₁
  refine wpAny_Slice (wpAny_mono (hlo s₁ S₁) (fun vi s₂ z => ?_) fun _ _ x => x)
  obtain ⟨t₂, d₂, H₂, i₂, S₂, rfl, rfl⟩ := z
  obtain ⟨u, rfl⟩ := is_int i₂
  refine wpAny_pure (wpAny_pure ?_)
  obtain ⟨T, id, hl, hT, h⟩ := SBH.sliceItem_sn (prog := c.prog) (w := c.w) (A := f.A) (E := Thr c f m fun _ _ => False) (s := s₂) (P := Grow s₂.heap) (t := t) (x := ⟨l.toArray⟩) (i := i) (ui := u) (Q := Good c f m (fun d' H' => d' = .s (l.drop i.toNat) ∧ H' = _) s) keptGrow (Grow.refl _)
    (fun h' t' k g => by rw [slice_mk (.inr ⟨i, rfl, hi0, rfl⟩) (.inl ⟨rfl, rfl⟩), List.take_of_length_le (Nat.le_refl _)]; exact ⟨t₁.trans (t₂.trans g.tk), _, _, mk_str, S₂.grow (s' := { s₂ with heap := h', toks := k }) g rfl rfl, rfl, rfl⟩) (by rw [mk_length]; exact hsz)
  exact tail_any hT hl h rfl
-- len
theorem L_str {l : List Nat} (hsz : l.length ≤ sizeLine) : BN c f H (fun vs => call (.builtin "len") vs) [.s l] (.int l.length) := .mk fun m s vs S ia => by
  simp only [IsAll] at ia; refine e2a3 ia fun v r rq52 i rq53 => ?_; clear ia; obtain rfl := rq52; obtain rfl := rq53
  obtain ⟨t, rfl⟩ := is_str i
  have hl : l.length < 2 ^ 63 := Nat.lt_of_le_of_lt hsz (by decide)
  refine PyProof.Rows.len_str (by rw [mk_length]; omega) ?_
  rw [mk_length]; exact ⟨Grow.refl _, rfl, rfl, mk_int⟩
theorem L_tup {ds : List V} (hsz : ds.length ≤ sizeLine) : BN c f H (fun vs => call (.builtin "len") vs) [.tup ds] (.int ds.length) := .mk fun m s vs S ia => by
  simp only [IsAll] at ia; refine e2a3 ia fun v r rq54 i rq55 => ?_; clear ia; obtain rfl := rq54; obtain rfl := rq55
  simp only [Is] at i; refine e2a3 i fun a us rq56 rq57 ja => ?_; clear i; obtain rfl := rq56; obtain ⟨o, n, g, cl, dt⟩ := rq57
  have ht : IsTup s.heap a us.toArray := ⟨o, g, cl, n, dt⟩
  have hl : ds.length < 2 ^ 63 := Nat.lt_of_le_of_lt hsz (by decide)
  have e := ja.length
  refine PyProof.Rows.len_tuple ht (by rw [List.size_toArray]; omega) ?_
  rw [List.size_toArray, e]; exact ⟨Grow.refl _, rfl, rfl, mk_int⟩
-- isinstance
theorem I_int {i : Int} : BN c f H (fun vs => call (.builtin "isinstance") vs) [.int i, .raw (.type "int")] (.bool true) := .mk fun m s vs S ia => by
  simp only [IsAll] at ia; refine e2a3 ia fun v r rq58 i rq59 => ?_; clear ia; obtain rfl := rq58; refine e2a3 rq59 fun v' r' rq60 i' rq61 => ?_; clear rq59; obtain rfl := rq60; obtain rfl := rq61
  obtain ⟨t, rfl⟩ := is_int i; obtain rfl := is_raw i'
  exact IsiPair.int_int ⟨Grow.refl _, rfl, rfl, mk_raw⟩
theorem I_int_bool {i : Int} : BN c f H (fun vs => call (.builtin "isinstance") vs) [.int i, .raw (.type "bool")] (.bool false) := .mk fun m s vs S ia => by
  simp only [IsAll] at ia; refine e2a3 ia fun v r rq62 i rq63 => ?_; clear ia; obtain rfl := rq62; refine e2a3 rq63 fun v' r' rq64 i' rq65 => ?_; clear rq63; obtain rfl := rq64; obtain rfl := rq65
  obtain ⟨t, rfl⟩ := is_int i; obtain rfl := is_raw i'
  exact IsiPair.int_bool ⟨Grow.refl _, rfl, rfl, mk_raw⟩
theorem I_str {x : Str} : BN c f H (fun vs => call (.builtin "isinstance") vs) [.str x, .raw (.type "str")] (.bool true) := .mk fun m s vs S ia => by
  simp only [IsAll] at ia; refine e2a3 ia fun v r rq66 i rq67 => ?_; clear ia; obtain rfl := rq66; refine e2a3 rq67 fun v' r' rq68 i' rq69 => ?_; clear rq67; obtain rfl := rq68; obtain rfl := rq69
  obtain ⟨t, rfl⟩ := is_str i; obtain rfl := is_raw i'
  exact IsiPair.str_str ⟨Grow.refl _, rfl, rfl, mk_raw⟩
theorem I_tup {ds : List V} : BN c f H (fun vs => call (.builtin "isinstance") vs) [.tup ds, .raw (.type "tuple")] (.bool true) := .mk fun m s vs S ia => by
  simp only [IsAll] at ia; refine e2a3 ia fun v r rq70 i rq71 => ?_; clear ia; obtain rfl := rq70; refine e2a3 rq71 fun v' r' rq72 i' rq73 => ?_; clear rq71; obtain rfl := rq72; obtain rfl := rq73
  simp only [Is] at i; refine e2a3 i fun a us rq74 rq75 ja => ?_; clear i; obtain rfl := rq74; obtain ⟨o, n, g, cl, dt⟩ := rq75; obtain rfl := is_raw i'
  exact IsiPair.tuple_tuple g cl ⟨Grow.refl _, rfl, rfl, mk_raw⟩
-- displays
theorem Ev_tuple {es : List Expr} {k : Nat} {p : Pos} (h : Evs c f es p m H (fun ds H' => ds.length ≤ sizeLine ∧ Q (.tup ds) H') X) : Ev c f (.Tuple es k p) m H Q X := .mk fun s S => by
  refine wpAny_Tuple (wpAny_mono (h s S) (fun vs s₁ z => ?_) fun _ _ x => x)
  obtain ⟨t, ds, H', ia, S₁, hl, q⟩ := z
  have g : Grow s₁.heap (s₁.heap.push { cls := .type "tuple", data := .seq vs.toArray }) := Grow.push _ _
  refine ⟨by rw [ia.length]; exact hl, t.trans g.tk, .tup ds, H', ?_, S₁.grow (s' := { s₁ with heap := s₁.heap.push { cls := .type "tuple", data := .seq vs.toArray } }) g rfl rfl, q⟩
  simp only [Is]
  exact ⟨_, vs, rfl, ⟨_, _, Heap.get?_push_size _ rfl, rfl, rfl⟩, ia.tk g.tk⟩
theorem Pe_tuple {es : List Expr} {k : Nat} {p : Pos} {ds : List V} (h : Pes c f es m H ds) (hl : ds.length ≤ sizeLine) : Pe c f (.Tuple es k p) m H (.tup ds) := Ev_tuple (h.evs ⟨hl, rfl, rfl⟩)
end
end Mine
set_option maxRecDepth 100000
set_option linter.unusedVariables false
namespace Mine
open PySem PyProof.Rows PySem.Builtin
def Ext (H H'' : AH) : Prop := ∀ a, H a ≠ none → H'' a = H a
theorem Ext.refl (H : AH) : Ext H H := fun _ _ => rfl
theorem Ext.trans {H H' H'' : AH} (x : Ext H H') (y : Ext H' H'') : Ext H H'' := fun a n => (y a (by rw [x a n]; exact n)).trans (x a n)
theorem Ext.set {H H' : AH} {a : Addr} {x : Cell} (e : Ext H H') (n : H' a = none) : Ext H (H'.set a x) := fun b nb => by
  have : b ≠ a := fun q => by subst q; rw [e b nb] at n; exact nb n
  rw [AH.set, if_neg this]; exact e b nb
theorem set_same (H : AH) (a : Addr) (x : Cell) : (H.set a x) a = some x := if_pos rfl
theorem set_ne (H : AH) {a b : Addr} (x : Cell) (n : b ≠ a) : (H.set a x) b = H b := if_neg n
section
variable {c : Cx} {f : Fx} {m : Loc} {H : AH} {X : Value → AH → Prop} {Q : V → AH → Prop}
theorem Ext.rep {H'' : AH} {h : Heap} (e : Ext H H'') (r : Rep c H'' h) : Rep c H h := fun a x q => r a x (by rw [e a (by rw [q]; exact fun z => nomatch z)]; exact q)
theorem St.forget {s s' : Shared} {m' : Loc} {H'' : AH} (S : St c f m H s) (S' : St c f m' H'' s') (e : Ext H H'') : St c f m' H s' where
  rep := e.rep S'.rep
  base := S'.base
  bE := S'.bE
  hb := S.hb
  off := S'.off
  dom := S.dom
  up := S.up
  loc := S'.loc
  newL := S'.newL
  trL := S.trL
  cel := fun x a q => ⟨(S.cel x a q).1, (S'.cel x a q).2⟩
  apart := S'.apart
  ff := S'.ff
  fh := S.fh
  big := S.big
  kp := S'.kp
  gens := S'.gens
  os := S'.os
theorem Pe.of_ext {e : Expr} {d : V} (h : Ev c f e m H (fun d' H' => d' = d ∧ Ext H H') (fun _ _ => False)) : Pe c f e m H d := .mk fun s S =>
  wpAny_mono (h s S) (fun v s' ⟨t, d', H', i, S', e, x⟩ => ⟨t, d', H, i, S.forget S' x, e, rfl⟩) fun _ _ ⟨_, _, _, _, _, _, z⟩ => z.elim
theorem Fn.of_ext {k : Nat} {fv : Value} {args : List V} (h : Fn c k fv args H (fun d H' => Ext H H' ∧ Q d H) (fun C H' => Ext H H' ∧ X C H)) : Fn c k fv args H Q X := .mk fun A frs s vs R hf E ia => by
  have lf : ∀ {H' : AH} {s' : Shared}, Ext H H' → Lft c frs H s H' s' → Lft c frs H s H s' := fun x L => ⟨x.rep L.rep, L.off, fun _ _ _ q => q, fun _ q => q, E.big, L.gens, L.os⟩
  refine codeAny_mono (h A frs s vs R hf E ia) fun r s' z => ?_
  refine e1a2 z fun H' L rq76 => ?_; clear z; have z := rq76; clear rq76
  match r, z with
  | .ok (.ret v), ⟨d, i, x, q⟩ => exact ⟨H, lf x L, d, i, q⟩
  | .error y, ⟨C, e, e1, g, x, q⟩ => exact ⟨H, lf x L, C, e, e1, g, q⟩
theorem Fn.mono {k : Nat} {fv : Value} {args : List V} {Q' : V → AH → Prop} {X' : Value → AH → Prop} (h : Fn c k fv args H Q X) (hq : ∀ d H', Q d H' → Q' d H') (hx : ∀ C H', X C H' → X' C H') : Fn c k fv args H Q' X' := .mk fun A frs s vs R hf E ia => by
  refine codeAny_mono (h A frs s vs R hf E ia) fun r s' z => ?_
  refine e1a2 z fun H' L rq77 => ?_; clear z; have z := rq77; clear rq77
  match r, z with
  | .ok (.ret v), ⟨d, i, q⟩ => exact ⟨H', L, d, i, hq _ _ q⟩
  | .error y, ⟨C, e, e1, g, q⟩ => exact ⟨H', L, C, e, e1, g, hx _ _ q⟩
theorem Fn.le {k j : Nat} {fv : Value} {args : List V} (h : Fn c k fv args H Q X) (hj : k ≤ j) : Fn c j fv args H Q X := .mk fun A frs s vs R hf E ia => h A frs s vs (R.le hj) hf E ia
-- methods of built-in types
def Has (c : Cx) (H : AH) (d : V) (T : String) : Prop := ∀ (f : Fx) (m : Loc) (s : Shared) (v : Value), St c f m H s → Is s.heap d v → s.TypeIs v T ∧ ∀ a, v = .ref a → ∃ ob, s.heap.get? a = some ob ∧ ob.dict = none
theorem has_str {x : Str} : Has c H (.str x) "str" := fun f m s v S i => by
  obtain ⟨t, rfl⟩ := is_str i
  exact ⟨typeIs_str _ _ _, fun a e => nomatch e⟩
theorem has_list {a : Addr} {o : Obj} {ds : List V} (h : H a = some ⟨o, .list ds⟩) : Has c H (.ref a) "list" := fun f m s v S i => by
  obtain rfl := is_raw i
  refine e1a2 ((S.rep a _ h).2) fun vs rq78 _ => ?_; obtain ⟨o', n, g, cl, dn, dt⟩ := rq78
  exact ⟨⟨o', g, cl⟩, fun b e => by cases e; exact ⟨o', g, dn⟩⟩
theorem Ev_meth {o e : Expr} {es : List Expr} {name : Str} {ap p : Pos} {T id : String} (pa : PlainAttrs T) (slot : Slot T name id)
    (h : Ev c f o m H (fun d H' => Has c H' d T ∧ Evs c f (e :: es) p m H' (fun ds H'' => OpN c f (fun vs => call (.builtin id) vs) (d :: ds) m H'' Q X) X) X)
    (hty : typeOf (.builtin id) = pure (.type "method_descriptor") := by rfl) (hbase : attributeBase o name f.env (eval o f.env) = eval o f.env := by rfl)
    (hfew : ((backTo p (starEach (e :: es) f.env)).all (fun x => !x.1) && (backToKw p (keywordEach [] f.env)).all (fun x => x.1.isSome) && decide ((e :: es).length + ([] : List Keyword).length + (if ([] : List Keyword).isEmpty then 0 else 1) < 30)) = true := by rfl)
    (hline : (ap.endLine == p.line) = true := by rfl) (he : starEach (e :: es) f.env = (false, eval e f.env) :: starEach es f.env := by rfl) (hp : (backTo p (starEach es f.env)).any (·.1) = false := by rfl) :
    Ev c f (.Call (.Attribute o name ap) (e :: es) [] p) m H Q X := .mk fun s S => by
  refine wpAny_Call_method_lateS hbase hfew hline (wpAny_mono (h s S) (fun v s₁ z => ?_) fun _ _ x => x)
  obtain ⟨t₁, d, H₁, i₁, S₁, hh, q₁⟩ := z
  obtain ⟨hT, hd⟩ := hh f m s₁ v S₁ i₁
  refine ⟨T, id, pa, slot, hty, hT, hd, callWith_method1 (wpAny_mono (q₁ s₁ S₁) (fun vs s₂ z => ?_) fun _ _ x => x) he hp⟩
  obtain ⟨t₂, ds, H₂, i₂, S₂, q₂⟩ := z
  exact wpAny_mono (q₂ s₂ (v :: vs) S₂ (isAll_cons (i₁.tk t₂) i₂)) (fun v s₃ ⟨t₃, r⟩ => ⟨t₁.trans (t₂.trans t₃), r⟩) fun _ _ x => x
theorem strsAre_of {h : Heap} : ∀ {ls : List (List Nat)} {vs : List Value}, IsAll h (ls.map V.s) vs → StrsAre vs (ls.map fun l => ⟨l.toArray⟩)
  | [], vs, i => by simp only [List.map_nil, IsAll] at i; subst i; exact .nil
  | l :: ls, vs, i => by
    simp only [List.map_cons, IsAll] at i
    refine e2a3 i fun v r rq79 j k => ?_; clear i; obtain rfl := rq79
    obtain ⟨t, rfl⟩ := is_str j
    exact .cons _ _ (strsAre_of k)
theorem join_fold : ∀ (ls : List (List Nat)) (acc : Array Nat), (ls.map fun l => (⟨l.toArray⟩ : Str)).foldl (fun acc p => acc ++ (Str.ofString "").cps ++ p.cps) acc = acc ++ ls.flatten.toArray
  | [], acc => by simp
  | l :: ls, acc => by
    rw [List.map_cons, List.foldl_cons, join_fold ls]
    have : (Str.ofString "").cps = #[] := by decide
    rw [this]; simp
theorem join_mk (ls : List (List Nat)) : Txt.join (Str.ofString "") (ls.map fun l => ⟨l.toArray⟩) = ⟨ls.flatten.toArray⟩ := by
  unfold Txt.join Str.glued
  cases ls with
  | nil => rfl
  | cons l ls =>
    rw [List.map_cons, List.drop_succ_cons, List.drop_zero, join_fold]
    simp
theorem J_join {a : Addr} {o : Obj} {ls : List (List Nat)} (h : H a = some ⟨o, .list (ls.map V.s)⟩) (hsz : ls.flatten.length ≤ 16777216) : BN c f H (fun vs => call (.builtin "str.join") vs) [.str (Str.ofString ""), .ref a] (.s ls.flatten) := .mk fun m s vs S ia => by
  simp only [IsAll] at ia; refine e2a3 ia fun v r rq80 i rq81 => ?_; clear ia; obtain rfl := rq80; refine e2a3 rq81 fun v' r' rq82 i' rq83 => ?_; clear rq81; obtain rfl := rq82; obtain rfl := rq83
  obtain ⟨t, rfl⟩ := is_str i; obtain rfl := is_raw i'
  refine e1a2 ((S.rep a _ h).2) fun us rq84 ja => ?_; obtain ⟨o', n, g, cl, dn, dt⟩ := rq84
  refine join_list (ys := ls.map fun l => ⟨l.toArray⟩) ⟨o', g, cl, n, dt⟩ (by simpa using strsAre_of ja) ?_ fun t' k => ?_
  · have e0 : (Str.ofString "").length = 0 := by decide
    rw [e0, Nat.mul_zero, Nat.add_zero, List.map_map]
    have : (ls.map ((fun x => Str.length x) ∘ fun l => (⟨l.toArray⟩ : Str))).sum = ls.flatten.length := by
      rw [List.length_flatten]; refine congrArg _ (List.map_congr_left fun l _ => ?_); exact mk_length l
    rw [this]; exact hsz
  · rw [join_mk]; exact ⟨Grow.refl _, rfl, rfl, mk_str⟩
-- equality
structure EqA (n : Nat) (d₁ d₂ : V) (b : Bool) : Prop where
  eq : ∀ (A : Around) (s : Shared) (v₁ v₂ : Value), A.units + 4 * n < cLine → Is s.heap d₁ v₁ → Is s.heap d₂ v₂ → SeqAt.EqAt A s v₁ v₂ b
  same : ∀ (h : Heap) (v : Value), Is h d₁ v → Is h d₂ v → b = true
theorem EqA.int (a b : Int) : EqA 0 (.int a) (.int b) (a == b) where
  eq := fun A s v₁ v₂ u i j => by obtain ⟨t, rfl⟩ := is_int i; obtain ⟨t', rfl⟩ := is_int j; exact SeqAt.EqAt.int_int _ _ _ _
  same := fun h v i j => by obtain ⟨t, rfl⟩ := is_int i; obtain ⟨t', e⟩ := is_int j; cases e; simp
theorem EqA.str (a b : Str) : EqA 0 (.str a) (.str b) (a == b) where
  eq := fun A s v₁ v₂ u i j => by obtain ⟨t, rfl⟩ := is_str i; obtain ⟨t', rfl⟩ := is_str j; exact SeqAt.EqAt.str_str _ _ _ _
  same := fun h v i j => by obtain ⟨t, rfl⟩ := is_str i; obtain ⟨t', e⟩ := is_str j; cases e; simp
theorem EqA.none : EqA 0 .none .none true where
  eq := fun A s v₁ v₂ u i j => by obtain rfl := is_raw i; obtain rfl := is_raw j; exact SeqAt.EqAt.same _
  same := fun h v i j => rfl
theorem IsAll.at {h : Heap} {ds : List V} {vs : List Value} (x : IsAll h ds vs) {j : Nat} (hj : j < vs.length) : ∃ d, ds[j]? = some d ∧ Is h d vs[j] := by
  have hj' : j < ds.length := by rw [← x.length]; exact hj
  refine e1a2 (x.get (List.getElem?_eq_getElem hj')) fun v hv i => ?_
  rw [List.getElem?_eq_getElem hj] at hv
  cases hv
  exact ⟨ds[j], List.getElem?_eq_getElem hj', i⟩
theorem in1_units (A : Around) : A.in1.units ≤ A.units + 4 := by show A.units + 1 ≤ A.units + 4; exact om34
end
end Mine
set_option maxRecDepth 100000
set_option linter.unusedVariables false
namespace Mine
open PySem PyProof.Rows PySem.Builtin PySem.W
theorem glue {prog : Program} {w : World} {s₁ : Shared} {mg mb : Str → Option Value} {fa sc : Addr} (F : Fn ⟨prog, w, s₁.heap, mg, mb, s₁.os⟩ 40 (.ref fa) [.ref sc] (fun _ => none) (fun d _ => d = .bool true) (fun _ _ => False)) (hg : s₁.gens = #[]) :
    wpAny (model prog w) callerA (call (.ref fa) [.ref sc]) (fun v s' => v = .bool true ∧ OldK s₁.heap s'.heap ∧ s'.os = s₁.os ∧ AllBare s'.gens) (fun _ _ => False) s₁ := by
  have E : Ent ⟨prog, w, s₁.heap, mg, mb, s₁.os⟩ [] (fun _ => none) s₁ := ⟨(fun a x e => nomatch e), fun b o e => e, fun b o e => rfl, trivial, fun a h => rfl, fun a x e => (nomatch e), hg, rfl⟩
  have := F callerA [] s₁ [.ref sc] ⟨rfl, by decide, by decide⟩ rfl E (isAll_one mk_raw)
  refine wpAny_call (codeAny_mono this fun r s' z => ?_)
  refine e1a2 z fun H' L rq85 => ?_; clear z; have z := rq85; clear rq85
  have keep : ∀ b o, s₁.heap.get? b = some o → s'.heap.get? b = some o := fun b o e => (L.off b o e rfl).1 (fun h => nomatch h)
  cases r with
  | error x => refine e2a3 z fun C e _ g q => ?_; clear z; exact q.elim
  | ok fl => cases fl with
    | ret v =>
      refine e1a2 z fun d i q => ?_; clear z
      have q : d = .bool true := q
      subst q
      exact ⟨is_raw i, .of_keep keep, L.os, .of_eq L.gens⟩
    | _ => exact z.elim
end Mine
set_option maxRecDepth 100000
set_option linter.unusedVariables false
namespace Mine
open PySem PyProof.Rows PySem.Builtin PySem.W
section
variable {c : Cx} {f : Fx} {m : Loc} {H : AH} {X : Value → AH → Prop} {Q : V → AH → Prop}
structure Lw (c : Cx) (K : Frag) (sc : Addr) (ns : List Int) : Prop where
  ok : CxOk c
  kx : K.In c.base
  hb : ∀ x : Str, x ≠ "__name__" → c.mb x = bootBuiltins x
  sl : ∃ vs, c.base.IsList sc vs.toArray ∧ IntsAre vs ns
  few : ns.length ≤ 63
variable {K : Frag} {sc : Addr} {ns : List Int}
theorem Lw.glob (W : Lw c K sc ns) {x : Str} {v : Value} (e : nsIn K mainGlobals x = some (some v)) : GN c x v := .inl (mg_of W.kx W.ok.g e)
theorem Lw.blt (W : Lw c K sc ns) {x : Str} {v : Value} (e : nsIn K mainGlobals x = some none) (hx : x ≠ "__name__") (hv : bootBuiltins x = some v) : GN c x v := .inr ⟨mg_none_of W.kx W.ok.g e, (W.hb x hx).trans hv⟩
theorem L_base (W : Lw c K sc ns) : BN c f H (fun vs => call (.builtin "len") vs) [.ref sc] (.int ns.length) := .mk fun m s vs S ia => by
  simp only [IsAll] at ia; refine e2a3 ia fun v r rq86 i rq87 => ?_; clear ia; obtain rfl := rq86; obtain rfl := rq87
  obtain rfl := is_raw i
  refine e1a2 (W.sl) fun us hl hi => ?_
  have e := intsAre_length hi
  have := W.few
  refine Calls.call_len_list (items := us.toArray) (let ⟨o, a, r⟩ := hl; ⟨o, S.base _ _ a, r⟩) (by rw [List.size_toArray]; omega) ?_
  rw [List.size_toArray, e]; exact ⟨Grow.refl _, rfl, rfl, mk_int⟩
theorem G_base (W : Lw c K sc ns) {k : Int} (h0 : 0 ≤ k) (h1 : k < ns.length) : G2 c f H (.ref sc) (.int k) (.int (ns.getD k.toNat 0)) := .mk fun m s vo vi S io ii => by
  obtain rfl := is_raw io; obtain ⟨u, rfl⟩ := is_int ii
  refine e1a2 (W.sl) fun us hl hi => ?_
  have e := intsAre_length hi
  have := W.few
  have hl' : s.heap.IsList sc us.toArray := let ⟨o, a, r⟩ := hl; ⟨o, S.base _ _ a, r⟩
  have hk : k.toNat < ns.length := by exact om35 h0 h1
  obtain ⟨t, ht⟩ := intsAre_get hi (List.getElem?_eq_getElem hk)
  refine ⟨"list", _, hl'.typeIs, slot_list_getitem.lookup, wpAny_getItem_list (x := .int ns[k.toNat] t) hl' h0 (by omega) (by simpa using ht) ⟨Grow.refl _, rfl, rfl, ?_⟩⟩
  rw [List.getD_eq_getElem?_getD, List.getElem?_eq_getElem hk]; exact mk_int
def cellAt (ns : List Int) (k : Int) : Int := if k < ns.length then ns.getD k.toNat 0 else 0
end
theorem len_cons {vs : List Value} {n : Nat} (h : vs.length = n + 1) : ∃ v r, vs = v :: r ∧ r.length = n := by
  cases vs with
  | nil => cases h
  | cons v r => exact ⟨v, r, rfl, Nat.succ.inj h⟩
theorem bind1 {fd : FuncData} {x : Str} {args : List V} (h : args.length = 1) (e : ∀ v, bindArgs fd ⟨[v], []⟩ = pure [(x, v)]) : ∀ vs : List Value, vs.length = args.length → bindArgs fd ⟨vs, []⟩ = pure ([x].zip vs) := fun vs hv => by
  have l0 := hv.trans h
  clear hv
  refine e2a2 (len_cons l0) fun v r1 rq88 l1 => ?_; obtain rfl := rq88
  obtain rfl := List.eq_nil_of_length_eq_zero l1
  exact e v
theorem bind2 {fd : FuncData} {x y : Str} {args : List V} (h : args.length = 2) (e : ∀ v w, bindArgs fd ⟨[v, w], []⟩ = pure [(x, v), (y, w)]) : ∀ vs : List Value, vs.length = args.length → bindArgs fd ⟨vs, []⟩ = pure ([x, y].zip vs) := fun vs hv => by
  have l0 := hv.trans h
  clear hv
  refine e2a2 (len_cons l0) fun v r1 rq89 l1 => ?_; obtain rfl := rq89
  refine e2a2 (len_cons l1) fun w r2 rq90 l2 => ?_; obtain rfl := rq90
  obtain rfl := List.eq_nil_of_length_eq_zero l2
  exact e v w
theorem bind3 {fd : FuncData} {x y z : Str} {args : List V} (h : args.length = 3) (e : ∀ v w u, bindArgs fd ⟨[v, w, u], []⟩ = pure [(x, v), (y, w), (z, u)]) : ∀ vs : List Value, vs.length = args.length → bindArgs fd ⟨vs, []⟩ = pure ([x, y, z].zip vs) := fun vs hv => by
  have l0 := hv.trans h
  clear hv
  refine e2a2 (len_cons l0) fun v r1 rq91 l1 => ?_; obtain rfl := rq91
  refine e2a2 (len_cons l1) fun w r2 rq92 l2 => ?_; obtain rfl := rq92
  refine e2a2 (len_cons l2) fun u r3 rq93 l3 => ?_; obtain rfl := rq93
  obtain rfl := List.eq_nil_of_length_eq_zero l3
  exact e v w u
end Mine
set_option maxRecDepth 100000
set_option linter.unusedVariables false
namespace Mine
open PySem PyProof.Rows PySem.Builtin PySem.W
theorem mem1 {α : Type} {p : α → Prop} {a : α} (h : p a) : ∀ x ∈ [a], p x := fun x hx => by
  rw [List.mem_singleton] at hx; subst hx; exact h
theorem mem2 {α : Type} {p : α → Prop} {a b : α} (h : p a) (h2 : p b) : ∀ x ∈ [a, b], p x := fun x hx => by
  rcases List.mem_cons.mp hx with rfl | hx; exact h; exact mem1 h2 x hx
theorem mem3 {α : Type} {p : α → Prop} {a b d : α} (h : p a) (h2 : p b) (h3 : p d) : ∀ x ∈ [a, b, d], p x := fun x hx => by
  rcases List.mem_cons.mp hx with rfl | hx; exact h; exact mem2 h2 h3 x hx
theorem mem4 {α : Type} {p : α → Prop} {a b d e : α} (h : p a) (h2 : p b) (h3 : p d) (h4 : p e) : ∀ x ∈ [a, b, d, e], p x := fun x hx => by
  rcases List.mem_cons.mp hx with rfl | hx; exact h; exact mem3 h2 h3 h4 x hx
section
variable {c : Cx} {f : Fx} {m : Loc} {H : AH} {X : Value → AH → Prop} {Q : V → AH → Prop}
theorem B_cats {l r : List Nat} (h : l.length + r.length ≤ sizeLine) : B2 c f H (binaryOp .Add) (.s l) (.s r) (.s (l ++ r)) := by
  have := B_cat (c := c) (f := f) (H := H) (x := ⟨l.toArray⟩) (y := ⟨r.toArray⟩) (by rw [mk_length, mk_length]; exact h)
  have e : (⟨l.toArray⟩ : Str) ++ (⟨r.toArray⟩ : Str) = ⟨(l ++ r).toArray⟩ := by
    show Str.mk (l.toArray ++ r.toArray) = _
    simp
  rw [e] at this; exact this
theorem beq_mk {l r : List Nat} : ((⟨l.toArray⟩ : Str) == ⟨r.toArray⟩) = decide (l = r) := by
  rw [Bool.eq_iff_iff, beq_iff_eq, decide_eq_true_iff]
  constructor
  · intro e; injection e with e; simpa using e
  · intro e; rw [e]
theorem B_eqss {l r : List Nat} : B2 c f H (compareOp .Eq) (.s l) (.s r) (.bool (decide (l = r))) := by
  have := B_eqs (c := c) (f := f) (H := H) (x := ⟨l.toArray⟩) (y := ⟨r.toArray⟩)
  rw [beq_mk] at this; exact this
theorem B_ness {l r : List Nat} : B2 c f H (compareOp .NotEq) (.s l) (.s r) (.bool (!decide (l = r))) := by
  have := B_nes (c := c) (f := f) (H := H) (x := ⟨l.toArray⟩) (y := ⟨r.toArray⟩)
  rw [bne, beq_mk] at this; exact this
theorem CompOk_map {scope : Scope} {cl : List (Str × Addr)} {x : Str} {elt : Expr} {ds : List V} {tr : List Addr} {H₁ : AH} (g : List V) (hl : g.length = ds.length) (hsz : ds.length ≤ sizeLine)
    (he : ∀ (i : Nat) d C hE, ds[i]? = some d → ∃ e, g[i]? = some e ∧ Pe c (compF f scope cl C hE H₁) elt (compM m cl x d) H₁ e) (fin : ∀ a o, H₁ a = none → Q (.ref a) (H₁.set a ⟨o, .list g⟩)) :
    CompOk c f m scope cl x elt [] Q ds tr H₁ := by
  refine ⟨hsz, fun i acc H' => H' = H₁ ∧ acc = g.take i, ⟨rfl, by simp⟩, ?_, ?_⟩
  · rintro i d acc H' C hE hd ⟨rfl, rfl⟩ ht
    refine e1a2 (he i d C hE hd) fun e ge p => ?_
    refine p.ev ⟨⟨rfl, ?_⟩, ht⟩
    rw [List.take_add_one, ge]; rfl
  · rintro acc H' a o ⟨rfl, rfl⟩ _ ha
    rw [← hl, List.take_length]
    exact fin a o ha
end
end Mine
set_option maxRecDepth 100000
set_option linter.unusedVariables false
namespace Mine
open PySem PyProof.Rows PySem.Builtin PySem.W
theorem cl0 {p : Str → Addr → Prop} : ∀ y a, ([] : List (Str × Addr)).lookup y = some a → p y a := fun y a e => nomatch e
theorem clN {p : Str → Addr → Prop} {x : Str} {a0 : Addr} {l : List (Str × Addr)} (h : p x a0) (r : ∀ y a, l.lookup y = some a → p y a) : ∀ y a, ((x, a0) :: l).lookup y = some a → p y a := fun y a e => by
  rw [List.lookup_cons] at e
  cases q : y == x with
  | true => rw [q] at e; cases e; rw [beq_iff_eq] at q; subst q; exact h
  | false => rw [q] at e; exact r y a e
theorem map_item {α β : Type} {g : α → β} {l : List α} {i : Nat} {d : β} (h : (l.map g)[i]? = some d) : ∃ a, l[i]? = some a ∧ d = g a := by
  rw [List.getElem?_map] at h
  cases q : l[i]? with
  | none => rw [q] at h; cases h
  | some a => rw [q] at h; cases h; exact ⟨a, rfl, rfl⟩
theorem map_item' {α β : Type} {g : α → β} {l : List α} {i : Nat} {a : α} (h : l[i]? = some a) : (l.map g)[i]? = some (g a) := by rw [List.getElem?_map, h]; rfl
theorem flat1 {α : Type} (g : α → Nat) (l : List α) : (l.map fun k => [g k]).flatten = l.map g := by
  induction l with
  | nil => rfl
  | cons a l ih => simp [ih]
theorem mul_small {a b : Int} (h : a.natAbs < 2 ^ 60) : IntMulOk a b := .of_left (by
  unfold Builtin.Int.intBits
  split
  · exact om36
  · rename_i h0
    have h0 : a.natAbs ≠ 0 := by simpa using h0
    have := (Nat.log2_lt h0).mpr h
    exact om37 this)
end Mine
set_option maxRecDepth 100000
set_option linter.unusedVariables false
namespace Mine
open PySem PyProof.Rows PySem.Builtin PySem.W
section
variable {c : Cx} {f : Fx} {m : Loc} {H : AH} {X : Value → AH → Prop} {Q : V → AH → Prop}
def Tpo (c : Cx) (f : Fx) (es : List Expr) (m : Loc) (H : AH) (P : Prop) : Prop := Tl c f .Or es m H (fun b H' => H' = H ∧ (b = true ↔ P)) (fun _ _ => False)
def Tpa (c : Cx) (f : Fx) (es : List Expr) (m : Loc) (H : AH) (P : Prop) : Prop := Tl c f .And es m H (fun b H' => H' = H ∧ (b = true ↔ P)) (fun _ _ => False)
theorem Tl.mono {op : BoolOp} {es : List Expr} {Q Q' : Bool → AH → Prop} {X' : Value → AH → Prop} (h : Tl c f op es m H Q X) (k : ∀ b H, Q b H → Q' b H) (kx : ∀ C H, X C H → X' C H) : Tl c f op es m H Q' X' :=
  .mk fun s S => wpAny_mono (h s S) (fun _ _ ⟨H', S', q⟩ => ⟨H', S', k _ _ q⟩) fun _ _ g => g.mono kx
theorem Tpo_nil : Tpo c f [] m H False := Tl_or_nil ⟨rfl, by simp⟩
theorem Tpa_nil : Tpa c f [] m H True := Tl_and_nil ⟨rfl, by simp⟩
theorem Tpo_cons {e : Expr} {es : List Expr} {P R : Prop} (h : Tp c f e m H P) (h2 : ¬ P → Tpo c f es m H R) : Tpo c f (e :: es) m H (P ∨ R) :=
  Tl_or (Ts.mono h (fun x H' ⟨e, q⟩ => by
    subst e
    refine ⟨fun z => Tl.mono (h2 (fun r => by rw [q.mpr r] at z; cases z)) (fun y H'' ⟨e', q'⟩ => ⟨e', ?_⟩) fun _ _ z => z, fun z => ⟨rfl, by simp only [true_iff]; exact .inl (q.mp z)⟩⟩
    rw [q']; subst z; simp only [Bool.false_eq_true, false_iff] at q
    exact ⟨.inr, fun r => r.elim (fun z => (q z).elim) id⟩) fun _ _ z => z)
theorem Tpa_cons {e : Expr} {es : List Expr} {P R : Prop} (h : Tp c f e m H P) (h2 : P → Tpa c f es m H R) : Tpa c f (e :: es) m H (P ∧ R) :=
  Tl_and (Ts.mono h (fun x H' ⟨e, q⟩ => by
    subst e
    refine ⟨fun z => Tl.mono (h2 (q.mp z)) (fun y H'' ⟨e', q'⟩ => ⟨e', ?_⟩) fun _ _ z => z, fun z => ⟨rfl, by subst z; simp only [Bool.false_eq_true, false_iff] at q ⊢; exact fun r => q r.1⟩⟩
    rw [q']
    exact ⟨fun r => ⟨q.mp z, r⟩, fun r => r.2⟩) fun _ _ z => z)
theorem Tp_or {es : List Expr} {p : Pos} {P : Prop} (h : Tpo c f es m H P) : Tp c f (.BoolOp .Or es p) m H P := Ts_bool h
theorem Tp_and {es : List Expr} {p : Pos} {P : Prop} (h : Tpa c f es m H P) : Tp c f (.BoolOp .And es p) m H P := Ts_bool h
def Pb (c : Cx) (f : Fx) (e : Expr) (m : Loc) (H : AH) (P : Prop) : Prop := Ev c f e m H (fun d H' => H' = H ∧ ∃ b, d = .bool b ∧ (b = true ↔ P)) (fun _ _ => False)
instance {c : Cx} {f : Fx} {e : Expr} {m : Loc} {H : AH} {P : Prop} : CoeFun (Pb c f e m H P) (fun _ => ∀ s, St c f m H s → wpAny c.M f.A (eval e f.env) (Good c f m (fun d H' => H' = H ∧ ∃ b, d = .bool b ∧ (b = true ↔ P)) s) (Thr c f m (fun _ _ => False)) s) := ⟨fun h => Ev.run h⟩
theorem Pb.ev {e : Expr} {P : Prop} (h : Pb c f e m H P) (q : ∀ b : Bool, (b = true ↔ P) → Q (.bool b) H) : Ev c f e m H Q X :=
  Ev.mono h (fun _ _ ⟨a, b, e, r⟩ => by subst a; subst e; exact q b r) fun _ _ z => z.elim
theorem Pe.pb {e : Expr} {b : Bool} {P : Prop} (h : Pe c f e m H (.bool b)) (k : b = true ↔ P) : Pb c f e m H P := Pe.ev h ⟨rfl, b, rfl, k⟩
theorem Pb.pe {e : Expr} {P : Prop} {b : Bool} (h : Pb c f e m H P) (k : b = true ↔ P) : Pe c f e m H (.bool b) := Pb.ev h fun b' r => ⟨by rw [Bool.eq_iff_iff.mpr (r.trans k.symm)], rfl⟩
theorem Pb_not {e : Expr} {p : Pos} {P : Prop} (h : Pb c f e m H P) : Pb c f (.UnaryOp .Not e p) m H (¬ P) := .mk fun s S => by
  rw [arm_eval_UnaryOp]
  refine wpAny_bind (wpAny_mono (h s S) (fun v s₁ z => ?_) fun _ _ x => x)
  obtain ⟨t, d, H', i, S₁, rfl, b, rfl, r⟩ := z
  obtain rfl := is_raw i
  refine wpAny_bind (wpAny_standAt (wpAny_holding (wpAny_holding ?_)))
  refine wpAny_bind (wpAny_pure ?_)
  exact wpAny_pure ⟨t, .bool (!b), _, mk_raw, S₁, rfl, _, rfl, by cases b <;> simp_all⟩
theorem Pb_and1 {e : Expr} {p : Pos} {op : BoolOp} {P : Prop} (h : Pb c f e m H P) : Pb c f (.BoolOp op [e] p) m H P := .mk fun s S => BoolOp_one (h s S)
theorem Pb_and {e e₂ : Expr} {es : List Expr} {p : Pos} {P R : Prop} (h : Pb c f e m H P) (h2 : P → Pb c f (.BoolOp .And (e₂ :: es) p) m H R) : Pb c f (.BoolOp .And (e :: e₂ :: es) p) m H (P ∧ R) := .mk fun s S => by
  refine BoolOp_and (wpAny_mono (h s S) (fun v s₁ z => ?_) fun _ _ x => x)
  obtain ⟨t, d, H', i, S₁, rfl, b, rfl, r⟩ := z
  obtain rfl := is_raw i
  refine wpAny_pure ?_
  cases b with
  | true =>
    rw [if_pos rfl]
    refine wpAny_mono (h2 (r.mp rfl) s₁ S₁) (fun v s₂ z => ?_) fun _ _ x => x
    obtain ⟨t', d, H', i, S₂, e, b, e', r'⟩ := z
    exact ⟨t.trans t', d, H', i, S₂, e, b, e', r'.trans ⟨fun q => ⟨r.mp rfl, q⟩, fun q => q.2⟩⟩
  | false =>
    rw [if_neg (by decide)]
    exact ⟨t, _, _, mk_raw, S₁, rfl, false, rfl, by simp only [Bool.false_eq_true, false_iff] at r ⊢; exact fun q => r q.1⟩
theorem Tp_pb {e : Expr} {P : Prop} (h : Pb c f e m H P) (he : ∀ w, isTrue e f.env w = (do let v ← w; standAt e.pos; holding [v] (truthy v)) := by intro _; rfl) : Tp c f e m H P :=
  Ts_val (h.ev fun b r => ⟨b, rfl, rfl, r⟩) he
end
end Mine
set_option maxRecDepth 100000
set_option linter.unusedVariables false
namespace Mine
open PySem PyProof.Rows PySem.Builtin PySem.W
theorem Loc.set_set (m : Loc) (x : Str) (a b : V) : (m.set x a).set x b = m.set x b := funext fun y => by unfold Loc.set; split <;> rfl
section
variable {c : Cx} {f : Fx} {m : Loc} {H : AH} {X : Value → AH → Prop}
theorem Ex_if_set {x : Str} {t e : Expr} {p q p' : Pos} {rest : List Stmt} {Q : Ko} {P : Prop} {d0 d1 : V} (h : Tp c f t (m.set x d0) H P) (he : P → Pe c f e (m.set x d0) H d1) (k : ∀ d, (P ∧ d = d1) ∨ (¬ P ∧ d = d0) → Ex c f rest (m.set x d) H Q)
    (hx : (f.env.kindOf x = some .local) ∨ (f.env.kindOf x = some .cell ∧ (f.env.cells.lookup x).isSome = true)) (hfn : f.fn = true := by rfl) (hk : f.env.scope.kind = .function := by rfl) (hsw : swapsWith e (some (.Name x p)) q.line f.env = pure false := by rfl) :
    Ex c f (.If t [.Assign [.Name x p] e q] [] p' :: rest) (m.set x d0) H Q :=
  Ex_ifp h (fun r => Ex_assign ((he r).ev (by rw [Loc.set_set]; exact k _ (.inl ⟨r, rfl⟩))) hx hfn hk hsw) (fun r => k _ (.inr ⟨r, rfl⟩))
theorem Pe_B1 {x : Str} {p₁ p : Pos} {e : Expr} {id : String} {d d' : V} (K : CxOk c) (g : GN c x (.builtin id)) (h1 : Pe c f e m H d) (h : BN c f H (fun vs => call (.builtin id) vs) [d] d') (hg : f.env.globals = mainGlobals := by rfl) (hb : f.env.builtins = builtinsNs := by rfl)
    (hk : f.env.scope.kind = .function := by rfl) (hn : f.env.kindOf x = some .globalImplicit := by rfl) (hd : (x == ("__debug__" : Str)) = false := by decide) (he : starEach [e] f.env = (false, eval e f.env) :: starEach [] f.env := by rfl) : Pe c f (.Call (.Name x p₁) [e] [] p) m H d' :=
  Pe_callB (Pe_glob K g hg hb hk hn hd) (Pes_cons h1 Pes_nil he) h he rfl
theorem Pe_B2 {x : Str} {p₁ p : Pos} {e e₂ : Expr} {id : String} {d d₂ d' : V} (K : CxOk c) (g : GN c x (.builtin id)) (h1 : Pe c f e m H d) (h2 : Pe c f e₂ m H d₂) (h : BN c f H (fun vs => call (.builtin id) vs) [d, d₂] d') (hg : f.env.globals = mainGlobals := by rfl) (hb : f.env.builtins = builtinsNs := by rfl)
    (hk : f.env.scope.kind = .function := by rfl) (hn : f.env.kindOf x = some .globalImplicit := by rfl) (hd : (x == ("__debug__" : Str)) = false := by decide) (he : starEach [e, e₂] f.env = (false, eval e f.env) :: starEach [e₂] f.env := by rfl) (he2 : starEach [e₂] f.env = (false, eval e₂ f.env) :: starEach [] f.env := by rfl)
    (hp : (backTo p (starEach [e₂] f.env)).any (·.1) = false := by rfl) : Pe c f (.Call (.Name x p₁) [e, e₂] [] p) m H d' :=
  Pe_callB (Pe_glob K g hg hb hk hn hd) (Pes_cons h1 (Pes_cons h2 Pes_nil he2) he) h he hp
theorem Pb_isi {x t : Str} {p₁ p p₂ : Pos} {e : Expr} {T : String} {d : V} {b : Bool} (K : CxOk c) (g : GN c x (.builtin "isinstance")) (gT : GN c t (.type T)) (h1 : Pe c f e m H d) (h : BN c f H (fun vs => call (.builtin "isinstance") vs) [d, .raw (.type T)] (.bool b)) (hg : f.env.globals = mainGlobals := by rfl) (hb : f.env.builtins = builtinsNs := by rfl)
    (hk : f.env.scope.kind = .function := by rfl) (hn : f.env.kindOf x = some .globalImplicit := by rfl) (hnt : f.env.kindOf t = some .globalImplicit := by rfl) (hd : (x == ("__debug__" : Str)) = false := by decide) (hdt : (t == ("__debug__" : Str)) = false := by decide) (he : starEach [e, .Name t p₂] f.env = (false, eval e f.env) :: starEach [.Name t p₂] f.env := by rfl) (he2 : starEach [.Name t p₂] f.env = (false, eval (.Name t p₂) f.env) :: starEach [] f.env := by rfl)
    (hp : (backTo p (starEach [.Name t p₂] f.env)).any (·.1) = false := by rfl) : Pb c f (.Call (.Name x p₁) [e, .Name t p₂] [] p) m H (b = true) :=
  (Pe_B2 K g h1 (Pe_glob K gT hg hb hk hnt hdt) h hg hb hk hn hd he he2 hp).pb Iff.rfl
theorem Pe_F1 {x : Str} {p₁ p : Pos} {e : Expr} {fa : Addr} {o : Obj} {fd : FuncData} {k : Nat} {d d' : V} (K : CxOk c) (g : GN c x (.ref fa)) (ho : c.base.get? fa = some o) (hfd : o.data = .func fd) (R : Room k f.A) (hf : f.A.frames = some f.frs) (h1 : Pe c f e m H d) (h : Fn c k (.ref fa) [d] H (fun d'' H' => d'' = d' ∧ H' = H) (fun _ _ => False)) (hg : f.env.globals = mainGlobals := by rfl) (hb : f.env.builtins = builtinsNs := by rfl)
    (hk : f.env.scope.kind = .function := by rfl) (hn : f.env.kindOf x = some .globalImplicit := by rfl) (hd : (x == ("__debug__" : Str)) = false := by decide) (he : starEach [e] f.env = (false, eval e f.env) :: starEach [] f.env := by rfl) : Pe c f (.Call (.Name x p₁) [e] [] p) m H d' :=
  Pe_call ho hfd R hf (Pe_glob K g hg hb hk hn hd) (Pes_cons h1 Pes_nil he) h he
theorem Pe_F2 {x : Str} {p₁ p : Pos} {e e₂ : Expr} {fa : Addr} {o : Obj} {fd : FuncData} {k : Nat} {d d₂ d' : V} (K : CxOk c) (g : GN c x (.ref fa)) (ho : c.base.get? fa = some o) (hfd : o.data = .func fd) (R : Room k f.A) (hf : f.A.frames = some f.frs) (h1 : Pe c f e m H d) (h2 : Pe c f e₂ m H d₂) (h : Fn c k (.ref fa) [d, d₂] H (fun d'' H' => d'' = d' ∧ H' = H) (fun _ _ => False)) (hg : f.env.globals = mainGlobals := by rfl) (hb : f.env.builtins = builtinsNs := by rfl)
    (hk : f.env.scope.kind = .function := by rfl) (hn : f.env.kindOf x = some .globalImplicit := by rfl) (hd : (x == ("__debug__" : Str)) = false := by decide) (he : starEach [e, e₂] f.env = (false, eval e f.env) :: starEach [e₂] f.env := by rfl) (he2 : starEach [e₂] f.env = (false, eval e₂ f.env) :: starEach [] f.env := by rfl) : Pe c f (.Call (.Name x p₁) [e, e₂] [] p) m H d' :=
  Pe_call ho hfd R hf (Pe_glob K g hg hb hk hn hd) (Pes_cons h1 (Pes_cons h2 Pes_nil he2) he) h he
end
theorem three_fits (a b d : V) : [a, b, d].length ≤ sizeLine := by show 3 ≤ sizeLine; decide
theorem bt_isinstance : bootBuiltins (Str.ofString "isinstance") = some (.builtin "isinstance") := by decide +kernel
theorem bt_len : bootBuiltins (Str.ofString "len") = some (.builtin "len") := by decide +kernel
theorem bt_range : bootBuiltins (Str.ofString "range") = some (.type "range") := by decide +kernel
theorem bt_int : bootBuiltins (Str.ofString "int") = some (.type "int") := by decide +kernel
theorem bt_bool : bootBuiltins (Str.ofString "bool") = some (.type "bool") := by decide +kernel
theorem bt_str : bootBuiltins (Str.ofString "str") = some (.type "str") := by decide +kernel
theorem bt_tuple : bootBuiltins (Str.ofString "tuple") = some (.type "tuple") := by decide +kernel
theorem bt_list : bootBuiltins (Str.ofString "list") = some (.type "list") := by decide +kernel
theorem bt_dict : bootBuiltins (Str.ofString "dict") = some (.type "dict") := by decide +kernel
theorem bt_max : bootBuiltins (Str.ofString "max") = some (.builtin "max") := by decide +kernel
theorem bt_min : bootBuiltins (Str.ofString "min") = some (.builtin "min") := by decide +kernel
theorem bt_sorted : bootBuiltins (Str.ofString "sorted") = some (.builtin "sorted") := by decide +kernel
end Mine
set_option maxRecDepth 100000
set_option linter.unusedVariables false
namespace Mine
open PySem PyProof.Rows PySem.Builtin PySem.W
section
variable {c : Cx} {f : Fx} {m : Loc} {H : AH} {X : Value → AH → Prop} {Q : V → AH → Prop}
theorem Ex.mono {sts : List Stmt} {Q Q' : Ko} (h : Ex c f sts m H Q) (k : ∀ o m' H', Q o m' H' → Q' o m' H') : Ex c f sts m H Q' :=
  .mk fun s S => wpAny_mono (h s S) (fun _ _ ⟨o, m', H', a, b, q⟩ => ⟨o, m', H', a, b, k _ _ _ q⟩) fun _ _ ⟨C, m', H', e, a, b, d, q⟩ => ⟨C, m', H', e, a, b, d, k _ _ _ q⟩
theorem Ex_whilep (O : FrOk f) {σ : Type} {t : Expr} {body rest : List Stmt} {p : Pos} {Q : Ko} (S : σ → Loc) (μ : σ → Nat) (I : σ → Prop) (P : σ → Prop) (x0 : σ) (h0 : I x0) (hm : m = S x0)
    (ht : ∀ x, I x → Tp c f t (S x) H (P x))
    (hb : ∀ x, I x → P x → Ex c f body (S x) H (fun o m' H' => o = .next ∧ H' = H ∧ ∃ y, I y ∧ μ y < μ x ∧ m' = S y))
    (hr : ∀ x, I x → ¬ P x → Ex c f rest (S x) H Q) : Ex c f (.While t body [] p :: rest) m H Q := by
  refine Ex_while O (fun n m' H' => H' = H ∧ ∃ x, I x ∧ μ x = n ∧ m' = S x) (μ x0) ⟨rfl, x0, h0, rfl, hm⟩ fun n m' H' z => ?_
  obtain ⟨rfl, x, hx, hn, rfl⟩ := z
  refine Ts.mono (ht x hx) (fun b H'' ⟨e, q⟩ => ?_) fun _ _ z => z.elim
  subst e
  refine ⟨fun hb' => Ex.mono (hb x hx (q.mp hb')) fun o m₂ H₂ z => ?_, fun hb' => hr x hx fun r => by rw [q.mpr r] at hb'; cases hb'⟩
  refine e0a3 z fun rq94 rq95 rq96 => ?_; clear z; obtain rfl := rq94; obtain rfl := rq95; refine e1a3 rq96 fun y hy hlt rq97 => ?_; clear rq96; obtain rfl := rq97
  exact ⟨μ y, hn ▸ hlt, rfl, y, hy, rfl, rfl⟩
theorem Ex_while1 (O : FrOk f) {σ : Type} {t : Expr} {body rest : List Stmt} {p : Pos} {Q : Ko} {x : Str} {d0 : V} (g : σ → V) (μ : σ → Nat) (I : σ → Prop) (P : σ → Prop) (x0 : σ) (h0 : I x0) (hm : d0 = g x0)
    (ht : ∀ y, I y → Tp c f t (m.set x (g y)) H (P y))
    (hb : ∀ y, I y → P y → Ex c f body (m.set x (g y)) H (fun o m' H' => o = .next ∧ H' = H ∧ ∃ z, I z ∧ μ z < μ y ∧ m' = m.set x (g z)))
    (hr : ∀ y, I y → ¬ P y → Ex c f rest (m.set x (g y)) H Q) : Ex c f (.While t body [] p :: rest) (m.set x d0) H Q :=
  Ex_whilep O (fun y => m.set x (g y)) μ I P x0 h0 (by rw [hm]) ht hb hr
theorem Ev_F1 {x : Str} {p₁ p : Pos} {e : Expr} {fa : Addr} {o : Obj} {fd : FuncData} {k : Nat} {d : V} (K : CxOk c) (g : GN c x (.ref fa)) (ho : c.base.get? fa = some o) (hfd : o.data = .func fd) (R : Room k f.A) (hf : f.A.frames = some f.frs) (h1 : Pe c f e m H d) (h : Fn c k (.ref fa) [d] H Q X) (hg : f.env.globals = mainGlobals := by rfl) (hb : f.env.builtins = builtinsNs := by rfl)
    (hk : f.env.scope.kind = .function := by rfl) (hn : f.env.kindOf x = some .globalImplicit := by rfl) (hd : (x == ("__debug__" : Str)) = false := by decide) (he : starEach [e] f.env = (false, eval e f.env) :: starEach [] f.env := by rfl) : Ev c f (.Call (.Name x p₁) [e] [] p) m H Q X :=
  Ev_call ho hfd R hf ((Pe_glob K g hg hb hk hn hd).ev ⟨rfl, (Pes_cons h1 Pes_nil he).evs h⟩) he
theorem Ev_F2 {x : Str} {p₁ p : Pos} {e e₂ : Expr} {fa : Addr} {o : Obj} {fd : FuncData} {k : Nat} {d d₂ : V} (K : CxOk c) (g : GN c x (.ref fa)) (ho : c.base.get? fa = some o) (hfd : o.data = .func fd) (R : Room k f.A) (hf : f.A.frames = some f.frs) (h1 : Pe c f e m H d) (h2 : Pe c f e₂ m H d₂) (h : Fn c k (.ref fa) [d, d₂] H Q X) (hg : f.env.globals = mainGlobals := by rfl) (hb : f.env.builtins = builtinsNs := by rfl)
    (hk : f.env.scope.kind = .function := by rfl) (hn : f.env.kindOf x = some .globalImplicit := by rfl) (hd : (x == ("__debug__" : Str)) = false := by decide) (he : starEach [e, e₂] f.env = (false, eval e f.env) :: starEach [e₂] f.env := by rfl) (he2 : starEach [e₂] f.env = (false, eval e₂ f.env) :: starEach [] f.env := by rfl) : Ev c f (.Call (.Name x p₁) [e, e₂] [] p) m H Q X :=
  Ev_call ho hfd R hf ((Pe_glob K g hg hb hk hn hd).ev ⟨rfl, (Pes_cons h1 (Pes_cons h2 Pes_nil he2) he).evs h⟩) he
theorem M_min {a b : Int} (hh : f.A.handled = none) : BN c f H (fun vs => call (.builtin "min") vs) [.int a, .int b] (.int (min a b)) := .mk fun m s vs S ia => by
  simp only [IsAll] at ia; refine e2a3 ia fun v r rq98 i rq99 => ?_; clear ia; obtain rfl := rq98; refine e2a3 rq99 fun v' r' rq100 i' rq101 => ?_; clear rq99; obtain rfl := rq100; obtain rfl := rq101
  obtain ⟨t, rfl⟩ := is_int i; obtain ⟨t', rfl⟩ := is_int i'
  refine min_two_ints hh fun h' tk g => ⟨g, rfl, rfl, ?_⟩
  split
  · rw [Int.min_eq_right (by exact om38 (by assumption))]; exact mk_int
  · rw [Int.min_eq_left (by exact om39 (by assumption))]; exact mk_int
theorem M_max {a b : Int} (hh : f.A.handled = none) : BN c f H (fun vs => call (.builtin "max") vs) [.int a, .int b] (.int (max a b)) := .mk fun m s vs S ia => by
  simp only [IsAll] at ia; refine e2a3 ia fun v r rq102 i rq103 => ?_; clear ia; obtain rfl := rq102; refine e2a3 rq103 fun v' r' rq104 i' rq105 => ?_; clear rq103; obtain rfl := rq104; obtain rfl := rq105
  obtain ⟨t, rfl⟩ := is_int i; obtain ⟨t', rfl⟩ := is_int i'
  refine max_two_ints hh fun h' tk g => ⟨g, rfl, rfl, ?_⟩
  split
  · rw [Int.max_eq_right (by exact om38 (by assumption))]; exact mk_int
  · rw [Int.max_eq_left (by exact om39 (by assumption))]; exact mk_int
end
end Mine
set_option maxRecDepth 100000
set_option linter.unusedVariables false
namespace Mine
open PySem PyProof.Rows PySem.Builtin PySem.W
section
variable {c : Cx} {f : Fx} {m : Loc} {H : AH} {X : Value → AH → Prop} {Q : V → AH → Prop}
theorem Ex1_if {t : Expr} {body orelse : List Stmt} {p : Pos} {Q : Ko} (h : Ts c f t m H (fun b H' => (b = true → Ex c f body m H' Q) ∧ (b = false → Ex c f orelse m H' Q)) (fun C H' => Q (.exc C) m H')) : Ex1 c f (.If t body orelse p) m H Q := .mk fun s S =>
  wpAny_If (wpAny_mono (h s S) (fun b s₂ z => by
    refine e1a3 z fun H' S' q₁ q₂ => ?_; clear z
    cases b with
    | true => rw [if_pos rfl]; exact q₁ rfl s₂ S'
    | false => rw [if_neg (by decide)]; exact q₂ rfl s₂ S') fun _ _ z => z.ex fun _ _ y => y)
theorem Ex_ifj {t : Expr} {body orelse rest : List Stmt} {p : Pos} {Q : Ko} {P : Prop} (I : Loc → AH → Prop) (h : Tp c f t m H P)
    (h1 : P → Ex c f body m H (fun o m' H' => o = .next ∧ I m' H')) (h2 : ¬ P → Ex c f orelse m H (fun o m' H' => o = .next ∧ I m' H')) (k : ∀ m' H', I m' H' → Ex c f rest m' H' Q) : Ex c f (.If t body orelse p :: rest) m H Q :=
  Ex_seq (Ex1_if (Ts.mono h (fun b H' ⟨e, q⟩ => by
    subst e
    refine ⟨fun z => Ex.mono (h1 (q.mp z)) fun o m' H' z => ?_, fun z => Ex.mono (h2 fun y => by rw [q.mpr y] at z; cases z) fun o m' H' z => ?_⟩
    · obtain ⟨rfl, i⟩ := z; exact k _ _ i
    · obtain ⟨rfl, i⟩ := z; exact k _ _ i) fun _ _ z => z.elim))
end
end Mine
set_option maxRecDepth 100000
set_option linter.unusedVariables false
namespace Mine
open PySem PyProof.Rows PySem.Builtin PySem.W
def dget (kvs : List (Int × V)) (k : Int) : Option V := (kvs.find? fun kv => kv.1 = k).map (·.2)
def dset (kvs : List (Int × V)) (k : Int) (d : V) : List (Int × V) := if kvs.any (fun kv => kv.1 = k) then kvs.map (fun kv => if kv.1 = k then (kv.1, d) else kv) else kvs ++ [(k, d)]
theorem dget_is {h : Heap} {k : Int} : ∀ {kvs : List (Int × V)} {kv : List (Int × Value)}, kv.map (·.1) = kvs.map (·.1) → IsAll h (kvs.map (·.2)) (kv.map (·.2)) → (dget kvs k = none ∧ valueAt kv k = none) ∨ ∃ d v, dget kvs k = some d ∧ valueAt kv k = some v ∧ Is h d v
  | [], [], _, _ => .inl ⟨rfl, rfl⟩
  | [], x :: r, e, _ => by simp at e
  | x :: r, [], e, _ => by simp at e
  | (a, d) :: r, (b, v) :: r', e, i => by
    simp only [List.map_cons, List.cons.injEq] at e
    obtain ⟨rfl, e⟩ := e
    simp only [List.map_cons, IsAll] at i
    refine e2a3 i fun v' rr e' i1 i2 => ?_; clear i
    injection e' with e1 e2
    subst e1; subst e2
    by_cases q : b = k
    · subst q
      exact .inr ⟨d, v, by simp [dget], by simp [valueAt], i1⟩
    · have h1 : dget ((b, d) :: r) k = dget r k := by simp [dget, List.find?, q]
      have h2 : valueAt ((b, v) :: r') k = valueAt r' k := by simp [valueAt, List.find?, q]
      rw [h1, h2]; exact dget_is e i2
theorem dset_any {k : Int} {kvs : List (Int × V)} {kv : List (Int × Value)} (e : kv.map (·.1) = kvs.map (·.1)) : kv.any (fun x => decide (x.1 = k)) = kvs.any (fun x => decide (x.1 = k)) := by
  have h1 : kv.any (fun x => decide (x.1 = k)) = (kv.map (·.1)).any (fun x => decide (x = k)) := by rw [List.any_map]; rfl
  have h2 : kvs.any (fun x => decide (x.1 = k)) = (kvs.map (·.1)).any (fun x => decide (x = k)) := by rw [List.any_map]; rfl
  rw [h1, h2, e]
theorem dset_map {h : Heap} {k : Int} {d : V} {v : Value} (iv : Is h d v) : ∀ {kvs : List (Int × V)} {kv : List (Int × Value)}, kv.map (·.1) = kvs.map (·.1) → IsAll h (kvs.map (·.2)) (kv.map (·.2)) →
    (kv.map (fun x => if x.1 = k then (x.1, v) else x)).map (·.1) = (kvs.map (fun x => if x.1 = k then (x.1, d) else x)).map (·.1) ∧ IsAll h ((kvs.map (fun x => if x.1 = k then (x.1, d) else x)).map (·.2)) ((kv.map (fun x => if x.1 = k then (x.1, v) else x)).map (·.2))
  | [], [], _, _ => ⟨rfl, isAll_nil _⟩
  | [], x :: r, e, _ => by simp at e
  | x :: r, [], e, _ => by simp at e
  | (a, d') :: r, (b, v') :: r', e, i => by
    simp only [List.map_cons, List.cons.injEq] at e
    obtain ⟨rfl, e⟩ := e
    simp only [List.map_cons, IsAll] at i
    refine e2a3 i fun v'' rr e' i1 i2 => ?_; clear i
    injection e' with e1 e2
    subst e1; subst e2
    obtain ⟨p, q⟩ := dset_map iv e i2
    by_cases z : b = k
    · simp only [List.map_cons, z, if_true]
      exact ⟨by rw [p], isAll_cons iv q⟩
    · simp only [List.map_cons, z, if_false]
      exact ⟨by rw [p], isAll_cons i1 q⟩
theorem dset_is {h : Heap} {k : Int} {d : V} {v : Value} (iv : Is h d v) {kvs : List (Int × V)} {kv : List (Int × Value)} (e : kv.map (·.1) = kvs.map (·.1)) (i : IsAll h (kvs.map (·.2)) (kv.map (·.2))) :
    (stored kv k v).map (·.1) = (dset kvs k d).map (·.1) ∧ IsAll h ((dset kvs k d).map (·.2)) ((stored kv k v).map (·.2)) := by
  unfold stored dset
  rw [dset_any e]
  split
  · exact dset_map iv e i
  · rw [List.map_append, List.map_append, List.map_append, List.map_append, e]
    exact ⟨rfl, i.append (isAll_one iv)⟩
section
variable {c : Cx} {f : Fx} {m : Loc} {H : AH} {X : Value → AH → Prop} {Q : V → AH → Prop}
-- lists
theorem Ev_list {es : List Expr} {p : Pos} (K : CxOk c) (h : Evs c f es p m H (fun ds H' => ds.length ≤ sizeLine ∧ ∀ a o, H' a = none → Q (.ref a) (H'.set a ⟨o, .list ds⟩)) X) : Ev c f (.List es p) m H Q X := .mk fun s S => by
  refine wpAny_List (wpAny_mono (h s S) (fun vs s₁ z => ?_) fun _ _ x => x)
  obtain ⟨t, ds, H', ia, S₁, hl, q⟩ := z
  have g : Grow s₁.heap (s₁.heap.push { cls := .type "list", data := .seq vs.toArray }) := Grow.push _ _
  have hn : s₁.heap.get? s₁.heap.objs.size = none := by
    cases e : s₁.heap.get? s₁.heap.objs.size with
    | none => rfl
    | some o => exact absurd (Heap.lt_size e) (Nat.lt_irrefl _)
  have hH : H' s₁.heap.objs.size = none := by
    cases e : H' s₁.heap.objs.size with
    | none => rfl
    | some x => refine e1a2 ((S₁.rep _ _ e).obj) fun o e' _ => ?_; rw [hn] at e'; cases e'
  have hx : (s₁.heap.push { cls := .type "list", data := .seq vs.toArray }).get? s₁.heap.objs.size = some { cls := .type "list", data := .seq vs.toArray } := Heap.get?_push_size _ rfl
  exact ⟨by rw [ia.length]; exact hl, t.trans g.tk, .ref _, _, mk_raw, S₁.alloc (s' := { s₁ with heap := s₁.heap.push { cls := .type "list", data := .seq vs.toArray } }) (x := ⟨_, .list ds⟩) g rfl rfl hn (S₁.sizeBig K) ⟨hx, vs, ⟨_, _, hx, rfl, rfl, rfl⟩, ia.tk g.tk⟩, q _ _ hH⟩
theorem G_list {a : Addr} {ds : List V} {i : Int} {j : Nat} {d : V} (h : ListAt H a ds) (hj : seqIndex? i ds.length = some j) (hd : ds[j]? = some d) (hf : -9223372036854775808 ≤ i ∧ i < 9223372036854775808) : G2 c f H (.ref a) (.int i) d := .mk fun m s vo vi S io ii => by
  obtain rfl := is_raw io; obtain ⟨u, rfl⟩ := is_int ii
  refine e1a2 (S.rep.plain h) fun vs rq106 ia => ?_; obtain ⟨o, n, g, cl, dn, dt⟩ := rq106
  refine e1a2 (ia.get hd) fun v hv iv => ?_
  have hl : s.heap.IsList a vs.toArray := ⟨o, g, cl, n, dt⟩
  refine ⟨"list", _, hl.typeIs, slot_list_getitem.lookup, ?_⟩
  unfold seqIndex? at hj
  have e := ia.length
  by_cases q : i < 0
  · simp only [q, if_true] at hj
    split at hj
    · rename_i hh; simp at hh; injection hj with hj; subst hj
      exact wpAny_getItem_list_neg (x := v) hl q (by rw [List.size_toArray]; exact om40 e hh) (by omega) (by rw [List.size_toArray, e]; simpa using hv) ⟨Grow.refl _, rfl, rfl, iv⟩
    · cases hj
  · simp only [q, if_false] at hj
    split at hj
    · rename_i hh; simp at hh; injection hj with hj; subst hj
      exact wpAny_getItem_list (x := v) hl (by exact om41 q) (by omega) (by simpa using hv) ⟨Grow.refl _, rfl, rfl, iv⟩
    · cases hj
theorem L_list {a : Addr} {ds : List V} (h : ListAt H a ds) (hsz : ds.length ≤ sizeLine) : BN c f H (fun vs => call (.builtin "len") vs) [.ref a] (.int ds.length) := .mk fun m s vs S ia => by
  simp only [IsAll] at ia; refine e2a3 ia fun v r rq107 i rq108 => ?_; clear ia; obtain rfl := rq107; obtain rfl := rq108
  obtain rfl := is_raw i
  refine e1a2 (S.rep.plain h) fun us rq109 ja => ?_; obtain ⟨o, n, g, cl, dn, dt⟩ := rq109
  have e := ja.length
  have hl : ds.length < 2 ^ 63 := Nat.lt_of_le_of_lt hsz (by decide)
  refine Calls.call_len_list (items := us.toArray) ⟨o, g, cl, n, dt⟩ (by rw [List.size_toArray]; omega) ?_
  rw [List.size_toArray, e]; exact ⟨Grow.refl _, rfl, rfl, mk_int⟩
theorem I_list {a : Addr} {ds : List V} (h : ListAt H a ds) : BN c f H (fun vs => call (.builtin "isinstance") vs) [.ref a, .raw (.type "list")] (.bool true) := .mk fun m s vs S ia => by
  simp only [IsAll] at ia; refine e2a3 ia fun v r rq110 i rq111 => ?_; clear ia; obtain rfl := rq110; refine e2a3 rq111 fun v' r' rq112 i' rq113 => ?_; clear rq111; obtain rfl := rq112; obtain rfl := rq113
  obtain rfl := is_raw i; obtain rfl := is_raw i'
  refine e1a2 (S.rep.plain h) fun us rq114 ja => ?_; obtain ⟨o, n, g, cl, dn, dt⟩ := rq114
  exact IsiPair.list_list g cl ⟨Grow.refl _, rfl, rfl, mk_raw⟩
theorem has_listAt {a : Addr} {ds : List V} (h : ListAt H a ds) : Has c H (.ref a) "list" := let ⟨o, e⟩ := h; has_list e
theorem has_dictIs {a : Addr} {kvs : List (Int × V)} (h : DictIs H a kvs) : Has c H (.ref a) "dict" := fun f m s v S i => by
  obtain rfl := is_raw i
  refine e1a2 (S.rep.dictOf h) fun kv hd _ => ?_
  refine ⟨hd.typeIs, fun b e => ?_⟩
  cases e
  refine e3a3 hd fun o es ep g ex _ => ?_; clear hd
  exact ⟨o, g, ex.2.1⟩
theorem O_append {a : Addr} {ds : List V} {d : V} (h : ListAt H a ds) (hsz : ds.length ≤ sizeLine) (q : ∀ o, Q .none (H.set a ⟨o, .list (ds ++ [d])⟩)) : OpN c f (fun vs => call (.builtin "list.append") vs) [.ref a, d] m H Q X := .mk fun s vs S ia => by
  simp only [IsAll] at ia; refine e2a3 ia fun v r rq115 i rq116 => ?_; clear ia; obtain rfl := rq115; refine e2a3 rq116 fun v' r' rq117 i' rq118 => ?_; clear rq116; obtain rfl := rq117; obtain rfl := rq118
  obtain rfl := is_raw i
  refine e1a2 (S.rep.plain h) fun us pl ja => ?_
  refine list_append_plainL pl (fun h' pl' sb => ?_) (by rw [List.size_toArray, ja.length]; exact hsz)
  obtain ⟨o0, e0⟩ := h
  refine e2a2 pl' fun o n g r => ?_; clear pl'
  have nt : Tk s.heap h' := fun b o₁ _ _ e cl dt => ⟨o₁, by
    by_cases z : b = a
    · subst z; refine e2a3 pl fun o' n' g' c' _ => ?_; clear pl; rw [g'] at e; cases e; rw [c'] at cl; exact absurd cl (by decide)
    · exact sb.extBut b o₁ z e, cl, dt⟩
  have := S.upd (s' := { s with heap := h' }) (y := ⟨o, .list (ds ++ [d])⟩) e0 sb.extBut rfl rfl ⟨g, us ++ [v'], ⟨o, n, g, by simpa using r⟩, (ja.append (isAll_one i')).tk nt⟩
  exact ⟨this.2, .none, _, mk_raw, this.1, q o⟩
theorem G_dict {a : Addr} {kvs : List (Int × V)} {k : Int} {d : V} (h : DictIs H a kvs) (hd : dget kvs k = some d) : G2 c f H (.ref a) (.int k) d := .mk fun m s vo vi S io ii => by
  obtain rfl := is_raw io; obtain ⟨u, rfl⟩ := is_int ii
  refine e1a3 (S.rep.dictOf h) fun kv dd e ia => ?_
  rcases dget_is (k := k) e ia with ⟨e1, _⟩ | ⟨d', v, e1, e2, iv⟩
  · rw [hd] at e1; cases e1
  · rw [hd] at e1; cases e1
    exact ⟨"dict", _, dd.typeIs, slot_dict_getitem.lookup, wpAny_getItem_of (knd := intKind c.prog c.w) (k := k) (by simp [intKind, Value.isInt]) dd.mapOf e2 ⟨Grow.refl _, rfl, rfl, iv⟩⟩
end
end Mine
set_option maxRecDepth 100000
set_option linter.unusedVariables false
namespace Mine
open PySem PyProof.Rows PySem.Builtin PySem.W
theorem size_none (h : Heap) : h.get? h.objs.size = none := by
  cases e : h.get? h.objs.size with
  | none => rfl
  | some o => exact absurd (Heap.lt_size e) (Nat.lt_irrefl _)
section
variable {c : Cx} {f : Fx} {m : Loc} {H : AH} {X : Value → AH → Prop} {Q : V → AH → Prop}
theorem St.sizeH {s : Shared} (S : St c f m H s) : H s.heap.objs.size = none := by
  cases e : H s.heap.objs.size with
  | none => rfl
  | some x => refine e1a2 ((S.rep _ _ e).obj) fun o e' _ => ?_; rw [size_none] at e'; cases e'
theorem keyInt {k : Int} {u : Tok} : (intKind c.prog c.w).is k (.int k u) = true := by simp [intKind, Value.isInt]
theorem B_notIn {a : Addr} {kvs : List (Int × V)} {k : Int} (h : DictIs H a kvs) : B2 c f H (compareOp .NotIn) (.int k) (.ref a) (.bool (!(dget kvs k).isSome)) := .mk fun m s v₁ v₂ S i₁ i₂ => by
  obtain ⟨t, rfl⟩ := is_int i₁; obtain rfl := is_raw i₂
  have ns : (a == sysModules) = false := let ⟨o, e⟩ := h; notSys S e
  refine e1a3 (S.rep.dictOf h) fun kv dd e ia => ?_
  refine wpAny_notIn_of (knd := intKind c.prog c.w) (k := k) keyInt ns dd.mapOf ⟨Grow.refl _, rfl, rfl, ?_⟩
  rcases dget_is (k := k) e ia with ⟨e1, e2⟩ | ⟨d', v, e1, e2, iv⟩ <;> (rw [e1, e2]; exact mk_raw)
theorem L_dict {a : Addr} {kvs : List (Int × V)} (h : DictIs H a kvs) (hsz : kvs.length ≤ sizeLine) : BN c f H (fun vs => call (.builtin "len") vs) [.ref a] (.int kvs.length) := .mk fun m s vs S ia => by
  simp only [IsAll] at ia; refine e2a3 ia fun v r rq119 i rq120 => ?_; clear ia; obtain rfl := rq119; obtain rfl := rq120
  obtain rfl := is_raw i
  have ns : (a == sysModules) = false := let ⟨o, e⟩ := h; notSys S e
  refine e1a3 (S.rep.dictOf h) fun kv dd e ia => ?_
  have hl : kvs.length < 2 ^ 63 := Nat.lt_of_le_of_lt hsz (by decide)
  have el : kv.length = kvs.length := by have := congrArg List.length e; simpa using this
  refine call_len_dict (knd := intKind c.prog c.w) ns dd (by omega) ?_
  rw [el]; exact ⟨Grow.refl _, rfl, rfl, mk_int⟩
theorem I_dict {a : Addr} {kvs : List (Int × V)} (h : DictIs H a kvs) : BN c f H (fun vs => call (.builtin "isinstance") vs) [.ref a, .raw (.type "dict")] (.bool true) := .mk fun m s vs S ia => by
  simp only [IsAll] at ia; refine e2a3 ia fun v r rq121 i rq122 => ?_; clear ia; obtain rfl := rq121; refine e2a3 rq122 fun v' r' rq123 i' rq124 => ?_; clear rq122; obtain rfl := rq123; obtain rfl := rq124
  obtain rfl := is_raw i; obtain rfl := is_raw i'
  refine e1a3 (S.rep.dictOf h) fun kv rq125 e ia => ?_; obtain ⟨o, es, ep, g, ex, _⟩ := rq125
  exact IsiPair.dict_dict g ex.1 ⟨Grow.refl _, rfl, rfl, mk_raw⟩
theorem Ev_dict0 {p : Pos} (K : CxOk c) (q : ∀ a o, H a = none → Q (.ref a) (H.set a ⟨o, .dict []⟩)) : Ev c f (.Dict [] [] p) m H Q X := .mk fun s S => by
  have g : Grow s.heap (s.heap.push { cls := .type "dict", data := .dict #[] }) := Grow.push _ _
  have hx : (s.heap.push { cls := .type "dict", data := .dict #[] }).get? s.heap.objs.size = some { cls := .type "dict", data := .dict #[] } := Heap.get?_push_size _ rfl
  refine wpAny_Dict_empty ⟨g.tk, .ref _, _, mk_raw, S.alloc (s' := { s with heap := s.heap.push { cls := .type "dict", data := .dict #[] } }) (x := ⟨_, .dict []⟩) g rfl rfl (size_none _) (S.sizeBig K) ⟨hx, [], ?_, rfl, isAll_nil _⟩, q _ _ S.sizeH⟩
  exact ⟨_, _, _, hx, ⟨rfl, rfl, rfl⟩, rfl, (by intro e he; simp at he), .nil, List.nodup_nil⟩
theorem Ex_store {o i value : Expr} {p' p : Pos} {rest : List Stmt} {Q : Ko}
    (h : Ev c f value m H (fun dv H₁ => Ev c f o m H₁ (fun do_ H₂ => Ev c f i m H₂ (fun di H₃ => ∃ a kvs k, do_ = .ref a ∧ di = .int k ∧ DictIs H₃ a kvs ∧ kvs.length ≤ sizeLine ∧ ∀ o', Ex c f rest m (H₃.set a ⟨o', .dict (dset kvs k dv)⟩) Q) (fun C H' => Q (.exc C) m H')) (fun C H' => Q (.exc C) m H')) (fun C H' => Q (.exc C) m H'))
    (hs : swapsWith value (some (.Subscript o i p')) p.line f.env = pure false := by rfl) : Ex c f (.Assign [.Subscript o i p'] value p :: rest) m H Q := .mk fun s S => by
  refine wpAny_execs_cons (wpAny_Assign_Subscript (wpAny_mono (h s S) (fun v s₁ z => ?_) fun x s' z => z.ex fun _ _ y => y) hs)
  obtain ⟨t₁, dv, H₁, i₁, S₁, q₁⟩ := z
  refine wpAny_mono (q₁ s₁ S₁) (fun vo s₂ z => ?_) fun x s' z => z.ex fun _ _ y => y
  obtain ⟨t₂, do_, H₂, i₂, S₂, q₂⟩ := z
  refine wpAny_mono (q₂ s₂ S₂) (fun vi s₃ z => ?_) fun x s' z => z.ex fun _ _ y => y
  obtain ⟨t₃, di, H₃, i₃, S₃, a, kvs, k, rfl, rfl, hd, hsz, q⟩ := z
  obtain rfl := is_raw i₂; obtain ⟨u, rfl⟩ := is_int i₃
  refine e1a3 (S₃.rep.dictOf hd) fun kv dd e ia => ?_
  have el : kv.length = kvs.length := by have := congrArg List.length e; simpa using this
  refine wpAny_setItem_pairs (knd := intKind c.prog c.w) (k := k) keyInt dd (fun h' dd' sb => ?_) (by exact om42 hsz el)
  obtain ⟨o0, e0⟩ := hd
  have nt : Tk s₃.heap h' := fun b o₁ _ _ e cl dt => ⟨o₁, by
    by_cases z : b = a
    · subst z; refine e3a3 dd fun o' _ _ g' ex _ => ?_; clear dd; rw [g'] at e; cases e; rw [ex.1] at cl; exact absurd cl (by decide)
    · exact sb.extBut b o₁ z e, cl, dt⟩
  refine e3a2 (id dd') fun o es ep g r => ?_
  obtain ⟨p1, p2⟩ := dset_is (k := k) (d := dv) (v := v) ((i₁.tk (t₂.trans t₃)).tk nt) e (ia.tk nt)
  have := S₃.upd (s' := { s₃ with heap := h', toks := s₃.toks + 1 }) (y := ⟨o, .dict (dset kvs k dv)⟩) e0 sb.extBut rfl rfl ⟨g, _, dd', p1, p2⟩
  exact (q o) _ this.1
theorem O_dict {a : Addr} {kvs : List (Int × V)} (K : CxOk c) (h : DictIs H a kvs) (hsz : kvs.length ≤ sizeLine) (q : ∀ b o, H b = none → Q (.ref b) (H.set b ⟨o, .dict kvs⟩)) : OpN c f (fun vs => call (.type "dict") vs) [.ref a] m H Q X := .mk fun s vs S ia => by
  simp only [IsAll] at ia; refine e2a3 ia fun v r rq126 i rq127 => ?_; clear ia; obtain rfl := rq126; obtain rfl := rq127
  obtain rfl := is_raw i
  have ns : (a == sysModules) = false := let ⟨o, e⟩ := h; notSys S e
  refine e1a3 (S.rep.dictOf h) fun kv dd e ia => ?_
  have el : kv.length = kvs.length := by have := congrArg List.length e; simpa using this
  refine kt_call_dict (knd := intKind c.prog c.w) ns dd (by exact om42 hsz el) fun h' dd' sb => ?_
  have g : Grow s.heap h' := fun b o' eb => by
    have hb : b ≠ s.heap.objs.size := fun z => by rw [z, size_none] at eb; cases eb
    exact (sb.2 b hb).trans (Heap.get?_push_of_some _ eb)
  refine e3a2 (id dd') fun o es ep gg r => ?_
  exact ⟨g.tk, .ref _, _, mk_raw, S.alloc (s' := { s with heap := h' }) (x := ⟨o, .dict kvs⟩) g rfl rfl (size_none _) (S.sizeBig K) ⟨gg, kv, dd', e, ia.tk g.tk⟩, q _ _ S.sizeH⟩
theorem O_keys {a : Addr} {kvs : List (Int × V)} (K : CxOk c) (hh : f.A.handled = none) (h : DictIs H a kvs) (hsz : kvs.length ≤ sizeLine) (q : ∀ b o, H b = none → Q (.ref b) (H.set b ⟨o, .list (kvs.map fun p => .int p.1)⟩)) : OpN c f (fun vs => call (.type "list") vs) [.ref a] m H Q X := .mk fun s vs S ia => by
  simp only [IsAll] at ia; refine e2a3 ia fun v r rq128 i rq129 => ?_; clear ia; obtain rfl := rq128; obtain rfl := rq129
  obtain rfl := is_raw i
  have ns : (a == sysModules) = false := let ⟨o, e⟩ := h; notSys S e
  obtain ⟨o, eo⟩ := h
  refine e3a8 (S.rep.dict eo) fun kv es ep g c1 c2 c3 c4 c5 p ia => ?_
  have hm : s.heap.DictAt (intKind c.prog c.w) a kv ep := ⟨o, es, g, c1, c2, c3, c4, c5⟩
  have el : kv.length = kvs.length := by have := congrArg List.length p; simpa using this
  refine kdl_call (kdl_dict (knd := intKind c.prog c.w) (kvs := kv) (ep := ep) ns) hh hm (by exact om42 hsz el) fun h' tk acc c' g' gg hi => ?_
  have gr : Grow s.heap h' := g'
  refine ⟨gr.tk, .ref _, _, mk_raw, S.alloc (s' := { s with heap := h', toks := tk }) (x := ⟨_, .list (kvs.map fun p => .int p.1)⟩) gr rfl rfl (size_none _) (S.sizeBig K) ⟨gg, acc.toList, ⟨_, c', gg, rfl, rfl, by simp⟩, ?_⟩, q _ _ S.sizeH⟩
  have key : ∀ (l : List Value) (ks : List Int), l.length = ks.length → (∀ (j : Nat) v, l[j]? = some v → ∃ k, ks[j]? = some k ∧ ∃ t, v = Value.int k t) → IsAll h' (ks.map V.int) l := by
    intro l
    induction l with
    | nil => intro ks hl _; cases ks with
      | nil => exact isAll_nil _
      | cons _ _ => simp at hl
    | cons v l ih => intro ks hl hk; cases ks with
      | nil => simp at hl
      | cons k ks =>
        refine e1a2 (hk 0 v rfl) fun k' e' rq130 => ?_; obtain ⟨t, rfl⟩ := rq130
        simp at e'; subst e'
        exact isAll_cons mk_int (ih ks (by simpa using hl) fun j v hj => by simpa using hk (j + 1) v (by simpa using hj))
  have e2 : (kvs.map fun p => V.int p.1) = (kv.map (·.1)).map V.int := by rw [p, List.map_map]; rfl
  rw [e2]
  refine key _ _ (by simp [hi.1]) fun j v hj => ?_
  refine e2a2 (hi.2 j v (by simpa using hj)) fun k x e1 e3 => ?_
  refine ⟨k, by rw [List.getElem?_map, e1]; rfl, ?_⟩
  cases v with
  | int k' t => simp [intKind, Value.isInt] at e3; exact ⟨t, by rw [e3]⟩
  | _ => simp [intKind, Value.isInt] at e3
-- lists compared
theorem B_eql {n : Nat} {a b : Addr} {ds es : List V} {e : Nat → Bool} (ha : ListAt H a ds) (hb : ListAt H b es) (hl : ds.length = es.length) (he : ∀ j d₁ d₂, ds[j]? = some d₁ → es[j]? = some d₂ → EqA n d₁ d₂ (e j)) (hu : f.A.units + 4 * (n + 1) < cLine) :
    B2 c f H (compareOp .Eq) (.ref a) (.ref b) (.bool ((List.range ds.length).all e)) := .mk fun m s v₁ v₂ S i j => by
  obtain rfl := is_raw i; obtain rfl := is_raw j
  refine e1a2 (S.rep.plain ha) fun us rq131 ia => ?_; obtain ⟨o, k, g, cl, dn, dt⟩ := rq131
  refine e1a2 (S.rep.plain hb) fun us' rq132 ia' => ?_; obtain ⟨o', k', g', cl', dn', dt'⟩ := rq132
  have e1 : us.toArray.size = ds.length := by rw [List.size_toArray]; exact ia.length
  refine SeqAt.eq_listAt (e := e) (items := us.toArray) (items2 := us'.toArray) ⟨o, g, cl, k, dt⟩ ⟨o', g', cl', k', dt'⟩ (by rw [List.size_toArray, List.size_toArray, ia.length, ia'.length, hl]) (by exact om43 hu) (fun j h1 h2 => by
        simp only [List.size_toArray] at h1 h2
        refine e1a2 (ia.at h1) fun d₁ q₁ i₁ => ?_
        refine e1a2 (ia'.at h2) fun d₂ q₂ i₂ => ?_
        exact (he j d₁ d₂ q₁ q₂).eq _ _ _ _ (by have := in1_units f.A; exact om44 hu this) i₁ i₂) ?_
  rw [e1]
  exact ⟨Grow.refl _, rfl, rfl, mk_raw⟩
theorem B_eql_len {a b : Addr} {ds es : List V} (ha : ListAt H a ds) (hb : ListAt H b es) (hl : ds.length ≠ es.length) (hu : f.A.units + 4 < cLine) : B2 c f H (compareOp .Eq) (.ref a) (.ref b) (.bool false) := .mk fun m s v₁ v₂ S i j => by
  obtain rfl := is_raw i; obtain rfl := is_raw j
  refine e1a2 (S.rep.plain ha) fun us rq133 ia => ?_; obtain ⟨o, k, g, cl, dn, dt⟩ := rq133
  refine e1a2 (S.rep.plain hb) fun us' rq134 ia' => ?_; obtain ⟨o', k', g', cl', dn', dt'⟩ := rq134
  exact SeqAt.eq_list_lengthsAt (items := us.toArray) (items2 := us'.toArray) ⟨o, g, cl, k, dt⟩ ⟨o', g', cl', k', dt'⟩ (by rw [List.size_toArray, List.size_toArray, ia.length, ia'.length]; simpa using hl) (by exact om45 hu) ⟨Grow.refl _, rfl, rfl, mk_raw⟩
theorem B_nel {n : Nat} {a b : Addr} {ds es : List V} {e : Nat → Bool} (ha : ListAt H a ds) (hb : ListAt H b es) (hl : ds.length = es.length) (he : ∀ j d₁ d₂, ds[j]? = some d₁ → es[j]? = some d₂ → EqA n d₁ d₂ (e j)) (hu : f.A.units + 4 * (n + 1) < cLine) :
    B2 c f H (compareOp .NotEq) (.ref a) (.ref b) (.bool (!(List.range ds.length).all e)) := .mk fun m s v₁ v₂ S i j => by
  obtain rfl := is_raw i; obtain rfl := is_raw j
  refine e1a2 (S.rep.plain ha) fun us rq135 ia => ?_; obtain ⟨o, k, g, cl, dn, dt⟩ := rq135
  refine e1a2 (S.rep.plain hb) fun us' rq136 ia' => ?_; obtain ⟨o', k', g', cl', dn', dt'⟩ := rq136
  have e1 : us.toArray.size = ds.length := by rw [List.size_toArray]; exact ia.length
  have := SeqAt.RcNeAt.lists (A := f.A) (s := s) (l := a) (b := b) (e := e) (items := us.toArray) (items2 := us'.toArray) ⟨o, g, cl, k, dt⟩ ⟨o', g', cl', k', dt'⟩ (by rw [List.size_toArray, List.size_toArray, ia.length, ia'.length, hl]) (by exact om43 hu) (fun j h1 h2 => by
        simp only [List.size_toArray] at h1 h2
        refine e1a2 (ia.at h1) fun d₁ q₁ i₁ => ?_
        refine e1a2 (ia'.at h2) fun d₂ q₂ i₂ => ?_
        exact (he j d₁ d₂ q₁ q₂).eq _ _ _ _ (by have := in1_units f.A; exact om44 hu this) i₁ i₂)
  rw [e1] at this
  exact this c.prog c.w _ _ ⟨Grow.refl _, rfl, rfl, mk_raw⟩
theorem B_nel_len {a b : Addr} {ds es : List V} (ha : ListAt H a ds) (hb : ListAt H b es) (hl : ds.length ≠ es.length) (hu : f.A.units + 4 < cLine) : B2 c f H (compareOp .NotEq) (.ref a) (.ref b) (.bool true) := .mk fun m s v₁ v₂ S i j => by
  obtain rfl := is_raw i; obtain rfl := is_raw j
  refine e1a2 (S.rep.plain ha) fun us rq137 ia => ?_; obtain ⟨o, k, g, cl, dn, dt⟩ := rq137
  refine e1a2 (S.rep.plain hb) fun us' rq138 ia' => ?_; obtain ⟨o', k', g', cl', dn', dt'⟩ := rq138
  exact SeqAt.RcNeAt.lists_lengths (A := f.A) (s := s) (items := us.toArray) (items2 := us'.toArray) ⟨o, g, cl, k, dt⟩ ⟨o', g', cl', k', dt'⟩ (by rw [List.size_toArray, List.size_toArray, ia.length, ia'.length]; simpa using hl) (by exact om45 hu) c.prog c.w _ _ ⟨Grow.refl _, rfl, rfl, mk_raw⟩
theorem hits_same {n : Nat} {A : Around} {s : Shared} {kvs : List (Int × V)} {ka kb : List (Int × Value)} (ea : ka.map (·.1) = kvs.map (·.1)) (ia : IsAll s.heap (kvs.map (·.2)) (ka.map (·.2))) (eb : kb.map (·.1) = kvs.map (·.1)) (ib : IsAll s.heap (kvs.map (·.2)) (kb.map (·.2)))
    (nd : (kvs.map (·.1)).Nodup) (he : ∀ d ∈ kvs.map (·.2), EqA n d d true) (hu : A.units + 4 * n < cLine) : KeqHits A s kb ka true := by
  have key : ∀ (r : List (Int × V)) (ra : List (Int × Value)), (∀ k d, (k, d) ∈ r → dget kvs k = some d ∧ EqA n d d true) → ra.map (·.1) = r.map (·.1) → IsAll s.heap (r.map (·.2)) (ra.map (·.2)) → KeqHits A s kb ra true := by
    intro r
    induction r with
    | nil => intro ra _ e _; cases ra with
      | nil => exact .nil
      | cons _ _ => simp at e
    | cons x r ih => intro ra hr e i; cases ra with
      | nil => simp at e
      | cons y ra =>
        obtain ⟨k, d⟩ := x
        obtain ⟨k', v⟩ := y
        simp only [List.map_cons, List.cons.injEq] at e
        obtain ⟨rfl, e⟩ := e
        simp only [List.map_cons, IsAll] at i
        refine e2a3 i fun v' rr e' i1 i2 => ?_; clear i
        injection e' with e1 e2
        subst e1; subst e2
        obtain ⟨g1, g2⟩ := hr k' d (.head _)
        rcases dget_is (k := k') eb ib with ⟨z, _⟩ | ⟨d', v', z1, z2, iv⟩
        · rw [g1] at z; cases z
        · rw [g1] at z1; cases z1
          have := KeqHits.hit (A := A) (s := s) (r := ra) (b := true) z2 (g2.eq A s v v' hu i1 iv) (ih ra (fun k d h => hr k d (.tail _ h)) e i2)
          simpa using this
  refine key kvs ka (fun k d h => ⟨?_, he d (List.mem_map.mpr ⟨(k, d), h, rfl⟩)⟩) ea ia
  clear ea ia eb ib he key
  induction kvs with
  | nil => cases h
  | cons x r ih =>
    obtain ⟨k', d'⟩ := x
    simp only [List.map_cons, List.nodup_cons] at nd
    rcases List.mem_cons.mp h with h | h
    · cases h; simp [dget]
    · have : k' ≠ k := fun z => nd.1 (by rw [z]; exact List.mem_map.mpr ⟨(k, d), h, rfl⟩)
      have := ih nd.2 h
      simp only [dget, List.find?, ‹k' ≠ k›, decide_false]
      exact this
theorem Rep.nodup {s : Shared} {a : Addr} {kvs : List (Int × V)} (S : St c f m H s) (h : DictIs H a kvs) : (kvs.map (·.1)).Nodup := by
  obtain ⟨o, eo⟩ := h
  refine e3a8 (S.rep.dict eo) fun kv es ep g c1 c2 c3 c4 c5 p ia => ?_
  rw [← p]; exact c5
theorem B_ned {n : Nat} {a b : Addr} {kvs : List (Int × V)} (ha : DictIs H a kvs) (hb : DictIs H b kvs) (he : ∀ d ∈ kvs.map (·.2), EqA n d d true) (hu : f.A.units + 4 * (n + 1) < cLine) : B2 c f H (compareOp .NotEq) (.ref a) (.ref b) (.bool false) := .mk fun m s v₁ v₂ S i j => by
  obtain rfl := is_raw i; obtain rfl := is_raw j
  have ns : (a == sysModules) = false := let ⟨o, e⟩ := ha; notSys S e
  have ns' : (b == sysModules) = false := let ⟨o, e⟩ := hb; notSys S e
  refine e1a3 (S.rep.dictOf ha) fun ka da ea ia => ?_
  refine e1a3 (S.rep.dictOf hb) fun kb db eb ib => ?_
  have el : ka.length = kb.length := by have := congrArg List.length (ea.trans eb.symm); simpa using this
  refine keq_ne (knd := intKind c.prog c.w) (r := true) ns ns' da db (by exact om43 hu) (fun _ => hits_same ea ia eb ib (Rep.nodup S ha) he (by have := in1_units f.A; exact om44 hu this)) ?_
  have e1 : (!(ka.length == kb.length && true)) = false := by rw [el]; simp
  rw [e1]
  exact ⟨Grow.refl _, rfl, rfl, mk_raw⟩
end
end Mine
set_option maxRecDepth 100000
set_option linter.unusedVariables false
namespace Mine
open PySem PyProof.Rows PySem.Builtin PySem.W PySem.F
theorem AH.set_set (H : AH) (a : Addr) (x y : Cell) : (H.set a x).set a y = H.set a y := funext fun b => by unfold AH.set; split <;> rfl
theorem ListAt.same (H : AH) (a : Addr) (o : Obj) (ds : List V) : ListAt (H.set a ⟨o, .list ds⟩) a ds := ⟨o, set_same _ _ _⟩
theorem DictIs.same (H : AH) (a : Addr) (o : Obj) (kvs : List (Int × V)) : DictIs (H.set a ⟨o, .dict kvs⟩) a kvs := ⟨o, set_same _ _ _⟩
theorem ListAt.ne {H : AH} {a b : Addr} {x : Cell} {ds : List V} (h : ListAt H b ds) (n : b ≠ a) : ListAt (H.set a x) b ds := let ⟨o, e⟩ := h; ⟨o, (set_ne H x n).trans e⟩
theorem DictIs.ne {H : AH} {a b : Addr} {x : Cell} {kvs : List (Int × V)} (h : DictIs H b kvs) (n : b ≠ a) : DictIs (H.set a x) b kvs := let ⟨o, e⟩ := h; ⟨o, (set_ne H x n).trans e⟩
theorem ListAt.fresh {H : AH} {a b : Addr} {x : Cell} {ds : List V} (h : ListAt H b ds) (n : H a = none) : ListAt (H.set a x) b ds := h.ne fun q => by obtain ⟨o, e⟩ := h; rw [q, n] at e; cases e
theorem DictIs.fresh {H : AH} {a b : Addr} {x : Cell} {kvs : List (Int × V)} (h : DictIs H b kvs) (n : H a = none) : DictIs (H.set a x) b kvs := h.ne fun q => by obtain ⟨o, e⟩ := h; rw [q, n] at e; cases e
theorem ListAt.ne_new {H : AH} {a b : Addr} {ds : List V} (h : ListAt H b ds) (n : H a = none) : b ≠ a := fun q => by obtain ⟨o, e⟩ := h; rw [q, n] at e; cases e
theorem DictIs.ne_new {H : AH} {a b : Addr} {kvs : List (Int × V)} (h : DictIs H b kvs) (n : H a = none) : b ≠ a := fun q => by obtain ⟨o, e⟩ := h; rw [q, n] at e; cases e
theorem Ext.upd {H H' : AH} {a : Addr} {x : Cell} (e : Ext H H') (n : H a = none) : Ext H (H'.set a x) := fun b nb => by
  have : b ≠ a := fun q => by subst q; exact nb n
  rw [AH.set, if_neg this]; exact e b nb
theorem Ext.list {H H' : AH} {a : Addr} {ds : List V} (e : Ext H H') (h : ListAt H a ds) : ListAt H' a ds := let ⟨o, q⟩ := h; ⟨o, (e a (by rw [q]; exact fun z => nomatch z)).trans q⟩
theorem Ext.dict {H H' : AH} {a : Addr} {kvs : List (Int × V)} (e : Ext H H') (h : DictIs H a kvs) : DictIs H' a kvs := let ⟨o, q⟩ := h; ⟨o, (e a (by rw [q]; exact fun z => nomatch z)).trans q⟩
theorem Ext.none {H H' : AH} {a : Addr} (e : Ext H H') (n : H' a = none) : H a = none := by
  cases q : H a with
  | none => rfl
  | some x => rw [e a (by rw [q]; exact fun z => nomatch z), q] at n; cases n
section
variable {c : Cx} {f : Fx} {m : Loc} {H : AH} {X : Value → AH → Prop} {Q : V → AH → Prop}
theorem Ev_sub {value slice : Expr} {p : Pos} (h : Ev c f value m H (fun o H₁ => Ev c f slice m H₁ (fun i H₂ => ∃ d, G2 c f H₂ o i d ∧ Q d H₂) X) X)
    (hs : ∀ o i, ∃ ops, subscripted slice false o i = operate ops (getItem o i) := by intro o i; exact ⟨_, rfl⟩) : Ev c f (.Subscript value slice p) m H Q X := .mk fun s S => by
  refine Subscript_ (wpAny_mono (h s S) (fun vo s₁ z => ?_) fun _ _ x => x)
  obtain ⟨t₁, o, H₁, i₁, S₁, q₁⟩ := z
  refine wpAny_mono (q₁ s₁ S₁) (fun vi s₂ z => ?_) fun _ _ x => x
  obtain ⟨t₂, i, H₂, i₂, S₂, d, g2, q⟩ := z
  refine e2a3 (g2 m s₂ vo vi S₂ (i₁.tk t₂) i₂) fun T id hT hl y => ?_
  obtain ⟨ops, e⟩ := hs vo vi
  refine tail_any hT hl (wpAny_mono y (fun v s₃ z => ?_) fun _ _ x => x.elim) e
  refine e0a4 z fun g hg ho i => ?_; clear z
  exact ⟨t₁.trans (t₂.trans g.tk), d, _, i, S₂.grow g hg ho, q⟩
theorem Ex_appendS {o e : Expr} {ap p p' : Pos} {rest : List Stmt} {Q : Ko} {a : Addr} {ds : List V} {d : V} (ho : Pe c f o m H (.ref a)) (he : Pe c f e m H d) (h : ListAt H a ds) (hsz : ds.length ≤ sizeLine) (k : ∀ o', Ex c f rest m (H.set a ⟨o', .list (ds ++ [d])⟩) Q)
    (hbase : attributeBase o (Str.ofString "append") f.env (eval o f.env) = eval o f.env := by rfl) (hst : starEach [e] f.env = (false, eval e f.env) :: starEach [] f.env := by rfl) (hline : (ap.endLine == p.line) = true := by rfl) (hi : interactive f.env = false := by rfl) (hsw : swapsWith (.Call (.Attribute o (Str.ofString "append") ap) [e] [] p) none p'.line f.env = pure false := by rfl) :
    Ex c f (.Expr (.Call (.Attribute o (Str.ofString "append") ap) [e] [] p) p' :: rest) m H Q :=
  Ex_expr (Ev_meth plainAttrs_list PySem.slot_list_append (ho.ev ⟨has_listAt h, Evs_cons (he.ev (Evs_nil (O_append h hsz fun o' => ⟨fun h v i a e => (by rw [is_raw i] at e; exact nomatch e), k o'⟩))) hst⟩) PySem.type_list_append hbase (by rw [hst]; rfl) hline hst rfl) hi hsw
end
end Mine
set_option maxRecDepth 100000
set_option linter.unusedVariables false
namespace Mine
open PySem PyProof.Rows PySem.Builtin PySem.W
section
variable {c : Cx} {f : Fx} {m : Loc} {H : AH} {X : Value → AH → Prop} {Q : V → AH → Prop}
theorem Tp.of_ext {e : Expr} {P : Prop} (h : Ts c f e m H (fun b H' => Ext H H' ∧ (b = true ↔ P)) (fun _ _ => False)) : Tp c f e m H P := .mk fun s S =>
  wpAny_mono (h s S) (fun b s' ⟨H', S', x, q⟩ => ⟨H, S.forget S' x, rfl, q⟩) fun _ _ ⟨_, _, _, _, _, _, z⟩ => z.elim
theorem Ev_T1 {x : Str} {p₁ p : Pos} {e : Expr} {T : String} {d : V} (K : CxOk c) (g : GN c x (.type T)) (h1 : Pe c f e m H d) (h : OpN c f (fun vs => call (.type T) vs) [d] m H Q X) (hg : f.env.globals = mainGlobals := by rfl) (hb : f.env.builtins = builtinsNs := by rfl)
    (hk : f.env.scope.kind = .function := by rfl) (hn : f.env.kindOf x = some .globalImplicit := by rfl) (hd : (x == ("__debug__" : Str)) = false := by decide) (he : starEach [e] f.env = (false, eval e f.env) :: starEach [] f.env := by rfl) : Ev c f (.Call (.Name x p₁) [e] [] p) m H Q X :=
  Ev_callT ((Pe_glob K g hg hb hk hn hd).ev ⟨rfl, (Pes_cons h1 Pes_nil he).evs h⟩) he rfl
theorem all_ints {l l' : List Int} (h : l.length = l'.length) : (List.range l.length).all (fun j => l[j]? == l'[j]?) = decide (l = l') := by
  rw [Bool.eq_iff_iff, List.all_eq_true, decide_eq_true_iff]
  constructor
  · intro k
    refine List.ext_getElem? fun i => ?_
    by_cases q : i < l.length
    · simpa using k i (List.mem_range.mpr q)
    · rw [List.getElem?_eq_none (by exact om46 q), List.getElem?_eq_none (by exact om47 h q)]
  · rintro rfl j _; simp
theorem eq_ints {l l' : List Int} : ∀ (j : Nat) d₁ d₂, (l.map V.int)[j]? = some d₁ → (l'.map V.int)[j]? = some d₂ → EqA 0 d₁ d₂ (l[j]? == l'[j]?) := fun j d₁ d₂ h₁ h₂ => by
  refine e1a2 (map_item h₁) fun a ha rq139 => ?_; obtain rfl := rq139
  refine e1a2 (map_item h₂) fun b hb rq140 => ?_; obtain rfl := rq140
  rw [ha, hb]
  have : (some a == some b) = (a == b) := by simp
  rw [this]; exact EqA.int a b
theorem B_eql_ints {a b : Addr} {l l' : List Int} (ha : ListAt H a (l.map V.int)) (hb : ListAt H b (l'.map V.int)) (hu : f.A.units + 4 < cLine) : B2 c f H (compareOp .Eq) (.ref a) (.ref b) (.bool (decide (l = l'))) := by
  by_cases q : l.length = l'.length
  · have := B_eql (c := c) (f := f) ha hb (by simpa using q) eq_ints (by exact om48 hu)
    rw [List.length_map, all_ints q] at this; exact this
  · rw [decide_eq_false (fun e => q (by rw [e]))]
    exact B_eql_len ha hb (by simpa using q) hu
theorem B_nel_ints {a b : Addr} {l l' : List Int} (ha : ListAt H a (l.map V.int)) (hb : ListAt H b (l'.map V.int)) (hu : f.A.units + 4 < cLine) : B2 c f H (compareOp .NotEq) (.ref a) (.ref b) (.bool (!decide (l = l'))) := by
  by_cases q : l.length = l'.length
  · have := B_nel (c := c) (f := f) ha hb (by simpa using q) eq_ints (by exact om48 hu)
    rw [List.length_map, all_ints q] at this; exact this
  · rw [decide_eq_false (fun e => q (by rw [e]))]
    exact B_nel_len ha hb (by simpa using q) hu
theorem keys_ints (kvs : List (Int × V)) : (kvs.map fun p => V.int p.1) = (kvs.map (·.1)).map V.int := by rw [List.map_map]; rfl
end
structure Wood (kvs : List (Int × V)) (rk : Int → Nat) : Prop where
  ne : kvs ≠ []
  few : kvs.length ≤ 40
  low : ∀ k, rk k ≤ 40
  down : ∀ k d, dget kvs k = some d → d = .none ∨ ∃ b d', d = .int b ∧ dget kvs b = some d' ∧ rk b < rk k
inductive IsChain (kvs : List (Int × V)) : Int → List Int → Prop
  | stop {n : Int} : dget kvs n = some .none → IsChain kvs n [n]
  | step {n b : Int} {xs : List Int} : dget kvs n = some (.int b) → IsChain kvs b xs → IsChain kvs n (n :: xs)
def optV : Option Int → V
  | some y => .int y
  | none => .none
theorem IsChain.head {kvs : List (Int × V)} {n : Int} {xs : List Int} (h : IsChain kvs n xs) : ∃ r, xs = n :: r := by cases h <;> exact ⟨_, rfl⟩
theorem IsChain.next {kvs : List (Int × V)} {n : Int} {xs : List Int} (h : IsChain kvs n xs) : ∀ i x, xs[i]? = some x → dget kvs x = some (optV xs[i + 1]?) := by
  induction h with
  | stop e => intro i x hx; cases i with
    | zero => simp at hx; subst hx; simpa [optV] using e
    | succ i => simp at hx
  | step e h ih => intro i x hx; cases i with
    | zero =>
      simp at hx; subst hx
      obtain ⟨r, rfl⟩ := h.head
      simpa [optV] using e
    | succ i => simpa using ih i x (by simpa using hx)
theorem dget_mem {kvs : List (Int × V)} {k : Int} {d : V} (h : dget kvs k = some d) : (k, d) ∈ kvs := by
  unfold dget at h
  cases q : kvs.find? (fun kv => decide (kv.1 = k)) with
  | none => rw [q] at h; cases h
  | some x =>
    rw [q] at h; cases h
    have := List.find?_some q
    have e : x.1 = k := by simpa using this
    have hm := List.mem_of_find?_eq_some q
    obtain ⟨a, b⟩ := x
    simp at e; subst e; exact hm
theorem dget_of_mem {kvs : List (Int × V)} {k : Int} {d : V} (nd : (kvs.map (·.1)).Nodup) (h : (k, d) ∈ kvs) : dget kvs k = some d := by
  induction kvs with
  | nil => cases h
  | cons x r ih =>
    obtain ⟨k', d'⟩ := x
    simp only [List.map_cons, List.nodup_cons] at nd
    rcases List.mem_cons.mp h with h | h
    · cases h; simp [dget]
    · have hne : k' ≠ k := fun z => nd.1 (by rw [z]; exact List.mem_map.mpr ⟨(k, d), h, rfl⟩)
      have := ih nd.2 h
      simp only [dget, List.find?, hne, decide_false]
      exact this
theorem dget_key {kvs : List (Int × V)} {k : Int} (h : k ∈ kvs.map (·.1)) : ∃ d, dget kvs k = some d := by
  unfold dget
  cases q : kvs.find? (fun kv => decide (kv.1 = k)) with
  | none =>
    refine e1a2 (List.mem_map.mp h) fun x hx rq141 => ?_; obtain rfl := rq141
    have := List.find?_eq_none.mp q x hx
    simp at this
  | some x => exact ⟨x.2, rfl⟩
end Mine
set_option maxRecDepth 100000
set_option linter.unusedVariables false
namespace Mine
open PySem PyProof.Rows PySem.Builtin PySem.W PySem.Calls
structure Own (c : Cx) (K : Frag) : Prop where
  cls : ∀ x C bmB newId, nsIn K mainGlobals x = some (some (.ref C)) → excIn K C bmB newId = true → OwnCls x C bmB newId c.mg c.base
def Loc.del (m : Loc) (x : Str) : Loc := fun y => if y = x then none else m y
section
variable {c : Cx} {f : Fx} {m : Loc} {H : AH} {X : Value → AH → Prop}
theorem Ex_raise {x : Str} {np cpos pos : Pos} {e : Expr} {rest : List Stmt} {Q : Ko} {d : V} {C : Addr} {bmB : List Value} {B newId initId : String} (K : CxOk c) (O : OwnCls x C bmB newId c.mg c.base) (FB : ExcBaseFacts B newId initId bmB) (hh : f.A.handled = none) (he : Pe c f e m H d) (q : Q (.exc (.ref C)) m H)
    (hg : f.env.globals = mainGlobals := by rfl) (hb : f.env.builtins = builtinsNs := by rfl) (hk : f.env.scope.kind = .function := by rfl) (hn : f.env.kindOf x = some .globalImplicit := by rfl) (hd : (x == ("__debug__" : Str)) = false := by decide) (hst : starEach [e] f.env = (false, eval e f.env) :: starEach [] f.env := by rfl) :
    Ex c f (.Raise (some (.Call (.Name x np) [e] [] cpos)) none pos :: rest) m H Q := .mk fun s S => by
  refine e17a4 (O.obj) fun tl N nm qn bs hdct sn sub ab col dd k0 k1 k2 k3 k5 mN hC hN hni T => ?_
  refine wpAny_execs_cons (wpAny_Raise_call_subT (C := C) (nm := nm) (q := qn) (N := N) (bs := bs) (bm := tl) (hdct := hdct) (sn := sn) (sub := sub) (ab := ab) (col := col) (dd := dd) (k0 := k0) (k1 := k1) (k2 := k2) (k3 := k3) (k5 := k5)
    FB (mN := mN) (T.hasType FB.hasBase) hh (by rw [hst]; rfl) hni ?_)
  refine wpAny_mono ((Pe_glob (p := np) (m := m) (H := H) K (.inl O.bound) hg hb hk hn hd) s S) (fun v s₁ z => ?_) fun _ _ z => z.ex fun _ _ y => y.elim
  obtain ⟨t₁, d₁, H₁, i₁, S₁, rfl, rfl⟩ := z
  obtain rfl := is_raw i₁
  refine ⟨rfl, ?_⟩
  have ev := (Pes_cons he Pes_nil hst) cpos s₁ S₁
  rw [hst] at ev ⊢
  refine Calls.evalArgs_plain (wpAny_mono ev (fun vs s₂ z => ?_) fun _ _ z => Thr.ex z fun _ _ y => y.elim)
  obtain ⟨t₂, ds, H₂, i₂, S₂, rfl, rfl⟩ := z
  have hl := i₂.length
  refine ⟨rfl, by rw [hl]; show 1 ≤ sizeLine; decide, S₂.base _ _ hC, hN.keeps S₂.base, T.keeps S₂.base, fun h' e' M => ?_⟩
  have gr : Grow s₂.heap h' := M.keeps
  refine e1a3 (M.there) fun t g1 g2 g3 => ?_
  refine ⟨.ref C, m, _, e', rfl, S₂.grow (s' := { s₂ with heap := h' }) gr rfl rfl, ⟨⟨S₂.old M.new, fun p hp z => ?_⟩, _, _, g1, rfl, rfl, ⟨by simp, .inl rfl⟩, .inl rfl⟩, q⟩
  have := (S₂.kp p hp).1
  rw [← z, M.new] at this; cases this
theorem St.around {s : Shared} (S : St c f m H s) {A : Around} {kp : List (Addr × Obj)} (hk : ∀ p ∈ kp, p ∈ f.keep ∨ (s.heap.get? p.1 = some p.2 ∧ ∃ vs, p.2.data = .fields vs)) : St c { f with A := A, keep := kp } m H s where
  rep := S.rep
  base := S.base
  bE := S.bE
  hb := S.hb
  off := S.off
  dom := S.dom
  up := S.up
  loc := S.loc
  newL := S.newL
  trL := S.trL
  cel := S.cel
  apart := S.apart
  ff := S.ff
  fh := S.fh
  big := S.big
  kp := fun p hp => (hk p hp).elim (S.kp p) id
  gens := S.gens
  os := S.os
theorem St.back_around {s : Shared} {A : Around} {kp : List (Addr × Obj)} (S : St c { f with A := A, keep := kp } m H s) (hk : ∀ p ∈ f.keep, p ∈ kp) : St c f m H s where
  rep := S.rep
  base := S.base
  bE := S.bE
  hb := S.hb
  off := S.off
  dom := S.dom
  up := S.up
  loc := S.loc
  newL := S.newL
  trL := S.trL
  cel := S.cel
  apart := S.apart
  ff := S.ff
  fh := S.fh
  big := S.big
  kp := fun p hp => S.kp p (hk p hp)
  gens := S.gens
  os := S.os
structure Hd (c : Cx) (f : Fx) (e : Addr) (C : Value) (hs : List ExceptHandler) (m : Loc) (H : AH) (Q : Ko) : Prop where
  mk ::
  run : ∀ s, St c f m H s → FlyT f e C .none s.heap → wpAny c.M f.A (handleBy (.ref e) f.env hs) (ExOk c f Q) (ExTh c f Q) s
theorem Ex1_try {body : List Stmt} {h₀ : ExceptHandler} {hs : List ExceptHandler} {p : Pos} {Q : Ko} (O : FrOk f) (hb : Ex c f body m H (fun o m' H' => match o with | .exc C => ∀ e, Hd c f e C (h₀ :: hs) m' H' Q | o => Q o m' H')) : Ex1 c f (.Try body (h₀ :: hs) [] [] p) m H Q := .mk fun s S => by
  refine wpAny_Try_except (wpAny_mono (hb s S) (fun fl s₁ z => ?_) fun x s₁ z => ?_)
  · refine e3a3 z fun o m' H' fi S' q => ?_; clear z
    cases fl with
    | next => cases fi; exact wpAny_execs_nil ⟨_, m', H', rfl, S', q⟩
    | ret v => refine e1a2 fi fun d rq142 i => ?_; clear fi; obtain rfl := rq142; exact ⟨_, m', H', ⟨d, rfl, i⟩, S', q⟩
    | _ => cases fi; exact ⟨_, m', H', rfl, S', q⟩
  · refine e4a4 z fun C m' H' e rq143 S' F q => ?_; clear z; obtain rfl := rq143
    exact note_ok O S' F fun s₂ S₂ F₂ => flight_ok (fr := none) S₂ F₂ fun s₃ S₃ F₃ => (q e).run s₃ S₃ F₃
abbrev Fx.marked (f : Fx) (e : Addr) : Fx := { f with A := f.A.mark (some (.ref e)) }
theorem St.marked {s : Shared} (S : St c f m H s) (e : Addr) : St c (f.marked e) m H s := S.around fun p hp => .inl hp
theorem St.unmarked {s : Shared} {e : Addr} (S : St c (f.marked e) m H s) : St c f m H s := St.back_around S fun p hp => hp
end
end Mine
set_option maxRecDepth 100000
set_option linter.unusedVariables false
namespace Mine
open PySem PyProof.Rows PySem.Builtin PySem.W PySem.Calls
theorem looks_ty {M : Model} {h : Heap} {e : Addr} {oe : Obj} (g : h.get? e = some oe) : Looks M h (typeOf (.ref e)) oe.cls := (Looks.ld g).andThen .now
def Mt (K : Frag) (C : Value) (d : V) (b : Bool) : Prop := ∀ (M : Model) (h : Heap) (e : Addr) (oe : Obj) (v : Value), K.In h → h.get? e = some oe → oe.cls = C → Is h d v → Looks M h (excMatches (.ref e) v) b
theorem Mt_one {K : Frag} {C cv : Value} {b : Bool} (hx : exmOne K C cv = some b) : Mt K C (.raw cv) b := fun M h e oe v X g hc i => by
  obtain rfl := is_raw i
  exact exm_one X (hc ▸ looks_ty g) hx
section
variable {c : Cx} {f : Fx} {m : Loc} {H : AH}
abbrev fk (f : Fx) (e : Addr) (kp : List (Addr × Obj)) : Fx := { f with A := f.A.mark (some (.ref e)), keep := kp }
theorem clause_test {K : Frag} (KX : K.In c.base) {e : Addr} {C : Value} {t : Expr} {pos : Pos} {d : V} {b : Bool} {R : Result → Shared → Prop} (ht : ∀ kp, Pe c (fk f e kp) t m H d) (hm : Mt K C d b) {s : Shared} (S : St c f m H s) (F : FlyT f e C .none s.heap)
    (k : ∀ s', St c f m H s' → FlyT f e C .none s'.heap → R (.ok (if b then .brk else .next)) s') : codeAny c.M (f.A.mark (some (.ref e))) (.handlers (.ref e) [.ExceptHandler (some t) none [] pos] f.env) R s := by
  obtain ⟨⟨n1, n2⟩, oe, vs, T, oT, ts, a1, a2, a3, a4, a5, a6, a7, a8, a9, a10⟩ := F
  have S' : St c (fk f e ((e, oe) :: (T, oT) :: f.keep)) m H s := S.around fun p hp => by
    rcases List.mem_cons.mp hp with rfl | hp
    · exact .inr ⟨a1, vs, a3⟩
    rcases List.mem_cons.mp hp with rfl | hp
    · exact .inr ⟨a8, ts, a9⟩
    · exact .inl hp
  refine codeAny_handlers_test (wpAny_mono (ht _ s S') (fun v s₁ z => ?_) fun _ _ ⟨_, _, _, _, _, _, z⟩ => z.elim)
  obtain ⟨t₁, d', H', i, S₁, rfl, rfl⟩ := z
  have ge := (S₁.kp (e, oe) (.head _)).1
  have gT := (S₁.kp (T, oT) (.tail _ (.head _))).1
  refine hm c.M s₁.heap e oe v (fun a o q => S₁.base _ _ (KX a o q)) ge a2 i _ _ _ _ (fun b o e => e) ?_
  exact k s₁ (St.back_around S₁ fun p hp => .tail _ (.tail _ hp)) ⟨⟨n1, n2⟩, oe, vs, T, oT, ts, ge, a2, a3, a4, a5, a6, a7, gT, a9, a10⟩
theorem Hd_miss {K : Frag} (KX : K.In c.base) {e : Addr} {C : Value} {t : Expr} {name : Option Str} {body : List Stmt} {pos : Pos} {rest : List ExceptHandler} {d : V} {Q : Ko} (ht : ∀ kp, Pe c (fk f e kp) t m H d) (hm : Mt K C d false) (k : Hd c f e C rest m H Q) : Hd c f e C (.ExceptHandler (some t) name body pos :: rest) m H Q := .mk fun s S F => by
  refine wpAny_handleBy_cons (clause_test KX ht hm S F fun s' S' F' => ?_) (by intro q; cases q)
  exact k.run s' S' F'
theorem Hd_hit {K : Frag} (KX : K.In c.base) {e : Addr} {C : Value} {t : Expr} {b₀ : Stmt} {suite : List Stmt} {pos : Pos} {rest : List ExceptHandler} {d : V} {Q : Ko} (ht : ∀ kp, Pe c (fk f e kp) t m H d) (hm : Mt K C d true) (k : Ex c (f.marked e) (b₀ :: suite) m H (fun o m' H' => (∀ C, o ≠ .exc C) ∧ Q o m' H')) : Hd c f e C (.ExceptHandler (some t) none (b₀ :: suite) pos :: rest) m H Q := .mk fun s S F => by
  refine wpAny_handleBy_cons (clause_test KX ht hm S F fun s' S' F' => ?_) (by intro q; cases q)
  refine codeAny_handlers_suite (flight_ok (f := f.marked e) (fr := none) (St.marked S' e) F' fun s₂ S₂ F₂ => wpAny_mono (k.run s₂ S₂) (fun fl s₃ z => ?_) fun x s₃ z => ?_)
  · refine e3a4 z fun o m' H' fi S₃ _ q => ?_; clear z
    exact ⟨o, m', H', fi, S₃.unmarked, q⟩
  · refine e4a5 z fun C' _ _ _ _ _ _ n _ => ?_; clear z
    exact (n C' rfl).elim
end
end Mine
set_option maxRecDepth 100000
set_option linter.unusedVariables false
namespace Mine
open PySem PyProof.Rows PySem.Builtin PySem.W PySem.Calls
section
variable {c : Cx} {f : Fx} {m : Loc} {H : AH}
theorem Ex_tryj {body rest : List Stmt} {h₀ : ExceptHandler} {hs : List ExceptHandler} {p : Pos} {Q : Ko} (O : FrOk f) (I : Loc → AH → Prop) (hb : Ex c f body m H (fun o m' H' => match o with | .exc C => ∀ e, Hd c f e C (h₀ :: hs) m' H' (fun o m' H' => o = .next ∧ I m' H') | o => o = .next ∧ I m' H'))
    (k : ∀ m' H', I m' H' → Ex c f rest m' H' Q) : Ex c f (.Try body (h₀ :: hs) [] [] p :: rest) m H Q :=
  Ex_cons (Q₁ := fun o m' H' => o = .next ∧ I m' H') (Ex1_try O hb) (fun m' H' z => k m' H' z.2) (fun _ _ z => nomatch z.1) (fun _ _ z => nomatch z.1) (fun _ _ _ z => nomatch z.1) (fun _ _ _ z => nomatch z.1)
theorem Ex_try {body rest : List Stmt} {h₀ : ExceptHandler} {hs : List ExceptHandler} {p : Pos} {Q : Ko} (O : FrOk f) (hb : Ex c f body m H (fun o m' H' => match o with | .exc C => ∀ e, Hd c f e C (h₀ :: hs) m' H' (Then c f rest Q) | o => Then c f rest Q o m' H')) : Ex c f (.Try body (h₀ :: hs) [] [] p :: rest) m H Q :=
  Ex_seq (Ex1_try O hb)
end
end Mine
set_option maxRecDepth 100000
set_option linter.unusedVariables false
namespace Mine
open PySem
def cp : List Int → List Int → Nat
  | x :: xs, y :: ys => if x = y then cp xs ys + 1 else 0
  | _, _ => 0
theorem cp_nil (l : List Int) : cp l [] = 0 := by cases l <;> rfl
theorem cp_comm : ∀ (x y : List Int), cp x y = cp y x
  | [], y => by rw [cp_nil]; cases y <;> rfl
  | a :: x, [] => rfl
  | a :: x, b :: y => by
    simp only [cp]
    by_cases h : a = b
    · rw [if_pos h, if_pos h.symm, cp_comm x y]
    · rw [if_neg h, if_neg (fun e => h e.symm)]
theorem cp_le : ∀ (x y : List Int), cp x y ≤ x.length
  | [], y => by cases y <;> exact Nat.le_refl _
  | a :: x, [] => Nat.zero_le _
  | a :: x, b :: y => by
    simp only [cp]
    split
    · have := cp_le x y; simp; exact om11 this
    · exact Nat.zero_le _
theorem cp_le' (x y : List Int) : cp x y ≤ y.length := cp_comm x y ▸ cp_le y x
theorem cp_self : ∀ (x : List Int), cp x x = x.length
  | [] => rfl
  | a :: x => by simp [cp, cp_self x]
theorem cp_ultra : ∀ (x y z : List Int), min (cp x y) (cp y z) ≤ cp x z
  | [], y, z => by have := cp_le [] y; simp at this; exact om49 this
  | a :: x, [], z => by simp [cp]
  | a :: x, b :: y, [] => by simp [cp]
  | a :: x, b :: y, d :: z => by
    simp only [cp]
    have := cp_ultra x y z
    by_cases h1 : a = b
    · subst h1
      by_cases h2 : a = d
      · subst h2; simp only [if_true]; exact om50 this
      · simp [h2]
    · simp [h1]
theorem cp_take : ∀ (x y : List Int) (n : Nat), n ≤ cp x y → x.take n = y.take n
  | x, y, 0, _ => by simp
  | [], y, n + 1, h => by have := cp_le [] y; simp at this; exact (om51 h this).elim
  | a :: x, [], n + 1, h => by simp [cp] at h
  | a :: x, b :: y, n + 1, h => by
    simp only [cp] at h
    split at h
    · rename_i e; subst e
      rw [List.take_succ_cons, List.take_succ_cons, cp_take x y n (by exact om52 h)]
    · exact (om53 h).elim
theorem cp_ge : ∀ (x y : List Int) (n : Nat), n ≤ x.length → n ≤ y.length → x.take n = y.take n → n ≤ cp x y
  | x, y, 0, _, _, _ => Nat.zero_le _
  | [], y, n + 1, h, _, _ => by simp at h
  | a :: x, [], n + 1, _, h, _ => by simp at h
  | a :: x, b :: y, n + 1, h1, h2, e => by
    simp only [List.take_succ_cons, List.cons.injEq] at e
    simp only [List.length_cons] at h1 h2
    simp only [cp, e.1, if_true]
    have := cp_ge x y n (by exact om52 h1) (by exact om52 h2) e.2
    exact om54 this
theorem cp_snoc (p q : List Int) (v : Int) : (cp p (q ++ [v]) = q.length + 1 ∧ cp p q = q.length ∧ p[q.length]? = some v) ∨ (cp p (q ++ [v]) = cp p q ∧ ¬ (q.length + 1 ≤ cp p (q ++ [v]))) := by
  have h1 : cp p (q ++ [v]) ≤ q.length + 1 := by have := cp_le' p (q ++ [v]); simpa using this
  have hge : cp p q ≤ cp p (q ++ [v]) := cp_ge _ _ _ (cp_le _ _) (by have := cp_le' p q; simp; exact om12 this) (by
    rw [cp_take p q _ (Nat.le_refl _), List.take_append_of_le_length (cp_le' p q)])
  by_cases h : cp p (q ++ [v]) = q.length + 1
  · left
    have ht := cp_take p (q ++ [v]) _ (Nat.le_refl _)
    rw [h, List.take_of_length_le (l := q ++ [v]) (by simp)] at ht
    have hp : q.length + 1 ≤ p.length := by have := cp_le p (q ++ [v]); exact om55 h this
    refine ⟨h, ?_, ?_⟩
    · have : q.length ≤ cp p q := cp_ge _ _ _ (by exact om56 hp) (Nat.le_refl _) (by
        have e2 := congrArg (List.take q.length) ht
        rw [List.take_take, Nat.min_eq_left (by exact om57), List.take_left'] at e2
        · rw [e2, List.take_of_length_le (Nat.le_refl _)]
        · rfl)
      have := cp_le' p q; exact om58 (by assumption) this
    · have e2 : (p.take (q.length + 1))[q.length]? = (q ++ [v])[q.length]? := by rw [ht]
      rw [List.getElem?_take, if_pos (by exact om59)] at e2
      rw [e2]; simp
  · right
    refine ⟨?_, by exact om60 h1 h⟩
    have h2 : cp p (q ++ [v]) ≤ q.length := by exact om61 h1 h
    have : cp p (q ++ [v]) ≤ cp p q := cp_ge _ _ _ (cp_le _ _) h2 (by
      rw [cp_take p (q ++ [v]) _ (Nat.le_refl _), List.take_append_of_le_length h2])
    exact om58 hge this
structure Paths (kvs : List (Int × V)) (pt : Int → List Int) : Prop where
  root : ∀ v, dget kvs v = some .none → pt v = [v]
  step : ∀ v b, dget kvs v = some (.int b) → pt v = pt b ++ [v]
  key : ∀ v d, dget kvs v = some d → d = .none ∨ ∃ b d', d = .int b ∧ dget kvs b = some d'
  len : ∀ v d, dget kvs v = some d → (pt v).length ≤ 41
def ds (pt : Int → List Int) (u v : Int) : Nat := (pt u).length + (pt v).length - 2 * cp (pt u) (pt v)
theorem ds_comm (pt : Int → List Int) (u v : Int) : ds pt u v = ds pt v u := by unfold ds; rw [cp_comm]; exact om62
theorem ds_self (pt : Int → List Int) (u : Int) : ds pt u u = 0 := by unfold ds; rw [cp_self]; exact om63
theorem sub_pair {a b p q : Nat} (h : p ≤ a) (k : q ≤ b) : (a - p) + (b - q) = (a + b) - (p + q) := by exact om64 h k
theorem two_le {n a b : Nat} (h1 : n ≤ a) (h2 : n ≤ b) : 2 * n ≤ a + b := by exact om65 h1 h2
theorem two_sum {a b d e : Nat} (h : a + b ≤ d + e) : 2 * a + 2 * b ≤ 2 * d + 2 * e := by exact om66 h
theorem four_core {n0 n3 n6 n7 n8 n9 : Nat} (h8 : min n0 n7 ≤ n8) (h8' : min n6 n3 ≤ n8) (h9 : min n0 n6 ≤ n9) (h9' : min n7 n3 ≤ n9) : n0 + n3 ≤ n8 + n9 ∨ n6 + n7 ≤ n8 + n9 := by
  rcases Nat.le_total n0 n7 with a | a
  · rw [Nat.min_eq_left a] at h8
    rcases Nat.le_total n7 n3 with b | b
    · rw [Nat.min_eq_left b] at h9'
      rcases Nat.le_total n6 n3 with d | d
      · rw [Nat.min_eq_left d] at h8'
        exact .inr (Nat.add_le_add h8' h9')
      · rw [Nat.min_eq_right d] at h8'
        exact .inl (Nat.add_comm n8 n9 ▸ Nat.add_le_add (Nat.le_trans a h9') h8')
    · rw [Nat.min_eq_right b] at h9'
      exact .inl (Nat.add_le_add h8 h9')
  · rw [Nat.min_eq_right a] at h8
    rcases Nat.le_total n0 n6 with b | b
    · rw [Nat.min_eq_left b] at h9
      rcases Nat.le_total n6 n3 with d | d
      · rw [Nat.min_eq_left d] at h8'
        exact .inr (Nat.add_le_add h8' (Nat.le_trans a h9))
      · rw [Nat.min_eq_right d] at h8'
        exact .inl (Nat.add_comm n8 n9 ▸ Nat.add_le_add h9 h8')
    · rw [Nat.min_eq_right b] at h9
      exact .inr (Nat.add_comm n8 n9 ▸ Nat.add_le_add h9 h8)
theorem four_swap (a b d e : Nat) : a + b + (d + e) = a + e + (b + d) := by exact om67
theorem ds_four (pt : Int → List Int) (x y z w : Int) : ds pt x y + ds pt z w ≤ max (ds pt x z + ds pt y w) (ds pt x w + ds pt y z) := by
  unfold ds
  have u1 := cp_ultra (pt x) (pt z) (pt y); rw [cp_comm (pt z) (pt y)] at u1
  have u2 := cp_ultra (pt x) (pt w) (pt y); rw [cp_comm (pt w) (pt y)] at u2
  have u3 := cp_ultra (pt z) (pt x) (pt w); rw [cp_comm (pt z) (pt x)] at u3
  have u4 := cp_ultra (pt z) (pt y) (pt w); rw [cp_comm (pt z) (pt y)] at u4
  rw [sub_pair (two_le (cp_le (pt x) (pt y)) (cp_le' (pt x) (pt y))) (two_le (cp_le (pt z) (pt w)) (cp_le' (pt z) (pt w)))]
  rcases four_core u1 u2 u3 u4 with h | h
  · refine Nat.le_trans ?_ (Nat.le_max_left _ _)
    rw [sub_pair (two_le (cp_le (pt x) (pt z)) (cp_le' (pt x) (pt z))) (two_le (cp_le (pt y) (pt w)) (cp_le' (pt y) (pt w))), Nat.add_add_add_comm]
    exact Nat.sub_le_sub_left (two_sum h) _
  · refine Nat.le_trans ?_ (Nat.le_max_right _ _)
    rw [sub_pair (two_le (cp_le (pt x) (pt w)) (cp_le' (pt x) (pt w))) (two_le (cp_le (pt y) (pt z)) (cp_le' (pt y) (pt z))), four_swap]
    exact Nat.sub_le_sub_left (two_sum h) _
section
variable {kvs : List (Int × V)} {pt : Int → List Int}
def Key (kvs : List (Int × V)) (v : Int) : Prop := ∃ d, dget kvs v = some d
def Same (pt : Int → List Int) (u v : Int) : Prop := 1 ≤ cp (pt u) (pt v)
theorem Same.symm {u v : Int} (h : Same pt u v) : Same pt v u := by unfold Same at *; rwa [cp_comm]
theorem Same.trans {u v w : Int} (h : Same pt u v) (k : Same pt v w) : Same pt u w := by unfold Same at *; have := cp_ultra (pt u) (pt v) (pt w); exact om68 h k this
theorem Paths.ne (P : Paths kvs pt) {v : Int} (h : Key kvs v) : 1 ≤ (pt v).length := by
  obtain ⟨d, h⟩ := h
  rcases P.key v d h with rfl | ⟨b, d', rfl, _⟩
  · rw [P.root v h]; simp
  · rw [P.step v b h]; simp
theorem Paths.self (P : Paths kvs pt) {v : Int} (h : Key kvs v) : Same pt v v := by unfold Same; rw [cp_self]; exact P.ne h
theorem Paths.last (P : Paths kvs pt) {v : Int} (h : Key kvs v) : (pt v)[(pt v).length - 1]? = some v := by
  obtain ⟨d, h⟩ := h
  rcases P.key v d h with rfl | ⟨b, d', rfl, _⟩
  · rw [P.root v h]; rfl
  · rw [P.step v b h]; simp
theorem Paths.inj (P : Paths kvs pt) {u v : Int} (hu : Key kvs u) (hv : Key kvs v) (e : pt u = pt v) : u = v := by
  have h1 := P.last hu
  have h2 := P.last hv
  rw [e, h2] at h1; injection h1 with h1; exact h1.symm
def Nb (kvs : List (Int × V)) (v w : Int) : Prop := dget kvs v = some (.int w) ∨ dget kvs w = some (.int v)
theorem Paths.up (P : Paths kvs pt) {u v b : Int} (h : dget kvs v = some (.int b)) : (ds pt u v + 1 = ds pt u b ∧ cp (pt u) (pt v) = (pt v).length) ∨ (ds pt u v = ds pt u b + 1 ∧ cp (pt u) (pt v) = cp (pt u) (pt b)) := by
  have e := P.step v b h
  have l1 := cp_le (pt u) (pt b)
  have l2 := cp_le' (pt u) (pt b)
  have l3 := cp_le (pt u) (pt v)
  have el : (pt v).length = (pt b).length + 1 := by rw [e]; simp
  rcases cp_snoc (pt u) (pt b) v with ⟨q1, q2, _⟩ | ⟨q1, q2⟩
  · left
    rw [← e] at q1
    unfold ds; exact om69 l3 el q1 q2
  · right
    rw [← e] at q1
    unfold ds; exact om70 l1 l2 el q1
theorem Paths.near (P : Paths kvs pt) {u v w : Int} (h : Nb kvs v w) : ds pt u v + 1 = ds pt u w ∨ ds pt u v = ds pt u w + 1 := by
  rcases h with h | h
  · rcases P.up (u := u) h with ⟨q, _⟩ | ⟨q, _⟩ <;> omega
  · rcases P.up (u := u) h with ⟨q, _⟩ | ⟨q, _⟩ <;> omega
theorem Paths.nbKey (P : Paths kvs pt) {v w : Int} (h : Nb kvs v w) : Key kvs v ∧ Key kvs w := by
  rcases h with h | h
  · refine ⟨⟨_, h⟩, ?_⟩
    rcases P.key _ _ h with e | ⟨b, d', e, k⟩
    · cases e
    · cases e; exact ⟨d', k⟩
  · refine ⟨?_, ⟨_, h⟩⟩
    rcases P.key _ _ h with e | ⟨b, d', e, k⟩
    · cases e
    · cases e; exact ⟨d', k⟩
theorem Paths.nbSame (P : Paths kvs pt) {v w : Int} (h : Nb kvs v w) : Same pt v w := by
  have key : ∀ {a b : Int}, dget kvs a = some (.int b) → Same pt a b := fun {a b} h => by
    have e := P.step a b h
    have kb : Key kvs b := by
      rcases P.key _ _ h with e | ⟨b, d', e, k⟩
      · cases e
      · cases e; exact ⟨d', k⟩
    have := P.ne kb
    refine cp_ge _ _ 1 (by rw [e]; simp) this ?_
    rw [e, List.take_append_of_le_length this]
  rcases h with h | h
  · exact key h
  · exact (key h).symm
theorem Paths.on (P : Paths kvs pt) : ∀ (n : Nat) {v : Int}, (pt v).length = n → Key kvs v → ∀ i x, (pt v)[i]? = some x → Key kvs x ∧ pt x = (pt v).take (i + 1) := by
  intro n
  induction n with
  | zero => intro v hn hv; have := P.ne hv; exact (om71 hn this).elim
  | succ n ih =>
    intro v hn hv i x hx
    obtain ⟨d, h⟩ := id hv
    rcases P.key v d h with rfl | ⟨b, d', rfl, hb⟩
    · have e := P.root v h
      rw [e] at hx hn ⊢
      cases i with
      | zero => simp at hx; subst hx; exact ⟨hv, by rw [e]; rfl⟩
      | succ i => simp at hx
    · have e := P.step v b h
      have hbl : (pt b).length = n := by rw [e] at hn; simpa using hn
      by_cases q : i < (pt b).length
      · rw [e, List.getElem?_append_left q] at hx
        obtain ⟨k1, k2⟩ := ih hbl ⟨d', hb⟩ i x hx
        exact ⟨k1, by rw [k2, e, List.take_append_of_le_length (by exact om72 q)]⟩
      · have hi : i = (pt b).length := by
          have := (List.getElem?_eq_some_iff.mp hx).1
          rw [e] at this; simp at this; exact om73 q this
        subst hi
        rw [e] at hx
        simp at hx; subst hx
        exact ⟨hv, by rw [List.take_of_length_le (by rw [e]; simp)]⟩
theorem Paths.closer (P : Paths kvs pt) {u v : Int} (hu : Key kvs u) (hv : Key kvs v) (hs : Same pt u v) (hne : u ≠ v) : ∃ w, Nb kvs v w ∧ ds pt u w + 1 = ds pt u v := by
  by_cases full : cp (pt u) (pt v) = (pt v).length
  · have l1 := cp_le (pt u) (pt v)
    have hlt : (pt v).length < (pt u).length := by
      apply Classical.byContradiction; intro hn
      have e : pt u = pt v := by
        have := cp_take (pt u) (pt v) _ (Nat.le_refl _)
        rw [full, List.take_of_length_le (by exact om46 hn), List.take_of_length_le (Nat.le_refl _)] at this
        exact this
      exact hne (P.inj hu hv e)
    obtain ⟨x, hx⟩ : ∃ x, (pt u)[(pt v).length]? = some x := ⟨_, List.getElem?_eq_getElem hlt⟩
    obtain ⟨kx, px⟩ := P.on _ rfl hu _ x hx
    have pv : pt v = (pt u).take (pt v).length := by
      have := cp_take (pt u) (pt v) _ (Nat.le_refl _)
      rw [full, List.take_of_length_le (Nat.le_refl (pt v).length)] at this
      exact this.symm
    have pxv : pt x = pt v ++ [x] := by
      rw [px, List.take_add_one, hx, ← pv]; rfl
    have xl : (pt x).length = (pt v).length + 1 := by rw [pxv]; simp
    obtain ⟨dx, hdx⟩ := id kx
    rcases P.key x dx hdx with rfl | ⟨b, d', rfl, hb⟩
    · have h2 := congrArg List.length (P.root x hdx)
      have := P.ne hv
      simp at h2; exact (om74 xl this h2).elim
    · have e := P.step x b hdx
      rw [pxv] at e
      have ebv : pt v = pt b := List.append_cancel_right e
      have : v = b := P.inj hv ⟨d', hb⟩ ebv
      subst this
      refine ⟨x, .inr hdx, ?_⟩
      rcases P.up (u := u) hdx with ⟨q, _⟩ | ⟨_, q2⟩
      · exact q
      · have : (pt x).length ≤ cp (pt u) (pt x) := cp_ge _ _ _ (by exact om75 hlt xl) (Nat.le_refl _) (by rw [List.take_of_length_le (l := pt x) (Nat.le_refl _), xl]; exact px.symm)
        exact om76 full xl q2 this
  · obtain ⟨d, h⟩ := id hv
    rcases P.key v d h with rfl | ⟨b, d', rfl, hb⟩
    · have e := P.root v h
      have : cp (pt u) (pt v) ≤ 1 := by have := cp_le' (pt u) (pt v); rw [e] at this ⊢; simpa using this
      unfold Same at hs
      rw [e] at full hs this; simp at full; exact (om77 hs this full).elim
    · refine ⟨b, .inl h, ?_⟩
      rcases P.up (u := u) h with ⟨_, q⟩ | ⟨q, _⟩
      · exact (full q).elim
      · exact om78 q
end
end Mine
set_option maxRecDepth 100000
set_option linter.unusedVariables false
namespace Mine
open PySem PyProof.Rows PySem.Builtin PySem.W PySem.Calls
section
variable {prog : Program} {w : World} {A : Around} {E : Value → Shared → Prop} {s : Shared} {T : String} {r d : Addr} {n : Nat} {P : Nat → Value → Prop} {OK : Heap → Prop}
theorem collect_src {Q : List Value → Shared → Prop} (K : KdlSrc prog w T r d n P OK) (hh : A.handled = none) (hok : OK s.heap) (hn : n ≤ sizeLine) (h : ∀ h' tk acc, Grow s.heap h' → ItemsOf P acc n → Q acc.toList { s with heap := h', toks := tk }) :
    wpAny (model prog w) A (collect (.ref r)) Q E s := by
  unfold collect
  refine wpAny_bind (wpAny_runValue (codeAny_builtin entry_proto_collect' ?_))
  show wpAny _ _ (do again (.builtin "list.__iadd__" ⟨[← newList [], .ref r], []⟩)) _ _ s
  refine wpAny_bind (wpAny_newList (wpAny_pure ⟨Code.quiet_builtin _ (by decide +kernel), codeAny_builtin entry_list_iadd' ?_⟩))
  obtain ⟨hr, hd⟩ := K.there _ hok
  have gp : Grow s.heap (s.heap.push { cls := .type "list", data := .seq #[] }) := Grow.push _ _
  have eA : A.under (Code.builtin "list.__iadd__" { pos := [Value.ref s.heap.objs.size, Value.ref r] }) = A.in1 := by first | rfl | kernel_rfl
  rw [eA]
  refine kdl_extend (R := fun r s' => match r with
    | .ok (.ret v) => wpAny (model prog w) A (match v with
      | .ref a => do
        let o ← load a
        match o.data with
        | .seq xs _ => pure xs.toList
        | _ => unsupported "internal:collect"
      | _ => unsupported "internal:collect") Q E s'
    | .ok _ => False
    | .error e => E e s') (A := A) (s := { s with heap := s.heap.push { cls := .type "list", data := .seq #[] } }) K hh (K.keep _ _ hok fun b _ o e => gp b o e) s.heap.objs.size (Nat.ne_of_gt hr) (Nat.ne_of_gt hd) (.ref s.heap.objs.size) 0 (Heap.get?_push_size _ rfl) (fun h' tk acc c' hk hS hi => ?_) hn
  show wpAny (model prog w) A (do
      let o ← load s.heap.objs.size
      match o.data with
      | .seq xs _ => pure xs.toList
      | _ => unsupported "internal:collect") Q E { s with heap := h', toks := tk }
  refine wpAny_bind (wpAny_load hS ?_)
  exact wpAny_pure (h h' tk acc (fun b o e => hk b o (fun z => by rw [z, size_none] at e; cases e) (gp b o e)) hi)
theorem sorted_src {ns : List Int} {Q : Value → Shared → Prop} (K : KdlSrc prog w T r d n P OK) (hh : A.handled = none) (hok : OK s.heap) (hI : ∀ acc : Array Value, ItemsOf P acc n → IntsAre acc.toList ns) (h64 : n < 64)
    (h : ∀ h' tk a o (out : List Value) (ns' : List Int), Grow s.heap h' → s.heap.get? a = none → (∀ b o, s.heap.get? b = some o → b < a) → h'.get? a = some o → PlainL h' a out.toArray → IntsAre out ns' → ns'.Perm ns → ns'.Pairwise (· ≤ ·) → Q (.ref a) { s with heap := h', toks := tk }) :
    wpAny (model prog w) A (call (.builtin "sorted") [.ref r]) Q E s := by
  refine Calls.call_function_entry kind_sorted plain_sorted entry_sorted (args_sorted1 _) ?_
  unfold Builtin.«sorted»
  refine wpAny_bind (m := checkCount "sorted" 1 1 _) (wpAny_pure ?_)
  refine wpAny_bind (collect_src K hh hok (Nat.le_trans (Nat.le_of_lt h64) (by decide)) fun h₁ tk acc g₁ hi => ?_)
  have hl : acc.toList.length = n := by simpa using hi.1
  refine wpAny_bind (wpAny_newList ?_ (hsz := by rw [hl]; exact Nat.le_trans (Nat.le_of_lt h64) (by decide)))
  have hoL : (h₁.push (seqObj "list" acc.toList.toArray 0)).get? h₁.objs.size = some (seqObj "list" acc.toList.toArray 0) := Heap.get?_push_size _ rfl
  refine wpAny_bind (wpAny_holding (wpAny_call_entry slot_list_sort ⟨_, hoL, rfl⟩ entry_list_sort (list_sort_tree hoL (hI acc hi) (by exact om79 h64 hl) fun out ns' a1 a2 a3 => ⟨_, rfl, ?_⟩) (args_list_sort _)))
  obtain ⟨e, he⟩ := sortedHeap_at (out := out) hoL
  have hnone : s.heap.get? h₁.objs.size = none := by
    cases q : s.heap.get? h₁.objs.size with
    | none => rfl
    | some o => exact absurd (Heap.lt_size (g₁ _ _ q)) (Nat.lt_irrefl _)
  refine wpAny_pure ⟨_, rfl, h _ _ h₁.objs.size _ out.toList ns' (fun b o eb => ?_) hnone (fun b o eb => Heap.lt_size (g₁ _ _ eb)) he ⟨_, e, he, rfl, rfl, by simp⟩ a1 a2 a3⟩
  have hb := g₁ b o eb
  have hlt := Heap.lt_size hb
  rw [sortedHeap_old (Nat.ne_of_lt hlt) (by rw [Heap.size_push]; exact Nat.lt_succ_of_lt hlt)]
  exact Heap.get?_push_of_some _ hb
end
end Mine
set_option maxRecDepth 100000
set_option linter.unusedVariables false
namespace Mine
open PySem PyProof.Rows PySem.Builtin PySem.W PySem.Calls
theorem ints_of_isAll {h : Heap} : ∀ {l : List Int} {vs : List Value}, IsAll h (l.map V.int) vs → IntsAre vs l
  | [], vs, i => by simp only [List.map_nil, IsAll] at i; subst i; exact .nil
  | a :: l, vs, i => by
    simp only [List.map_cons, IsAll] at i
    refine e2a3 i fun v r rq144 j k => ?_; clear i; obtain rfl := rq144
    obtain ⟨t, rfl⟩ := is_int j
    exact .cons _ _ (ints_of_isAll k)
theorem isAll_of_ints {h : Heap} : ∀ {l : List Int} {vs : List Value}, IntsAre vs l → IsAll h (l.map V.int) vs
  | _, _, .nil => isAll_nil _
  | _, _, .cons _ _ k => isAll_cons mk_int (isAll_of_ints k)
section
variable {c : Cx} {f : Fx} {m : Loc} {H : AH} {X : Value → AH → Prop} {Q : V → AH → Prop}
theorem base_big {s : Shared} (K : CxOk c) (S : St c f m H s) {a : Addr} (h : ∀ b o, s.heap.get? b = some o → b < a) : cStatics < a := by
  refine e1a2 (K.lim) fun mc rq145 _ => ?_; obtain ⟨o, _, _, g, _⟩ := rq145
  exact h _ _ (S.base _ _ g)
theorem O_sorted {a : Addr} {kvs : List (Int × V)} (K : CxOk c) (hh : f.A.handled = none) (h : DictIs H a kvs) (h64 : kvs.length < 64) (q : ∀ b o (srt : List Int), H b = none → srt.Perm (kvs.map (·.1)) → srt.Pairwise (· ≤ ·) → Q (.ref b) (H.set b ⟨o, .list (srt.map V.int)⟩)) : OpN c f (fun vs => call (.builtin "sorted") vs) [.ref a] m H Q X := .mk fun s vs S ia => by
  simp only [IsAll] at ia; refine e2a3 ia fun v r rq146 i rq147 => ?_; clear ia; obtain rfl := rq146; obtain rfl := rq147
  obtain rfl := is_raw i
  have ns : (a == sysModules) = false := let ⟨o, e⟩ := h; notSys S e
  obtain ⟨o, eo⟩ := h
  refine e3a8 (S.rep.dict eo) fun kv es ep g c1 c2 c3 c4 c5 p ia => ?_
  have hm : s.heap.DictAt (intKind c.prog c.w) a kv ep := ⟨o, es, g, c1, c2, c3, c4, c5⟩
  have el : kv.length = kvs.length := by have := congrArg List.length p; simpa using this
  refine sorted_src (ns := kvs.map (·.1)) (kdl_dict (knd := intKind c.prog c.w) (kvs := kv) (ep := ep) ns) hh hm (fun acc hi => ?_) (by exact om79 h64 el) fun h' tk b ob out srt gr hn hb gb pl hI hp hs => ?_
  · rw [← p]
    have key : ∀ (l : List Value) (ks : List Int), l.length = ks.length → (∀ (j : Nat) v, l[j]? = some v → ∃ k, ks[j]? = some k ∧ ∃ t, v = Value.int k t) → IntsAre l ks := by
      intro l
      induction l with
      | nil => intro ks hl _; cases ks with
        | nil => exact .nil
        | cons _ _ => simp at hl
      | cons v l ih => intro ks hl hk; cases ks with
        | nil => simp at hl
        | cons k ks =>
          refine e1a2 (hk 0 v rfl) fun k' e' rq148 => ?_; obtain ⟨t, rfl⟩ := rq148
          simp at e'; subst e'
          exact .cons _ _ (ih ks (by simpa using hl) fun j v hj => by simpa using hk (j + 1) v (by simpa using hj))
    refine key _ _ (by simp [hi.1]) fun j v hj => ?_
    refine e2a2 (hi.2 j v (by simpa using hj)) fun k x e1 e3 => ?_
    refine ⟨k, by rw [List.getElem?_map, e1]; rfl, ?_⟩
    cases v with
    | int k' t => simp [intKind, Value.isInt] at e3; exact ⟨t, by rw [e3]⟩
    | _ => simp [intKind, Value.isInt] at e3
  · have hHb : H b = none := by
      cases e : H b with
      | none => rfl
      | some x => refine e1a2 ((S.rep _ _ e).obj) fun o' e' _ => ?_; rw [hn] at e'; cases e'
    exact ⟨gr.tk, .ref b, _, mk_raw, S.alloc (s' := { s with heap := h', toks := tk }) (x := ⟨ob, .list (srt.map V.int)⟩) gr rfl rfl hn (base_big K S hb) ⟨gb, out, pl, isAll_of_ints hI⟩, q _ _ _ hHb hp hs⟩
theorem getD_of {l : List Int} {i : Nat} (h : i < l.length) : l.getD i 0 ∈ l := by rw [List.getD_eq_getElem?_getD, List.getElem?_eq_getElem h]; exact List.getElem_mem h
theorem B_inL {a : Addr} {l : List Int} {k : Int} (h : ListAt H a (l.map V.int)) : B2 c f H (compareOp .In) (.int k) (.ref a) (.bool (decide (k ∈ l))) := .mk fun m s v₁ v₂ S i₁ i₂ => by
  obtain ⟨t, rfl⟩ := is_int i₁; obtain rfl := is_raw i₂
  refine e1a2 (S.rep.plain h) fun us rq149 ja => ?_; obtain ⟨o, n, g, cl, dn, dt⟩ := rq149
  have hi := ints_of_isAll ja
  refine SeqInW.in_listW (items := us.toArray) (isInt k) (fun y hy => eq_isInt k t hi y (by simpa using hy)) ⟨o, g, cl, n, dt⟩ ⟨Grow.refl _, rfl, rfl, ?_⟩
  have : us.toArray.any (isInt k) = decide (k ∈ l) := by
    have e1 : us.toArray.any (isInt k) = us.any (isInt k) := by simp
    rw [e1, any_isInt k hi, Bool.eq_iff_iff, List.any_eq_true, decide_eq_true_iff]
    exact ⟨fun ⟨x, hx, e⟩ => by rw [beq_iff_eq] at e; exact e ▸ hx, fun hx => ⟨k, hx, beq_self_eq_true k⟩⟩
  rw [this]; exact mk_raw
theorem O_index {a : Addr} {l : List Int} {k : Int} {j : Nat} (h : ListAt H a (l.map V.int)) (hj : l[j]? = some k) (hno : ∀ i, i < j → l[i]? ≠ some k) (hsz : l.length ≤ sizeLine) : BN c f H (fun vs => call (.builtin "list.index") vs) [.ref a, .int k] (.int j) := .mk fun m s vs S ia => by
  simp only [IsAll] at ia; refine e2a3 ia fun v r rq150 i rq151 => ?_; clear ia; obtain rfl := rq150; refine e2a3 rq151 fun v' r' rq152 i' rq153 => ?_; clear rq151; obtain rfl := rq152; obtain rfl := rq153
  obtain rfl := is_raw i; obtain ⟨t, rfl⟩ := is_int i'
  refine e1a2 (S.rep.plain h) fun us rq154 ja => ?_; obtain ⟨⟨ocl, odd, od, osl⟩, n, g, cl, dn, dt⟩ := rq154
  have hi := ints_of_isAll ja
  have el := intsAre_length hi
  have hjl := (List.getElem?_eq_some_iff.mp hj).1
  dsimp only at cl dt
  subst cl; subst dt
  have at' : ∀ (q : Nat) (hq : q < us.toArray.size), isInt k us.toArray[q] = (l[q]? == some k) := fun q hq => by
    have hq' : q < l.length := by rw [← el]; simpa using hq
    obtain ⟨t', e⟩ := intsAre_get hi (List.getElem?_eq_getElem hq')
    have e2 : us.toArray[q] = .int l[q] t' := by
      have : us[q]? = some us.toArray[q] := by rw [List.getElem?_eq_getElem (by simpa using hq)]; simp
      rw [this] at e; injection e
    rw [e2, List.getElem?_eq_getElem hq']; simp [isInt]
  refine call_meets PySem.F.slot_list_index ⟨_, g, rfl⟩ PySem.F.entry_list_index (PySem.F.args_list_index_2 _ _) (SeqAt.list_indexAt a us.toArray n odd osl (.int k t) (isInt k) j (by rw [List.size_toArray, el]; exact hjl) (by have : sizeLine = 16777216 := rfl; omega) ?_ ?_) ⟨g, fun y hy => (eq_isInt k t hi y (by simpa using hy)).at _ _, Grow.refl _, rfl, rfl, mk_int⟩
  · rw [at', hj]; simp
  · intro q hq hlt
    rw [at']
    have := hno q hlt
    simpa using this
theorem Ev_dict1 {ke ve : Expr} {p : Pos} {k : Int} {d : V} (K : CxOk c) (hk : ∀ H', Ext H H' → Pe c f ke m H' (.int k)) (hv : ∀ H', Ext H H' → Pe c f ve m H' d) (q : ∀ a o, H a = none → Q (.ref a) (H.set a ⟨o, .dict [(k, d)]⟩))
    (hshape : (evalEachOpt [some ke] f.env).zip ((evalEach [ve] f.env).map fun v => do let x ← v; standAt p; pure x) = [(eval ke f.env, do let x ← eval ve f.env; standAt p; pure x)].map fun p => (some p.1, p.2) := by rfl) : Ev c f (.Dict [some ke] [ve] p) m H Q X := .mk fun s S => by
  have g : Grow s.heap (s.heap.push { cls := .type "dict", data := .dict #[] }) := Grow.push _ _
  have hx : (s.heap.push { cls := .type "dict", data := .dict #[] }).get? s.heap.objs.size = some { cls := .type "dict", data := .dict #[] } := Heap.get?_push_size _ rfl
  have S0 := S.alloc (s' := { s with heap := s.heap.push { cls := .type "dict", data := .dict #[] } }) (x := ⟨_, .dict []⟩) g rfl rfl (size_none _) (S.sizeBig K) ⟨hx, [], ⟨_, _, _, hx, ⟨rfl, rfl, rfl⟩, rfl, (by intro e he; simp at he), .nil, List.nodup_nil⟩, rfl, isAll_nil _⟩
  have hE : Ext H (H.set s.heap.objs.size ⟨{ cls := .type "dict", data := .dict #[] }, .dict []⟩) := Ext.set (Ext.refl _) S.sizeH
  refine wpAny_Dict_pairs (knd := intKind c.prog c.w) hshape (by simp) (by simp) ?_
  refine evalPairs_cons (wpAny_mono (hk _ hE _ S0) (fun kv s₁ z => ?_) fun _ _ ⟨_, _, _, _, _, _, z⟩ => z.elim)
  obtain ⟨t₁, d₁, H₁, i₁, S₁, rfl, rfl⟩ := z
  obtain ⟨u, rfl⟩ := is_int i₁
  refine wpAny_bind (wpAny_mono (hv _ hE _ S₁) (fun vv s₂ z => ?_) fun _ _ ⟨_, _, _, _, _, _, z⟩ => z.elim)
  obtain ⟨t₂, d₂, H₂, i₂, S₂, rfl, rfl⟩ := z
  refine wpAny_bind (wpAny_standAt (wpAny_pure (evalPairs_nil ?_)))
  have hd : DictIs (H.set s.heap.objs.size ⟨{ cls := .type "dict", data := .dict #[] }, .dict []⟩) s.heap.objs.size [] := DictIs.same _ _ _ _
  refine e1a3 (S₂.rep.dictOf hd) fun kv dd e ia => ?_
  have hkv : kv = [] := by simpa using e
  subst hkv
  refine ⟨[(k, vv)], ?_, dd, fun h' dd' sb => ?_⟩
  · simp [Carries, intKind, Value.isInt]
  · have nt : Tk s₂.heap h' := fun b o₁ _ _ e cl dt => ⟨o₁, by
      by_cases z : b = s.heap.objs.size
      · subst z; refine e3a3 dd fun o' _ _ g' ex _ => ?_; clear dd; rw [g'] at e; cases e; rw [ex.1] at cl; exact absurd cl (by decide)
      · exact sb.extBut b o₁ z e, cl, dt⟩
    have dd2 : h'.DictOf (intKind c.prog c.w) s.heap.objs.size [(k, vv)] := by simpa [merged, stored] using dd'
    obtain ⟨o0, e0⟩ := hd
    refine e3a2 (id dd2) fun o es ep gg r => ?_
    have := S₂.upd (s' := { s₂ with heap := h', toks := s₂.toks + 1 }) (y := ⟨o, .dict [(k, d₂)]⟩) e0 sb.extBut rfl rfl ⟨gg, _, dd2, rfl, isAll_one (i₂.tk nt)⟩
    rw [AH.set_set] at this
    exact ⟨g.tk.trans (t₁.trans (t₂.trans this.2)), .ref _, _, mk_raw, this.1, q _ _ S.sizeH⟩
theorem CompOk_filter {scope : Scope} {cl : List (Str × Addr)} {x : Str} {elt t : Expr} {ds : List V} {tr : List Addr} {H₁ : AH} (g : Nat → V) (P : Nat → Bool) (hsz : ds.length ≤ sizeLine)
    (ht : ∀ (i : Nat) d C hE, ds[i]? = some d → Tp c (compF f scope cl C hE H₁) t (compM m cl x d) H₁ (P i = true))
    (he : ∀ (i : Nat) d C hE, ds[i]? = some d → P i = true → Pe c (compF f scope cl C hE H₁) elt (compM m cl x d) H₁ (g i))
    (fin : ∀ a o, H₁ a = none → Q (.ref a) (H₁.set a ⟨o, .list (((List.range ds.length).filter P).map g)⟩)) :
    CompOk c f m scope cl x elt [t] Q ds tr H₁ := by
  refine ⟨hsz, fun i acc H' => H' = H₁ ∧ acc = ((List.range i).filter P).map g, ⟨rfl, by simp⟩, ?_, ?_⟩
  · rintro i d acc H' C hE hd ⟨rfl, rfl⟩ htr
    refine Ts.mono (ht i d C hE hd) (fun b H'' ⟨e, q⟩ => ?_) fun _ _ z => z
    subst e
    refine ⟨fun hb => (he i d C hE hd (q.mp hb)).ev ⟨⟨rfl, ?_⟩, htr⟩, fun hb => ⟨⟨rfl, ?_⟩, htr⟩⟩
    · rw [List.range_succ, List.filter_append, List.map_append]
      simp [q.mp hb]
    · have hp : P i = false := by
        cases hh : P i with
        | false => rfl
        | true => rw [q.mpr hh] at hb; cases hb
      rw [List.range_succ, List.filter_append, List.map_append]
      simp [hp]
  · rintro acc H' a o ⟨rfl, rfl⟩ _ ha
    exact fin a o ha
theorem Pe_maxV {x : Str} {o : Expr} {p₁ p p2 ap : Pos} {a : Addr} {kvs : List (Int × V)} {l : List Int} {M : Int} (K : CxOk c) (g : GN c x (.builtin "max")) (hh : f.A.handled = none) (ho : Pe c f o m H (.ref a)) (hd : DictIs H a kvs) (hl : kvs.map (·.2) = l.map V.int) (h1 : M ∈ l) (h2 : ∀ y ∈ l, y ≤ M)
    (hg : f.env.globals = mainGlobals := by rfl) (hb : f.env.builtins = builtinsNs := by rfl) (hk : f.env.scope.kind = .function := by rfl) (hn : f.env.kindOf x = some .globalImplicit := by rfl) (hdb : (x == ("__debug__" : Str)) = false := by decide) (hbase : attributeBase o (Str.ofString "values") f.env (eval o f.env) = eval o f.env := by rfl) (hline : (ap.endLine == p2.line) = true := by rfl) :
    Pe c f (.Call (.Name x p₁) [.Call (.Attribute o (Str.ofString "values") ap) [] [] p2] [] p) m H (.int M) := .mk fun s S => by
  refine Call_ (wpAny_mono ((Pe_glob (p := p₁) (m := m) (H := H) K g hg hb hk hn hdb) s S) (fun v s₁ z => ?_) fun _ _ x => x)
  obtain ⟨t₁, d, H₁, i₁, S₁, rfl, rfl⟩ := z
  obtain rfl := is_raw i₁
  refine callWith_builtin1 (wpAny_items_cons ?_) rfl rfl
  refine wpAny_Call_method_lateS hbase rfl hline (wpAny_mono (ho s₁ S₁) (fun v s₂ z => ?_) fun _ _ x => x)
  obtain ⟨t₂, d, H₂, i₂, S₂, rfl, rfl⟩ := z
  obtain rfl := is_raw i₂
  have ns : (a == sysModules) = false := let ⟨o, e⟩ := hd; notSys S₂ e
  obtain ⟨hT, hdn⟩ := has_dictIs hd f m s₂ (.ref a) S₂ mk_raw
  obtain ⟨o', eo⟩ := hd
  refine e3a8 (S₂.rep.dict eo) fun kv es ep gg c1 c2 c3 c4 c5 pk ia => ?_
  refine ⟨"dict", "dict.values", PySem.F.plainAttrs_dict, PySem.F.slot_dict_values, PySem.F.type_dict_values, hT, hdn, callWith_method0 ?_⟩
  have dd : s₂.heap.DictOf (intKind c.prog c.w) a kv := ⟨o', es, ep, gg, c1, c2, c3, c4, c5⟩
  refine call_meetsIn PySem.F.slot_dict_values hT PySem.F.entry_dict_values (PySem.F.args_dict_values_1 _) (meets_dict_values (intKind c.prog c.w) a ns) ⟨⟨kv, dd⟩, ?_⟩
  refine wpAny_items_nil ?_
  have hx : (s₂.heap.push { cls := .type "dict_values", data := .fields #[.ref a] }).get? s₂.heap.objs.size = some { cls := .type "dict_values", data := .fields #[.ref a] } := Heap.get?_push_size _ rfl
  have gp : Grow s₂.heap (s₂.heap.push { cls := .type "dict_values", data := .fields #[.ref a] }) := Grow.push _ _
  have hz : 0 < l.length := List.length_pos_iff.mpr (fun z => by rw [z] at h1; cases h1)
  rw [hl] at ia
  have hi := ints_of_isAll ia
  have el := intsAre_length hi
  rw [List.length_map] at el
  have hval : ∀ (i : Nat) (v : Value), (∃ k, kv[i]? = some (k, v)) → ∃ t, v = Value.int (l.getD i 0) t := fun i v ⟨k, e⟩ => by
    have hil : i < l.length := by rw [← el]; exact (List.getElem?_eq_some_iff.mp e).1
    obtain ⟨t, ht⟩ := intsAre_get hi (List.getElem?_eq_getElem hil)
    rw [List.getElem?_map, e] at ht
    refine ⟨t, ?_⟩
    rw [List.getD_eq_getElem?_getD, List.getElem?_eq_getElem hil]
    simpa using ht
  refine e2a3 ((kdl_values (prog := c.prog) (w := c.w) (knd := intKind c.prog c.w) (r := s₂.heap.objs.size) (d := a) (kvs := kv) (ep := ep)).iter f.A.in1 { s₂ with heap := s₂.heap.push { cls := .type "dict_values", data := .fields #[.ref a] } } hh ⟨⟨_, hx, rfl, rfl⟩, ⟨o', es, gp _ _ gg, c1, c2, c3, c4, c5⟩⟩) fun oI St' hiter Wk st => ?_
  refine call_max_walk (hiter _ _ ⟨_, _, _, _, _, _, _, rfl, Wk, st, fun b hb => ?_, by exact om80 hz el, CmpOf.ints_gt (fun i => l.getD i 0) hval, fun v h' tk hP hk => ?_⟩)
  · show b < ((s₂.heap.push _).push _).objs.size
    rw [Heap.size_push, Heap.size_push]
    rcases List.mem_cons.mp hb with rfl | hb
    · show (s₂.heap.push { cls := .type "dict_values", data := .fields #[.ref a] }).objs.size < s₂.heap.objs.size + 1 + 1
      rw [Heap.size_push]; exact Nat.lt_succ_self _
    · rw [List.mem_singleton] at hb; subst hb
      exact Nat.lt_succ_of_lt (Nat.lt_succ_of_lt (Heap.lt_size gg))
  · obtain ⟨t, rfl⟩ := hval _ v hP
    obtain ⟨q1, q2⟩ := argBest_gt (fun i => l.getD i 0) (kv.length - 1)
    have hM : l.getD (argBest (fun i j => decide (l.getD i 0 > l.getD j 0)) (kv.length - 1)) 0 = M := by
      apply Int.le_antisymm
      · exact h2 _ (getD_of (by exact om81 hz el q1))
      · obtain ⟨j, hj, e1⟩ := List.getElem_of_mem h1
        have := q2 j (by exact om82 el hj)
        rw [List.getD_eq_getElem?_getD, List.getElem?_eq_getElem hj] at this
        simp only [Option.getD_some] at this
        rw [e1] at this; exact this
    have gr : Grow s₂.heap h' := fun b o e => by
      refine hk b o (fun hm => ?_) (Heap.get?_push_of_some _ (gp b o e))
      have := Heap.lt_size e
      rw [List.mem_singleton] at hm
      subst hm
      have h3 : s₂.heap.objs.size + 1 < s₂.heap.objs.size := by
        have := Heap.lt_size e
        rw [Heap.size_push] at this; exact this
      exact Nat.lt_irrefl _ (Nat.lt_of_succ_lt h3)
    refine ⟨t₁.trans (t₂.trans gr.tk), .int M, _, ?_, S₂.grow (s' := { s₂ with heap := h', toks := tk }) gr rfl rfl, rfl, rfl⟩
    rw [hM]; exact mk_int
end
end Mine
set_option maxRecDepth 100000
set_option linter.unusedVariables false
namespace Mine
open PySem
theorem centre {pt : Int → List Int} {T : Int → Prop} {u a b : Int} (hu : T u) (ta : T a) (tb : T b) (ha : ∀ x, T x → ds pt u x ≤ ds pt u a) (hb : ∀ x, T x → ds pt a x ≤ ds pt a b) {v w : Int} (hv : T v) (hw : T w) : ds pt v w ≤ max (ds pt v a) (ds pt v b) := by
  have diam : ∀ x y, T x → T y → ds pt x y ≤ ds pt a b := fun x y tx ty => by
    have h1 := ds_four pt x y u a
    have h2 := ha x tx
    have h3 := ha y ty
    have h4 := hb x tx
    have h5 := hb y ty
    rw [ds_comm pt x u, ds_comm pt y u, ds_comm pt x a, ds_comm pt y a] at h1
    exact om83 h1 h2 h3 h4 h5
  have h1 := ds_four pt v w a b
  have h2 := diam w b hw tb
  have h3 := diam w a hw ta
  exact om84 h1 h2 h3
theorem IsChain.uniq {kvs : List (Int × V)} {n : Int} {xs : List Int} (h : IsChain kvs n xs) : ∀ {ys}, IsChain kvs n ys → xs = ys := by
  induction h with
  | stop e => intro ys k; cases k with
    | stop _ => rfl
    | step e' _ => rw [e] at e'; cases e'
  | step e _ ih => intro ys k; cases k with
    | stop e' => rw [e] at e'; cases e'
    | step e' k' => rw [e] at e'; cases e'; rw [ih k']
theorem Wood.chain {kvs : List (Int × V)} {rk : Int → Nat} (W : Wood kvs rk) : ∀ (n : Nat) (v : Int) (d : V), rk v ≤ n → dget kvs v = some d → ∃ xs, IsChain kvs v xs ∧ xs.length ≤ rk v + 1 := by
  intro n
  induction n with
  | zero =>
    intro v d hr hd
    rcases W.down v d hd with rfl | ⟨b, d', rfl, hb, hlt⟩
    · exact ⟨[v], .stop hd, by simp⟩
    · exact (om85 hr hlt).elim
  | succ n ih =>
    intro v d hr hd
    rcases W.down v d hd with rfl | ⟨b, d', rfl, hb, hlt⟩
    · exact ⟨[v], .stop hd, by simp⟩
    · obtain ⟨xs, hx, hl⟩ := ih b d' (by exact om86 hr hlt) hb
      exact ⟨v :: xs, .step hd hx, by simp; exact om87 hlt hl⟩
theorem Wood.paths {kvs : List (Int × V)} {rk : Int → Nat} (W : Wood kvs rk) : ∃ pt, Paths kvs pt ∧ ∀ v xs, IsChain kvs v xs → pt v = xs.reverse := by
  classical
  refine ⟨fun v => if h : ∃ xs, IsChain kvs v xs then (Classical.choose h).reverse else [], ?_, ?_⟩
  case refine_2 =>
    intro v xs hx
    have h : ∃ xs, IsChain kvs v xs := ⟨xs, hx⟩
    simp only [dif_pos h]
    rw [(Classical.choose_spec h).uniq hx]
  have key : ∀ v xs, IsChain kvs v xs → (if h : ∃ xs, IsChain kvs v xs then (Classical.choose h).reverse else []) = xs.reverse := by
    intro v xs hx
    have h : ∃ xs, IsChain kvs v xs := ⟨xs, hx⟩
    rw [dif_pos h, (Classical.choose_spec h).uniq hx]
  refine ⟨fun v hv => ?_, fun v b hv => ?_, fun v d hd => ?_, fun v d hd => ?_⟩
  · exact (key v [v] (.stop hv)).trans rfl
  · rcases W.down v _ hv with e | ⟨b', d', e, hb, _⟩
    · cases e
    · cases e
      refine e1a2 (W.chain (rk b) b d' (Nat.le_refl _) hb) fun xs hx _ => ?_
      have e1 := key b xs hx
      have e2 := key v (v :: xs) (.step hv hx)
      show (if h : ∃ xs, IsChain kvs v xs then _ else _) = (if h : ∃ xs, IsChain kvs b xs then _ else _) ++ [v]
      rw [e1, e2, List.reverse_cons]
  · rcases W.down v d hd with e | ⟨b, d', e, hb, _⟩
    · exact .inl e
    · exact .inr ⟨b, d', e, hb⟩
  · refine e1a2 (W.chain (rk v) v d (Nat.le_refl _) hd) fun xs hx hl => ?_
    have e1 := key v xs hx
    have := W.low v
    show (if h : ∃ xs, IsChain kvs v xs then _ else _ : List Int).length ≤ 41
    rw [e1, List.length_reverse]; exact om88 hl this
end Mine
set_option maxRecDepth 100000
set_option linter.unusedVariables false
namespace Mine
open PySem
theorem dget_none {kvs : List (Int × V)} {k : Int} : dget kvs k = none ↔ k ∉ kvs.map (·.1) := by
  constructor
  · intro h hm
    obtain ⟨d, e⟩ := dget_key hm
    rw [h] at e; cases e
  · intro h
    cases q : dget kvs k with
    | none => rfl
    | some d => exact (h (List.mem_map.mpr ⟨_, dget_mem q, rfl⟩)).elim
theorem key_iff {kvs : List (Int × V)} {v : Int} : Key kvs v ↔ v ∈ kvs.map (·.1) :=
  ⟨fun ⟨d, h⟩ => List.mem_map.mpr ⟨_, dget_mem h, rfl⟩, fun h => dget_key h⟩
theorem dget_map {g : Int → V} {k : Int} : ∀ {ks : List Int}, k ∈ ks → dget (ks.map fun k => (k, g k)) k = some (g k)
  | x :: r, h => by
    by_cases e : x = k
    · subst e; simp [dget]
    · have := dget_map (g := g) (List.mem_of_ne_of_mem (fun z => e z.symm) h)
      simp only [dget, List.map_cons, List.find?, e, decide_false]
      exact this
theorem dget_snoc {kvs : List (Int × V)} {w : Int} {d : V} (h : w ∉ kvs.map (·.1)) (v : Int) : dget (kvs ++ [(w, d)]) v = if v = w then some d else dget kvs v := by
  unfold dget
  rw [List.find?_append]
  by_cases e : v = w
  · subst e
    rw [if_pos rfl]
    have : kvs.find? (fun kv => decide (kv.1 = v)) = none := by
      rw [List.find?_eq_none]
      intro x hx hq
      exact h (List.mem_map.mpr ⟨x, hx, by simpa using hq⟩)
    rw [this]; simp
  · rw [if_neg e]
    have : ([(w, d)] : List (Int × V)).find? (fun kv => decide (kv.1 = v)) = none := by simp; exact fun z => e z.symm
    rw [this, Option.or_none]
theorem nodup_le : ∀ {l l' : List Int}, l.Nodup → (∀ x ∈ l, x ∈ l') → l.length ≤ l'.length
  | [], _, _, _ => Nat.zero_le _
  | x :: r, l', nd, h => by
    rw [List.nodup_cons] at nd
    have hx := h x (.head _)
    have := nodup_le (l' := l'.erase x) nd.2 fun y hy => (List.mem_erase_of_ne (fun e : y = x => nd.1 (e ▸ hy))).mpr (h y (.tail _ hy))
    rw [List.length_erase_of_mem hx] at this
    have := List.length_pos_of_mem hx
    simp; exact om89 (by assumption) this
structure Near (H H' : AH) (an : Addr) (ks : List Int) (ad : Int → Addr) (L : Int → List Int) : Prop where
  ext : Ext H H'
  an0 : H an = none
  d : DictIs H' an (ks.map fun k => (k, V.ref (ad k)))
  l : ∀ k, k ∈ ks → ListAt H' (ad k) ((L k).map V.int)
  new : ∀ k, k ∈ ks → H (ad k) = none
  inj : ∀ k, k ∈ ks → ∀ k', k' ∈ ks → ad k = ad k' → k = k'
theorem ListAt.ne_dict {H : AH} {a b : Addr} {ds : List V} {kvs : List (Int × V)} (h : ListAt H a ds) (k : DictIs H b kvs) : a ≠ b := fun e => by
  subst e; obtain ⟨o, h⟩ := h; obtain ⟨o', k⟩ := k; rw [h] at k; cases k
theorem Near.put {H H' : AH} {an a : Addr} {ks : List Int} {ad : Int → Addr} {L : Int → List Int} {k : Int} {o o' : Obj} (N : Near H H' an ks ad L) (hk : k ∉ ks) (ha : H' a = none) :
    Near H ((H'.set a ⟨o, .list ((L k).map V.int)⟩).set an ⟨o', .dict ((ks.map fun k => (k, V.ref (ad k))) ++ [(k, .ref a)])⟩) an (ks ++ [k]) (fun x => if x = k then a else ad x) L := by
  have hna : a ≠ an := fun e => by obtain ⟨o, q⟩ := N.d; rw [← e, ha] at q; cases q
  have old : ∀ x, x ∈ ks → (if x = k then a else ad x) = ad x := fun x hx => if_neg fun e : x = k => hk (e ▸ hx)
  refine ⟨Ext.upd (Ext.set N.ext ha) N.an0, N.an0, ?_, fun x hx => ?_, fun x hx => ?_, fun x hx y hy e => ?_⟩
  · rw [List.map_append]
    have e1 : (ks.map fun x => (x, V.ref (if x = k then a else ad x))) = ks.map fun x => (x, V.ref (ad x)) := List.map_congr_left fun x hx => by rw [old x hx]
    rw [e1]
    simp only [List.map_cons, List.map_nil, if_true]
    exact DictIs.same _ _ _ _
  · rcases List.mem_append.mp hx with hx | hx
    · rw [old x hx]
      have := N.l x hx
      exact (this.fresh ha).ne (this.ne_dict N.d)
    · rw [List.mem_singleton] at hx; subst hx
      rw [if_pos rfl]
      exact (ListAt.same _ _ _ _).ne hna
  · rcases List.mem_append.mp hx with hx | hx
    · rw [old x hx]; exact N.new x hx
    · rw [List.mem_singleton] at hx; subst hx
      rw [if_pos rfl]; exact N.ext.none ha
  · have fr : ∀ z, z ∈ ks → ad z ≠ a := fun z hz => (N.l z hz).ne_new ha
    rcases List.mem_append.mp hx with hx1 | hx1 <;> rcases List.mem_append.mp hy with hy1 | hy1
    · rw [old x hx1, old y hy1] at e; exact N.inj x hx1 y hy1 e
    · rw [List.mem_singleton] at hy1
      rw [old x hx1, if_pos hy1] at e; exact (fr x hx1 e).elim
    · rw [List.mem_singleton] at hx1
      rw [old y hy1, if_pos hx1] at e; exact (fr y hy1 e.symm).elim
    · rw [List.mem_singleton] at hx1 hy1; rw [hx1, hy1]
theorem Near.app {H H' : AH} {an : Addr} {ks : List Int} {ad : Int → Addr} {L : Int → List Int} {k w : Int} {o : Obj} (N : Near H H' an ks ad L) (hk : k ∈ ks) :
    Near H (H'.set (ad k) ⟨o, .list ((L k).map V.int ++ [V.int w])⟩) an ks ad (fun x => if x = k then L x ++ [w] else L x) := by
  refine ⟨Ext.upd N.ext (N.new k hk), N.an0, N.d.ne (Ne.symm ((N.l k hk).ne_dict N.d)), fun x hx => ?_, N.new, N.inj⟩
  by_cases e : x = k
  · subst e
    rw [if_pos rfl, List.map_append]
    exact ListAt.same _ _ _ _
  · rw [if_neg e]
    exact (N.l x hx).ne fun q => e (N.inj x hx k hk q)
structure NearAt (H : AH) (kvs : List (Int × V)) (an : Addr) (ad : Int → Addr) (L : Int → List Int) : Prop where
  d : DictIs H an ((kvs.map (·.1)).map fun k => (k, V.ref (ad k)))
  l : ∀ v, Key kvs v → ListAt H (ad v) ((L v).map V.int)
  nb : ∀ v w, w ∈ L v ↔ Nb kvs v w
theorem NearAt.ext {H H' : AH} {kvs : List (Int × V)} {an : Addr} {ad : Int → Addr} {L : Int → List Int} (N : NearAt H kvs an ad L) (e : Ext H H') : NearAt H' kvs an ad L :=
  ⟨e.dict N.d, fun v k => e.list (N.l v k), N.nb⟩
section
variable {kvs : List (Int × V)} {pt : Int → List Int} {u : Int}
structure FarTo (kvs : List (Int × V)) (pt : Int → List Int) (u : Int) (s : Nat) (far : List (Int × V)) : Prop where
  at_ : ∀ v d, dget far v = some d ↔ (Key kvs v ∧ Same pt u v ∧ ds pt u v ≤ s ∧ d = .int (ds pt u v))
  nd : (far.map (·.1)).Nodup
structure FarMid (kvs : List (Int × V)) (pt : Int → List Int) (u : Int) (s : Nat) (far : List (Int × V)) (beh : List Int) : Prop where
  at_ : ∀ v d, dget far v = some d ↔ (Key kvs v ∧ Same pt u v ∧ (ds pt u v ≤ s ∨ v ∈ beh) ∧ d = .int (ds pt u v))
  nd : (far.map (·.1)).Nodup
  next : ∀ v, v ∈ beh → Key kvs v ∧ Same pt u v ∧ ds pt u v = s + 1
  few : beh.length ≤ far.length
structure Far (kvs : List (Int × V)) (pt : Int → List Int) (u : Int) (far : List (Int × V)) : Prop where
  at_ : ∀ v d, dget far v = some d ↔ (Key kvs v ∧ Same pt u v ∧ d = .int (ds pt u v))
  nd : (far.map (·.1)).Nodup
theorem FarMid.size {s : Nat} {far : List (Int × V)} {beh : List Int} (F : FarMid kvs pt u s far beh) : far.length ≤ kvs.length := by
  have := nodup_le (l' := kvs.map (·.1)) F.nd fun x hx => by
    obtain ⟨d, e⟩ := dget_key hx
    exact key_iff.mp ((F.at_ x d).mp e).1
  simpa using this
theorem Far.size {far : List (Int × V)} (F : Far kvs pt u far) : far.length ≤ kvs.length := by
  have := nodup_le (l' := kvs.map (·.1)) F.nd fun x hx => by
    obtain ⟨d, e⟩ := dget_key hx
    exact key_iff.mp ((F.at_ x d).mp e).1
  simpa using this
theorem FarTo.mid {s : Nat} {far : List (Int × V)} (F : FarTo kvs pt u s far) : FarMid kvs pt u s far [] :=
  ⟨fun v d => by simpa using F.at_ v d, F.nd, (fun v h => nomatch h), Nat.zero_le _⟩
theorem FarTo.zero (P : Paths kvs pt) (hu : Key kvs u) : FarTo kvs pt u 0 [(u, .int 0)] := by
  refine ⟨fun v d => ?_, by simp⟩
  by_cases e : u = v
  · subst e
    have := P.self hu
    rw [ds_self]
    simp only [dget, List.find?, decide_true, Option.map_some, Option.some.injEq]
    exact ⟨fun h => ⟨hu, this, Nat.le_refl _, h.symm⟩, fun h => h.2.2.2.symm⟩
  · simp only [dget, List.find?, e, decide_false, Option.map_none]
    refine ⟨(fun h => nomatch h), fun h => ?_⟩
    refine e1a2 (P.closer hu h.1 h.2.1 e) fun w _ q => ?_
    have := h.2.2.1
    omega
theorem FarMid.put {s : Nat} {far : List (Int × V)} {beh : List Int} (P : Paths kvs pt) (F : FarMid kvs pt u s far beh) {v w : Int} (hv : Key kvs v ∧ Same pt u v ∧ ds pt u v = s) (hn : Nb kvs v w) (hno : dget far w = none) :
    FarMid kvs pt u s (far ++ [(w, .int ((s : Int) + 1))]) (beh ++ [w]) := by
  refine e0a3 hv fun k1 k2 k3 => ?_; clear hv
  have kw := (P.nbKey hn).2
  have sw := k2.trans (P.nbSame hn)
  have hnot : ¬ (ds pt u w ≤ s ∨ w ∈ beh) := fun z => by
    have := (F.at_ w _).mpr ⟨kw, sw, z, rfl⟩
    rw [hno] at this; cases this
  have hds : ds pt u w = s + 1 := by
    rcases P.near (u := u) hn with q | q
    · exact om90 k3 q
    · exact (hnot (.inl (by omega))).elim
  have hwk : w ∉ far.map (·.1) := dget_none.mp hno
  refine ⟨fun x d => ?_, ?_, fun x hx => ?_, by simp; exact F.few⟩
  · rw [dget_snoc hwk]
    by_cases e : x = w
    · subst e
      rw [if_pos rfl, hds]
      refine ⟨fun h => ⟨kw, sw, .inr (by simp), by injection h with h; rw [← h]; rfl⟩, fun h => by rw [h.2.2.2]; rfl⟩
    · rw [if_neg e, F.at_ x d]
      simp [e]
  · rw [List.map_append, List.nodup_append]
    refine ⟨F.nd, by simp, fun a ha b hb => ?_⟩
    simp at hb; subst hb
    exact fun e => hwk (e ▸ ha)
  · rcases List.mem_append.mp hx with hx | hx
    · exact F.next x hx
    · rw [List.mem_singleton] at hx; rw [hx]; exact ⟨kw, sw, hds⟩
theorem FarMid.done {s : Nat} {far : List (Int × V)} {beh lay : List Int} (P : Paths kvs pt) (hu : Key kvs u) (F : FarMid kvs pt u s far beh) (hl : ∀ v, v ∈ lay ↔ (Key kvs v ∧ Same pt u v ∧ ds pt u v = s)) (hc : ∀ v, v ∈ lay → ∀ w, Nb kvs v w → dget far w ≠ none) :
    FarTo kvs pt u (s + 1) far ∧ ∀ v, v ∈ beh ↔ (Key kvs v ∧ Same pt u v ∧ ds pt u v = s + 1) := by
  have full : ∀ v, Key kvs v → Same pt u v → ds pt u v = s + 1 → v ∈ beh := fun v k1 k2 k3 => by
    have hne : u ≠ v := fun e => by subst e; rw [ds_self] at k3; exact om91 k3
    refine e1a2 (P.closer hu k1 k2 hne) fun w hn q => ?_
    have hn' : Nb kvs w v := hn.elim .inr .inl
    have hw : w ∈ lay := (hl w).mpr ⟨(P.nbKey hn).2, k2.trans (P.nbSame hn), by exact om92 k3 q⟩
    have := hc w hw v hn'
    cases z : dget far v with
    | none => exact (this z).elim
    | some d =>
      rcases ((F.at_ v d).mp z).2.2.1 with q | q
      · exact (om93 k3 q).elim
      · exact q
  refine ⟨⟨fun v d => ?_, F.nd⟩, fun v => ⟨fun h => F.next v h, fun h => full v h.1 h.2.1 h.2.2⟩⟩
  rw [F.at_ v d]
  refine ⟨fun ⟨a, b, e, g⟩ => ⟨a, b, e.elim (fun e => by exact om12 e) (fun e => by have := (F.next v e).2.2; exact om94 this), g⟩, fun ⟨a, b, e, g⟩ => ⟨a, b, ?_, g⟩⟩
  by_cases q : ds pt u v ≤ s
  · exact .inl q
  · exact .inr (full v a b (by omega))
theorem FarTo.all {s : Nat} {far : List (Int × V)} (P : Paths kvs pt) (hu : Key kvs u) (F : FarTo kvs pt u s far) (hl : ∀ v, ¬ (Key kvs v ∧ Same pt u v ∧ ds pt u v = s)) : Far kvs pt u far := by
  have key : ∀ n v, Key kvs v → Same pt u v → ds pt u v = s + n → False := by
    intro n
    induction n with
    | zero => intro v k1 k2 k3; exact hl v ⟨k1, k2, k3⟩
    | succ n ih =>
      intro v k1 k2 k3
      have hne : u ≠ v := fun e => by subst e; rw [ds_self] at k3; exact om95 k3
      refine e1a2 (P.closer hu k1 k2 hne) fun w hn q => ?_
      exact ih w (P.nbKey hn).2 (k2.trans (P.nbSame hn)) (by exact om96 k3 q)
  refine ⟨fun v d => (F.at_ v d).trans ⟨fun ⟨a, b, _, e⟩ => ⟨a, b, e⟩, fun ⟨a, b, e⟩ => ⟨a, b, ?_, e⟩⟩, F.nd⟩
  apply Classical.byContradiction; intro h
  exact key (ds pt u v - s) v a b (by exact om97 h)
theorem Paths.ds_le (P : Paths kvs pt) {u v : Int} (hu : Key kvs u) (hv : Key kvs v) : ds pt u v ≤ 82 := by
  obtain ⟨_, e1⟩ := hu; obtain ⟨_, e2⟩ := hv
  have := P.len _ _ e1; have := P.len _ _ e2
  unfold ds; exact om98 (by assumption) this
theorem Paths.meet (P : Paths kvs pt) {u v : Int} (hu : Key kvs u) (hv : Key kvs v) {i j : Nat} {y : Int} (e1 : (pt u)[i]? = some y) (e2 : (pt v)[j]? = some y) : i = j ∧ i < cp (pt u) (pt v) := by
  obtain ⟨_, p1⟩ := P.on _ rfl hu i y e1
  obtain ⟨_, p2⟩ := P.on _ rfl hv j y e2
  have l1 := (List.getElem?_eq_some_iff.mp e1).1
  have l2 := (List.getElem?_eq_some_iff.mp e2).1
  have e := p1.symm.trans p2
  have el := congrArg List.length e
  rw [List.length_take, List.length_take] at el
  have hij : i = j := by exact om99 l1 l2 el
  subst hij
  exact ⟨rfl, cp_ge _ _ (i + 1) (by exact om72 l1) (by exact om72 l2) e⟩
theorem Paths.between (P : Paths kvs pt) {u v : Int} (hu : Key kvs u) (hv : Key kvs v) (hs : Same pt u v) {xs ys : List Int} (ex : pt u = xs.reverse) (ey : pt v = ys.reverse) :
    ∃ k j x, k < xs.length ∧ xs[k]? = some x ∧ ys[j]? = some x ∧ k + j = ds pt u v ∧ (∀ i y, i < k → xs[i]? = some y → y ∉ ys) ∧ ∀ i, i < j → ys[i]? ≠ some x := by
  have lx : (pt u).length = xs.length := by rw [ex, List.length_reverse]
  have ly : (pt v).length = ys.length := by rw [ey, List.length_reverse]
  have c1 := cp_le (pt u) (pt v)
  have c2 := cp_le' (pt u) (pt v)
  have toX : ∀ {i : Nat} {y : Int}, xs[i]? = some y → (pt u)[xs.length - 1 - i]? = some y := fun {i y} h => by
    have := (List.getElem?_eq_some_iff.mp h).1
    rw [ex, List.getElem?_reverse (by exact om100 this), show xs.length - 1 - (xs.length - 1 - i) = i by exact om101 this, h]
  have toY : ∀ {i : Nat} {y : Int}, ys[i]? = some y → (pt v)[ys.length - 1 - i]? = some y := fun {i y} h => by
    have := (List.getElem?_eq_some_iff.mp h).1
    rw [ey, List.getElem?_reverse (by exact om100 this), show ys.length - 1 - (ys.length - 1 - i) = i by exact om101 this, h]
  unfold Same at hs
  obtain ⟨x, hx⟩ : ∃ x, (pt u)[cp (pt u) (pt v) - 1]? = some x := ⟨_, List.getElem?_eq_getElem (by exact om102 hs c1)⟩
  have hy : (pt v)[cp (pt u) (pt v) - 1]? = some x := by
    have h := cp_take (pt u) (pt v) _ (Nat.le_refl _)
    have h1 : ((pt u).take (cp (pt u) (pt v)))[cp (pt u) (pt v) - 1]? = ((pt v).take (cp (pt u) (pt v)))[cp (pt u) (pt v) - 1]? := by rw [h]
    rw [List.getElem?_take, List.getElem?_take, if_pos (by exact om103 hs), if_pos (by exact om103 hs), hx] at h1
    exact h1.symm
  refine ⟨xs.length - cp (pt u) (pt v), ys.length - cp (pt u) (pt v), x, by exact om104 hs lx c1, ?_, ?_, ?_, fun i y hi hxi hm => ?_, fun i hi e => ?_⟩
  · rw [ex, List.getElem?_reverse (by rw [← ex]; exact om105 hs lx c1), ← ex] at hx
    rw [← hx]; congr 1; exact om106 hs
  · rw [ey, List.getElem?_reverse (by rw [← ey]; exact om105 hs ly c2), ← ey] at hy
    rw [← hy]; congr 1; exact om106 hs
  · unfold ds; exact om107 lx ly c1 c2
  · obtain ⟨j, hj⟩ := List.getElem?_of_mem hm
    have := (P.meet hu hv (toX hxi) (toY hj)).2
    exact om108 hi this
  · have lt := (List.getElem?_eq_some_iff.mp e).1
    have := (P.meet hu hv hx (toY e)).1
    exact om109 hs hi this
theorem exists_max : ∀ (l : List Int), l ≠ [] → ∃ M, M ∈ l ∧ ∀ x ∈ l, x ≤ M
  | [x], _ => ⟨x, .head _, fun y hy => by rw [List.mem_singleton] at hy; exact om110 hy⟩
  | x :: y :: r, _ => by
    refine e1a2 (exists_max (y :: r) (by simp)) fun M h1 h2 => ?_
    by_cases h : x ≤ M
    · exact ⟨M, .tail _ h1, fun z hz => (List.mem_cons.mp hz).elim (fun e => e ▸ h) (h2 z)⟩
    · exact ⟨x, .head _, fun z hz => (List.mem_cons.mp hz).elim (fun e => by exact om110 e) (fun q => by have := h2 z q; exact om111 h this)⟩
end
end Mine
set_option maxRecDepth 100000
set_option linter.unusedVariables false
namespace Mine
open PySem PyProof.Rows PySem.Builtin PySem.W PySem.Calls
section
variable {c : Cx} {f : Fx} {m : Loc} {H : AH} {X : Value → AH → Prop} {Q : V → AH → Prop}
theorem Ev_F1e {x : Str} {p₁ p : Pos} {e : Expr} {fa : Addr} {o : Obj} {fd : FuncData} {k : Nat} (K : CxOk c) (g : GN c x (.ref fa)) (ho : c.base.get? fa = some o) (hfd : o.data = .func fd) (R : Room k f.A) (hf : f.A.frames = some f.frs) (h1 : Ev c f e m H (fun d H₁ => Fn c k (.ref fa) [d] H₁ Q X) X) (hg : f.env.globals = mainGlobals := by rfl) (hb : f.env.builtins = builtinsNs := by rfl)
    (hk : f.env.scope.kind = .function := by rfl) (hn : f.env.kindOf x = some .globalImplicit := by rfl) (hd : (x == ("__debug__" : Str)) = false := by decide) (he : starEach [e] f.env = (false, eval e f.env) :: starEach [] f.env := by rfl) : Ev c f (.Call (.Name x p₁) [e] [] p) m H Q X :=
  Ev_call ho hfd R hf ((Pe_glob K g hg hb hk hn hd).ev ⟨rfl, Evs_cons (Ev.mono h1 (fun _ _ z => Evs_nil z) fun _ _ z => z) he⟩) he
theorem Ev_F2e {x : Str} {p₁ p : Pos} {e e₂ : Expr} {fa : Addr} {o : Obj} {fd : FuncData} {k : Nat} (K : CxOk c) (g : GN c x (.ref fa)) (ho : c.base.get? fa = some o) (hfd : o.data = .func fd) (R : Room k f.A) (hf : f.A.frames = some f.frs) (h1 : Ev c f e m H (fun d H₁ => Ev c f e₂ m H₁ (fun d₂ H₂ => Fn c k (.ref fa) [d, d₂] H₂ Q X) X) X) (hg : f.env.globals = mainGlobals := by rfl) (hb : f.env.builtins = builtinsNs := by rfl)
    (hk : f.env.scope.kind = .function := by rfl) (hn : f.env.kindOf x = some .globalImplicit := by rfl) (hd : (x == ("__debug__" : Str)) = false := by decide) (he : starEach [e, e₂] f.env = (false, eval e f.env) :: starEach [e₂] f.env := by rfl) (he2 : starEach [e₂] f.env = (false, eval e₂ f.env) :: starEach [] f.env := by rfl) : Ev c f (.Call (.Name x p₁) [e, e₂] [] p) m H Q X :=
  Ev_call ho hfd R hf ((Pe_glob K g hg hb hk hn hd).ev ⟨rfl, Evs_cons (Ev.mono h1 (fun _ _ z => Evs_cons (Ev.mono z (fun _ _ z => Evs_nil z) fun _ _ z => z) he2) fun _ _ z => z) he⟩) he
theorem Ev_B1e {x : Str} {p₁ p : Pos} {e : Expr} {id : String} (K : CxOk c) (g : GN c x (.builtin id)) (h1 : Ev c f e m H (fun d H₁ => OpN c f (fun vs => call (.builtin id) vs) [d] m H₁ Q X) X) (hg : f.env.globals = mainGlobals := by rfl) (hb : f.env.builtins = builtinsNs := by rfl)
    (hk : f.env.scope.kind = .function := by rfl) (hn : f.env.kindOf x = some .globalImplicit := by rfl) (hd : (x == ("__debug__" : Str)) = false := by decide) (he : starEach [e] f.env = (false, eval e f.env) :: starEach [] f.env := by rfl) : Ev c f (.Call (.Name x p₁) [e] [] p) m H Q X :=
  Ev_callB ((Pe_glob K g hg hb hk hn hd).ev ⟨rfl, Evs_cons (Ev.mono h1 (fun _ _ z => Evs_nil z) fun _ _ z => z) he⟩) he rfl
end
end Mine
set_option maxRecDepth 100000
set_option linter.unusedVariables false
namespace Mine
open PySem PyProof.Rows PySem.Builtin PySem.W PySem.Calls
section
variable {c : Cx} {f : Fx} {m : Loc} {H : AH} {X : Value → AH → Prop} {Q : V → AH → Prop}
structure Plain (K : Frag) (C : Addr) : Prop where
  ga : findIn K (.ref C) "__getattribute__" = some (some (.builtin "object.__getattribute__"))
  gt : findIn K (.ref C) "__getattr__" = some none
  sa : findIn K (.ref C) "__setattr__" = some (some (.builtin "object.__setattr__"))
  over : plainOver K C = true
  has : (clsIn K C).any (·.hasDict) = true
theorem in_of {K : Frag} (KX : K.In c.base) {s : Shared} (S : St c f m H s) : K.In s.heap := fun a o e => S.base a o (KX a o e)
theorem lookIn_ns {h : Heap} {a : Addr} {mv : Str → Option Value} {o : Obj} (n : h.Ns a mv) (g : h.get? a = some o) (name : Str) : lookIn name o = some (mv name) := by
  refine e3a4 n fun o' es ep g' hd sk hm => ?_; clear n
  rw [g] at g'; cases g'
  unfold lookIn
  rw [hd]; dsimp only
  have e := hm name
  unfold nsFind findBy at e
  rw [← Array.find?_toList] at e
  cases q : es.toList.find? (·.key.isStr name) with
  | some en => rw [q] at e; rw [← e]; rfl
  | none =>
    rw [q] at e
    have : es.toList.any (·.refKey) = false := by
      rw [List.any_eq_false]; intro en hen; obtain ⟨n, t, h⟩ := sk en (by simpa using hen); simp [DictEntry.refKey, h]
    rw [this, ← e]; rfl
theorem nodup_leG {α : Type} [DecidableEq α] : ∀ {l l' : List α}, l.Nodup → (∀ x ∈ l, x ∈ l') → l.length ≤ l'.length
  | [], _, _, _ => Nat.zero_le _
  | x :: r, l', nd, h => by
    rw [List.nodup_cons] at nd
    have hx := h x (.head _)
    have := nodup_leG (l' := l'.erase x) nd.2 fun y hy => (List.mem_erase_of_ne (fun e : y = x => nd.1 (e ▸ hy))).mpr (h y (.tail _ hy))
    rw [List.length_erase_of_mem hx] at this
    have := List.length_pos_of_mem hx
    simp; exact om89 (by assumption) this
theorem lookup_none_of {fs : List (Str × V)} {x : Str} (h : x ∉ fs.map (·.1)) : fs.lookup x = none := by
  induction fs with
  | nil => rfl
  | cons p r ih =>
    simp only [List.map_cons, List.mem_cons, not_or] at h
    rw [List.lookup_cons, show (x == p.1) = false from beq_false_of_ne h.1]
    exact ih h.2
theorem ns_size {h : Heap} {a : Addr} {mv : Str → Option Value} {fs : List (Str × V)} (n : h.Ns1 a mv) (hn : ∀ x, fs.lookup x = none → mv x = none) {o : Obj} {es : Array DictEntry} {ep : Nat} (g : h.get? a = some o) (d : o.data = .dict es ep) : es.size ≤ fs.length := by
  classical
  refine e3a5 n fun o' es' ep' g' d' sk uk hm => ?_; clear n
  rw [g] at g'; cases g'; rw [d] at d'; cases d'
  have key : ∀ e ∈ es.toList, ∃ x, e.key.isStr x = true := fun e he => by obtain ⟨x, t, hx⟩ := sk e (by simpa using he); exact ⟨x, by rw [hx]; simp [Value.isStr]⟩
  let nm : DictEntry → Str := fun e => if h : ∃ x, e.key.isStr x = true then Classical.choose h else Str.empty
  have nmk : ∀ e ∈ es.toList, e.key.isStr (nm e) = true := fun e he => by
    have h := key e he
    show e.key.isStr (if h : ∃ x, e.key.isStr x = true then Classical.choose h else Str.empty) = true
    rw [dif_pos h]; exact Classical.choose_spec h
  have nd : (es.toList.map nm).Nodup := by
    refine List.Pairwise.map _ ?_ (List.Pairwise.and_mem.mp uk)
    rintro a b rz1 e; refine e0a3 rz1 fun ha hb hab => ?_; clear rz1
    exact hab (nm a) (nmk a ha) (by rw [e]; exact nmk b hb)
  have sub : ∀ x ∈ es.toList.map nm, x ∈ fs.map (·.1) := fun x hx => by
    refine e1a2 (List.mem_map.mp hx) fun e he rq155 => ?_; obtain rfl := rq155
    apply Classical.byContradiction
    intro hno
    have h1 := hn _ (lookup_none_of hno)
    rw [← hm] at h1
    unfold nsFind findBy at h1
    rw [Option.map_eq_none_iff, Array.find?_eq_none] at h1
    exact h1 e (by simpa using he) (nmk e he)
  have := nodup_leG nd sub
  simpa using this
def InstIs (H : AH) (x C dx : Addr) (fs : List (Str × V)) : Prop := (∃ o, H x = some ⟨o, .inst C dx⟩) ∧ ∃ od, H dx = some ⟨od, .attrs fs⟩
theorem InstIs.ext {H H' : AH} {x C dx : Addr} {fs : List (Str × V)} (I : InstIs H x C dx fs) (e : Ext H H') : InstIs H' x C dx fs := by
  obtain ⟨⟨o, a⟩, od, b⟩ := I
  exact ⟨⟨o, (e x (by rw [a]; exact fun z => nomatch z)).trans a⟩, od, (e dx (by rw [b]; exact fun z => nomatch z)).trans b⟩
theorem InstIs.ne {H : AH} {x C dx a : Addr} {fs : List (Str × V)} {y : Cell} (I : InstIs H x C dx fs) (n1 : x ≠ a) (n2 : dx ≠ a) : InstIs (H.set a y) x C dx fs := by
  obtain ⟨⟨o, p⟩, od, q⟩ := I
  exact ⟨⟨o, (set_ne H y n1).trans p⟩, od, (set_ne H y n2).trans q⟩
theorem InstIs.ne_list {H : AH} {x C dx a : Addr} {fs : List (Str × V)} {ds : List V} (I : InstIs H x C dx fs) (l : ListAt H a ds) : x ≠ a ∧ dx ≠ a := by
  obtain ⟨⟨o, p⟩, od, q⟩ := I
  obtain ⟨ol, l⟩ := l
  exact ⟨(fun e => by rw [e, l] at p; cases p), (fun e => by rw [e, l] at q; cases q)⟩
theorem InstIs.ne_dict {H : AH} {x C dx a : Addr} {fs : List (Str × V)} {ds : List (Int × V)} (I : InstIs H x C dx fs) (l : DictIs H a ds) : x ≠ a ∧ dx ≠ a := by
  obtain ⟨⟨o, p⟩, od, q⟩ := I
  obtain ⟨ol, l⟩ := l
  exact ⟨(fun e => by rw [e, l] at p; cases p), (fun e => by rw [e, l] at q; cases q)⟩
theorem InstIs.apart {H : AH} {x C dx : Addr} {fs : List (Str × V)} (I : InstIs H x C dx fs) : x ≠ dx := by
  obtain ⟨⟨o, p⟩, od, q⟩ := I
  exact fun e => by rw [e, q] at p; cases p
theorem InstIs.at {s : Shared} {x C dx : Addr} {fs : List (Str × V)} (I : InstIs H x C dx fs) (S : St c f m H s) :
    ∃ od od' mv, H dx = some ⟨od', .attrs fs⟩ ∧ InstAt s.heap x (instObj C dx) C (some od) ∧ s.heap.get? dx = some od ∧ s.heap.Ns1 dx mv ∧ (∀ y, fs.lookup y = none → mv y = none) ∧ ∀ y d, fs.lookup y = some d → ∃ v, mv y = some v ∧ Is s.heap d v := by
  obtain ⟨⟨o, e⟩, od, e2⟩ := I
  have k := (S.rep x _ e).2
  obtain ⟨g2, mv, n, p, q⟩ := S.rep dx _ e2
  exact ⟨od, od, mv, e2, ⟨k, rfl, rfl, g2⟩, g2, n, p, q⟩
def Handy (d : V) : Prop := ∀ h v, Is h d v → handedIn v = true
theorem handy_int {i : Int} : Handy (.int i) := fun h v x => by obtain ⟨t, rfl⟩ := is_int x; rfl
theorem handy_ref {a : Addr} : Handy (.ref a) := fun h v x => by obtain rfl := is_raw x; rfl
theorem Pe_attr {K : Frag} (KX : K.In c.base) {C : Addr} (PC : Plain K C) {e : Expr} {name : Str} {pos : Pos} {x dx : Addr} {fs : List (Str × V)} {d : V} (he : Pe c f e m H (.ref x)) (I : InstIs H x C dx fs) (hl : fs.lookup name = some d) (hd : Handy d) (hno : findIn K (.ref C) name = some none)
    (hbase : attributeBase e name f.env (eval e f.env) = eval e f.env := by rfl) : Pe c f (.Attribute e name pos) m H d := .mk fun s S => by
  rw [arm_eval_Attribute, hbase]
  refine wpAny_bind (wpAny_mono (he.run s S) (fun v s₁ z => ?_) fun _ _ z => z)
  obtain ⟨t₁, d', H₁, i₁, S₁, rfl, rfl⟩ := z
  obtain rfl := is_raw i₁
  refine e3a6 (I.at S₁) fun od od' mv e0 IA g n p q => ?_
  refine e1a2 (q name d hl) fun u ev iv => ?_
  refine e1a2 (any_some PC.has) fun cd hc hh => ?_
  refine wpAny_bind (wpAny_standAt (wpAny_bind (wpAny_holding (get_value (v := u) (in_of KX S₁) IA PC.ga ?_ (hd _ _ iv) ?_))))
  · unfold findObj
    rw [hc, hno]
    have e1 : W.ownOf cd (some od) name = some (some u) := by unfold W.ownOf; rw [if_pos hh]; show lookIn name od = _; rw [lookIn_ns n.ns g, ev]
    simp only [Option.bind_some]
    rw [e1]; rfl
  · refine wpAny_bind (wpAny_letTemporaryGo (wpAny_pure ⟨t₁, d, _, iv, S₁.grow (s' := { s₁ with toks := s₁.toks + 1 }) (Grow.refl _) rfl rfl, rfl, rfl⟩))
theorem shadow_none {od : Obj} {h : Heap} {dx : Addr} {mv : Str → Option Value} {name : Str} (n : h.Ns dx mv) (g : h.get? dx = some od) (e : mv name = none) : shadowIn (some od) name = some false := by
  show Option.map _ (lookIn name od) = _; rw [lookIn_ns n g, e]; rfl
theorem Fn.opA {k : Nat} {fv : Value} {args : List V} (h : Fn c k fv args H Q X) {A : Around} (R : Room k A) (hf : A.frames = some f.frs) {vs : List Value} {s : Shared} (S : St c f m H s) (i : IsAll s.heap args vs) :
    codeAny c.M A (.call fv ⟨vs, []⟩) (fun r s' => match r with | .ok (.ret v) => Good c f m Q s v s' | .ok _ => False | .error x => Thr c f m X x s') s := by
  refine codeAny_mono (h.run A f.frs s vs R hf S.ent i) fun r s' z => ?_
  refine e1a2 z fun H' L rq156 => ?_; clear z; have z := rq156; clear rq156
  obtain ⟨S', t⟩ := S.back L
  cases r with
  | error x => refine e2a3 z fun C e rq157 g q => ?_; clear z; obtain rfl := rq157; exact ⟨C, H', e, rfl, S', g.fly S, q⟩
  | ok fl => cases fl with
    | ret v => refine e1a2 z fun d i' q => ?_; clear z; exact ⟨t, d, H', i', S', q⟩
    | _ => exact z.elim
theorem Ev_M {K : Frag} (KX : K.In c.base) {C : Addr} (PC : Plain K C) {o e : Expr} {es : List Expr} {name : Str} {ap p : Pos} {x dx fa : Addr} {of : Obj} {fd : FuncData} {fs : List (Str × V)} {k : Nat} (R : Room k f.A) (hfr : f.A.frames = some f.frs)
    (ho : Pe c f o m H (.ref x)) (I : InstIs H x C dx fs) (hl : fs.lookup name = none) (hf : findIn K (.ref C) name = some (some (.ref fa))) (ht : typeIn K (.ref fa) = some (.type "function")) (hof : c.base.get? fa = some of) (hfd : of.data = .func fd)
    (hs : Evs c f (e :: es) p m H (fun ds H' => Fn c k (.ref fa) (.ref x :: ds) H' Q X) X)
    (hbase : attributeBase o name f.env (eval o f.env) = eval o f.env := by rfl)
    (hfew : methodCallForm ((e :: es).length + ([] : List Keyword).length) (backTo p (starEach (e :: es) f.env)) (backToKw p (keywordEach [] f.env)) = true := by rfl)
    (hline : (ap.endLine == p.line) = true := by rfl) (he : starEach (e :: es) f.env = (false, eval e f.env) :: starEach es f.env := by rfl) :
    Ev c f (.Call (.Attribute o name ap) (e :: es) [] p) m H Q X := .mk fun s S => by
  rw [arm_eval_Call, hbase]
  refine wpAny_bind (wpAny_mono (ho.run s S) (fun v s₁ z => ?_) fun _ _ z => ?_)
  · obtain ⟨t₁, d', H₁, i₁, S₁, rfl, rfl⟩ := z
    obtain rfl := is_raw i₁
    refine e3a6 (I.at S₁) fun od od' mv e0 IA g n pn q => ?_
    have hpos : methodCallPos true o f.env ap p = pure p := by unfold methodCallPos; simp [hline]
    refine wpAny_bind (wpAny_standAt ?_)
    unfold methodCall
    rw [hfew]
    refine wpAny_bind (wpAny_holding ?_)
    show wpAny _ _ (getMethod (.ref x) name _) _ _ _
    refine method_fn (in_of KX S₁) IA PC.ga PC.gt hf ht (shadow_none n.ns g (pn name hl)) ?_
    show wpAny _ _ (methodCallPos true o f.env ap p >>= _) _ _ _
    rw [hpos]
    refine wpAny_bind (wpAny_pure ?_)
    refine callWith_meth (h₀ := c.base) hfd hof (wpAny_mono (hs.run s₁ S₁) (fun vs s₂ z => ?_) fun _ _ x => x) he
    obtain ⟨t₂, ds, H₂, i₂, S₂, q₂⟩ := z
    refine ⟨fun b o e => S₂.base b o e, ?_⟩
    exact wpAny_mono (q₂.op R hfr S₂ (isAll_cons (mk_raw) i₂)) (fun v s₃ ⟨t₃, r⟩ => ⟨t₁.trans (t₂.trans t₃), r⟩) fun _ _ x => x
  · refine e3a4 z fun _ _ _ _ _ _ rq158 => ?_; clear z; have z := rq158; clear rq158; exact z.elim
theorem Ev_M0 {K : Frag} (KX : K.In c.base) {C : Addr} (PC : Plain K C) {o : Expr} {name : Str} {ap p : Pos} {x dx fa : Addr} {of : Obj} {fd : FuncData} {fs : List (Str × V)} {k : Nat} (R : Room k f.A) (hfr : f.A.frames = some f.frs)
    (ho : Pe c f o m H (.ref x)) (I : InstIs H x C dx fs) (hl : fs.lookup name = none) (hf : findIn K (.ref C) name = some (some (.ref fa))) (ht : typeIn K (.ref fa) = some (.type "function")) (hof : c.base.get? fa = some of) (hfd : of.data = .func fd)
    (h : Fn c k (.ref fa) [.ref x] H Q X)
    (hbase : attributeBase o name f.env (eval o f.env) = eval o f.env := by rfl)
    (hline : (ap.endLine == p.line) = true := by rfl) :
    Ev c f (.Call (.Attribute o name ap) [] [] p) m H Q X := .mk fun s S => by
  rw [arm_eval_Call, hbase]
  refine wpAny_bind (wpAny_mono (ho.run s S) (fun v s₁ z => ?_) fun _ _ z => ?_)
  · obtain ⟨t₁, d', H₁, i₁, S₁, rfl, rfl⟩ := z
    obtain rfl := is_raw i₁
    refine e3a6 (I.at S₁) fun od od' mv e0 IA g n pn q => ?_
    have hpos : methodCallPos true o f.env ap p = pure p := by unfold methodCallPos; simp [hline]
    refine wpAny_bind (wpAny_standAt ?_)
    unfold methodCall
    rw [show methodCallForm (([] : List Expr).length + ([] : List Keyword).length) (backTo p (starEach [] f.env)) (backToKw p (keywordEach [] f.env)) = true from rfl]
    refine wpAny_bind (wpAny_holding ?_)
    show wpAny _ _ (getMethod (.ref x) name _) _ _ _
    refine method_fn (in_of KX S₁) IA PC.ga PC.gt hf ht (shadow_none n.ns g (pn name hl)) ?_
    show wpAny _ _ (methodCallPos true o f.env ap p >>= _) _ _ _
    rw [hpos]
    refine wpAny_bind (wpAny_pure ?_)
    refine callWith_meth0 hfd (S₁.base fa of hof) ?_
    exact wpAny_mono (h.op R hfr S₁ (isAll_one (mk_raw))) (fun v s₃ ⟨t₃, r⟩ => ⟨t₁.trans t₃, r⟩) fun _ _ x => x
  · refine e3a4 z fun _ _ _ _ _ _ rq159 => ?_; clear z; have z := rq159; clear rq159; exact z.elim
theorem Ex_setattr {K : Frag} (KX : K.In c.base) {C : Addr} (PC : Plain K C) {o value : Expr} {name : Str} {p' p : Pos} {rest : List Stmt} {Q : Ko}
    (h : Ev c f value m H (fun dv H₁ => Ev c f o m H₁ (fun do_ H₂ => ∃ x dx fs fs', do_ = .ref x ∧ InstIs H₂ x C dx fs ∧ fs.length ≤ 1000 ∧ (∀ y, fs'.lookup y = if y = name then some dv else fs.lookup y) ∧ ∀ od, Ex c f rest m (H₂.set dx ⟨od, .attrs fs'⟩) Q) (fun C H' => Q (.exc C) m H')) (fun C H' => Q (.exc C) m H'))
    (ht : takerIn K C name = some none) (hs : swapsWith value (some (.Attribute o name p')) p.line f.env = pure false := by rfl) : Ex c f (.Assign [.Attribute o name p'] value p :: rest) m H Q := .mk fun s S => by
  refine wpAny_execs_cons (plainObj_wpAny_Assign_Attribute (wpAny_mono (h.run s S) (fun v s₁ z => ?_) fun x s' z => z.ex fun _ _ y => y) hs)
  obtain ⟨t₁, dv, H₁, i₁, S₁, q₁⟩ := z
  refine wpAny_mono (q₁.run s₁ S₁) (fun vo s₂ z => ?_) fun x s' z => z.ex fun _ _ y => y
  obtain ⟨t₂, do_, H₂, i₂, S₂, x, dx, fs, fs', rfl, I, hfew, hfs, k⟩ := z
  obtain rfl := is_raw i₂
  refine e3a6 (I.at S₂) fun od od' mv e0 IA g n pn q => ?_
  refine e1a2 (any_some PC.has) fun cd hc hh => ?_
  have X := in_of KX S₂
  refine set_plain X IA PC.sa (osa_open (s := { s₂ with toks := s₂.toks + 1 }) X IA PC.over ht fun b => ?_)
  have X' : K.In ({ s₂ with toks := s₂.toks + 1 } : Shared).heap := X
  refine wpAny_bind (wpAny_pure (wpAny_bind (wpAny_bind (wpAny_loadPart IA.at_ (wpAny_bind ((looks_clsIn X' hc).here ?_))))))
  rw [hh]
  refine wpAny_pure (a := some dx) (wpAny_bind (wpAny_pure (wpAny_bind (wpAny_nsSet1 (s := { s₂ with toks := s₂.toks + 1 }) n fun h' n' sb => ?_))))
  have nt : Tk s₂.heap h' := fun b o₁ _ _ e cl dt => ⟨o₁, by
    by_cases z : b = dx
    · subst z; refine e3a3 n fun o' es ep g' dd _ => ?_; clear n; rw [g'] at e; cases e; rw [dd] at dt; cases dt
    · exact sb.extBut b o₁ z e, cl, dt⟩
  refine e3a2 (id n') fun o' es' ep' g' r' => ?_
  have iv : Is h' dv v := (i₁.tk t₂).tk nt
  have := S₂.upd (s' := { s₂ with heap := h', toks := s₂.toks + 1 + 1 }) (y := ⟨o', .attrs fs'⟩) e0 sb.extBut rfl rfl ⟨g', _, n', fun y hy => ?_, fun y d hy => ?_⟩
  · have sz := ns_size n' (fs := (name, dv) :: fs) (fun y hy => by
      by_cases z : y = name
      · subst z; simp at hy
      · rw [if_neg z]; refine pn y ?_
        rw [List.lookup_cons, show (y == name) = false from beq_false_of_ne z] at hy; exact hy) g' r'.1
    have hbig : 1000000 ≤ sizeLine := by decide
    have sz2 : es'.size ≤ sizeLine + 1 := by rw [List.length_cons] at sz; exact om112 hfew sz hbig
    exact wpAny_bind (wpAny_lookBehind g' (by rw [r'.1]; exact pastItsLine_dict sz2) (wpAny_pure ((k o').run _ this.1)))
  · rw [hfs] at hy
    by_cases z : y = name
    · rw [if_pos z] at hy; cases hy
    · rw [if_neg z] at hy; rw [if_neg z]; exact pn y hy
  · rw [hfs] at hy
    by_cases z : y = name
    · rw [if_pos z] at hy ⊢; cases hy; exact ⟨v, rfl, iv⟩
    · rw [if_neg z] at hy ⊢; refine e1a2 (q y d hy) fun u a b => ?_; exact ⟨u, a, b.tk nt⟩
theorem Room.make {k : Nat} {A : Around} (h : Room (k + 1) A) (C : Addr) (vs : List Value) : Room k (A.under (.builtin "type.__call__" ⟨.ref C :: vs, []⟩)) :=
  ⟨h.handled, by show A.depth + 1 + 3 * k + 10 < _; have := h.depth; exact om0 this, by show A.units + 1 + 12 * k + 200 < _; have := h.units; exact om113 this⟩
theorem Ev_make {K : Frag} (KX : K.In c.base) {C fI : Addr} {x : Str} {p₁ p : Pos} {e : Expr} {d : V} {k : Nat} (Kc : CxOk c) (g : GN c x (.ref C)) (R : Room (k + 1) f.A) (hfr : f.A.frames = some f.frs) (hm : makesIn K C = true) (hi : findIn K (.ref C) "__init__" = some (some (.ref fI))) (hf : typeIn K (.ref fI) = some (.type "function")) (hkp : keepIn K (.ref C) = true)
    (h1 : Pe c f e m H d)
    (h : ∀ xa dx oi od, H xa = none → H dx = none → xa ≠ dx → Fn c k (.ref fI) [.ref xa, d] ((H.set dx ⟨od, .attrs []⟩).set xa ⟨oi, .inst C dx⟩) (fun r H' => r = .none ∧ Q (.ref xa) H') X)
    (hg : f.env.globals = mainGlobals := by rfl) (hb : f.env.builtins = builtinsNs := by rfl)
    (hk : f.env.scope.kind = .function := by rfl) (hn : f.env.kindOf x = some .globalImplicit := by rfl) (hd : (x == ("__debug__" : Str)) = false := by decide) (he : starEach [e] f.env = (false, eval e f.env) :: starEach [] f.env := by rfl) : Ev c f (.Call (.Name x p₁) [e] [] p) m H Q X := .mk fun s S => by
  refine Call_ (wpAny_mono ((Pe_glob Kc g hg hb hk hn hd).run s S) (fun v s₁ z => ?_) fun _ _ z => ?_)
  · obtain ⟨t₁, d', H₁, i₁, S₁, rfl, rfl⟩ := z
    obtain rfl := is_raw i₁
    refine callWith_K (h₀ := c.base) KX hkp (wpAny_mono ((Pes_cons h1 Pes_nil he p).run s₁ S₁) (fun vs s₂ z => ?_) fun _ _ z => ?_) he rfl
    · obtain ⟨t₂, ds, H₂, i₂, S₂, rfl, rfl⟩ := z
      have X2 := in_of KX S₂
      refine ⟨X2, wpAny_call ?_⟩
      obtain ⟨hh, gg, dd, tt, os⟩ := s₂
      refine make_core (makes_of X2 hm) (looks_findIn X2 hi) (fun self => bind_fn X2 self hf) (.inl rfl) ?_
      have big := S₂.sizeBig Kc
      have S₃ := S₂.alloc (s' := ⟨hh.push emptyDict, gg, dd, tt, os⟩) (a := hh.objs.size) (x := ⟨emptyDict, .attrs []⟩) (Grow.push _ _) rfl rfl (none_size _) big
        ⟨Heap.get?_push_size _ rfl, _, Heap.Ns1.of_empty (Heap.Ns.new _ _), fun _ _ => rfl, fun _ _ e => nomatch e⟩
      have S₄ := S₃.alloc (s' := ⟨(hh.push emptyDict).push (instObj C hh.objs.size), gg, dd, tt, os⟩) (a := hh.objs.size + 1) (x := ⟨instObj C hh.objs.size, .inst C hh.objs.size⟩) (Grow.push _ _) rfl rfl
        (by have := none_size (hh.push emptyDict); rwa [Heap.size_push] at this) (Nat.lt_succ_of_lt big) (by
          have : ((hh.push emptyDict).push (instObj C hh.objs.size)).get? (hh.objs.size + 1) = some (instObj C hh.objs.size) := by
            have := Heap.get?_push_size (hh.push emptyDict) (o := instObj C hh.objs.size) rfl
            rwa [Heap.size_push] at this
          exact ⟨this, this⟩)
      have n1 := S₂.apartOf (none_size hh)
      have n2 := S₂.apartOf (a := hh.objs.size + 1) (by
        cases q : hh.get? (hh.objs.size + 1) with
        | none => rfl
        | some o => exact absurd (Heap.lt_size q) (Nat.not_lt.mpr (Nat.le_succ _)))
      have ii : IsAll ((hh.push emptyDict).push (instObj C hh.objs.size)) [.ref (hh.objs.size + 1), d] (.ref (hh.objs.size + 1) :: vs) := isAll_cons (mk_raw) (i₂.tk ((Grow.push _ _).trans (Grow.push _ _)).tk)
      refine codeAny_mono (Fn.opA (h (hh.objs.size + 1) hh.objs.size _ _ n2.1 n1.1 (Nat.succ_ne_self _)) (R.make C vs) hfr S₄ ii) fun r s' z => ?_
      cases r with
      | error x => exact z
      | ok fl => cases fl with
        | ret v =>
          obtain ⟨t₃, d₃, H₃, i₃, S₃', rfl, q⟩ := z
          refine ⟨is_raw i₃, t₁.trans (t₂.trans (((Grow.push _ _).trans (Grow.push _ _)).tk.trans t₃)), _, H₃, mk_raw, S₃', q⟩
        | _ => exact z.elim
    · refine e3a4 z fun _ _ _ _ _ _ rq160 => ?_; clear z; have z := rq160; clear rq160; exact z.elim
  · refine e3a4 z fun _ _ _ _ _ _ rq161 => ?_; clear z; have z := rq161; clear rq161; exact z.elim
end
end Mine
set_option maxRecDepth 100000
set_option linter.unusedVariables false
namespace Mine
open PySem PyProof.Rows PySem.Builtin PySem.W PySem.Calls
theorem bt_reversed : bootBuiltins (Str.ofString "reversed") = some (.type "reversed") := by decide +kernel
section
variable {c : Cx} {f : Fx} {m : Loc} {H : AH} {X : Value → AH → Prop}
theorem EvIt_rev {x : Str} {p₁ p : Pos} {e : Expr} {Q : List V → List Addr → AH → Prop} (hh : f.A.handled = none)
    (h : Ev c f (.Name x p₁) m H (fun d H' => d = .raw (.type "reversed") ∧ Ev c f e m H' (fun d H₁ => ∃ a ds, d = .ref a ∧ ListAt H₁ a ds ∧ Q ds.reverse [a] H₁) X) X)
    (he : starEach [e] f.env = [(false, eval e f.env)] := by rfl) : EvIt c f (.Call (.Name x p₁) [e] [] p) m H Q X := .mk fun s S => by
  refine PyProof.Rows.Call_ (wpAny_mono (h s S) (fun v s₁ z => ?_) fun _ _ x => x)
  obtain ⟨t₁, d, H₁, i₁, S₁, rfl, q₁⟩ := z
  obtain rfl := is_raw i₁
  refine PyProof.Rows.callWith_type1 (PyProof.Rows.args_cons (wpAny_mono (q₁ s₁ S₁) (fun v s₂ z => ?_) fun _ _ x => x) he) he rfl
  obtain ⟨t₂, d, H₂, i₂, S₂, a, ds, rfl, ⟨o, ha⟩, q⟩ := z
  obtain rfl := is_raw i₂
  refine e2a5 (S₂.rep.list ha) fun vs n g c1 c2 c3 ia => ?_
  have hl : s₂.heap.IsList a vs.toArray := ⟨o, g, c1, n, c3⟩
  have hI := none_size s₂.heap
  refine e0a6 (S₂.apartOf hI) fun _ b2 _ _ _ b6 => ?_
  have hne : a ≠ s₂.heap.objs.size := Nat.ne_of_lt (Heap.lt_size g)
  have hit : (s₂.heap.push (revObj a ((vs.toArray.size : Int) - 1))).IsRevIter s₂.heap.objs.size a ((vs.toArray.size : Int) - 1) := ⟨_, Heap.get?_push_size _ rfl, rfl, rfl⟩
  refine PyProof.Rows.args_nil (call_reversed_list hl (wpAny_pyIter_revIter hit ⟨_, ds.reverse, [a], H₂, rfl, t₁.trans (t₂.trans (Grow.push _ _).tk), S₂.grow (Grow.push _ _) rfl rfl, b2, b6, ?_, q⟩))
  have W := Walks.listRev (prog := c.prog) (w := c.w) hh s₂.heap.objs.size a hne vs.toArray
  have hsz : vs.toArray.size = ds.length := by rw [List.size_toArray]; exact ia.length
  have hsz' : vs.toArray.size = ds.reverse.length := by rw [hsz, List.length_reverse]
  rw [hsz'] at W hit
  refine ⟨_, _, _, W, ⟨Nat.zero_le _, ?_, hl.push _⟩, fun i h st => ?_, fun b hb => ?_, fun b hb => ?_, fun i v d H' h hP hd R B e => ?_⟩
  · rw [hsz']; simpa using hit
  · refine e0a3 st fun _ rq162 _ => ?_; clear st; obtain ⟨o, g, _, d⟩ := rq162; exact ⟨o, _, g, d⟩
  · simp only [List.mem_cons, List.not_mem_nil, or_false] at hb
    rcases hb with rfl | rfl
    · exact .inl rfl
    · exact .inr (.inl (.head _))
  · simp only [List.mem_cons, List.not_mem_nil, or_false] at hb; subst hb; exact ⟨_, ha⟩
  · refine e2a5 (R.list ((e a (.head _)).trans ha)) fun vs' n' g' _ _ c3' ia' => ?_
    rw [c3] at c3'
    injection c3' with hv _
    have : vs = vs' := by simpa using hv
    subst this
    have hi := (List.getElem?_eq_some_iff.mp hd).1
    rw [List.length_reverse] at hi
    rw [List.getElem?_reverse hi] at hd
    refine e1a2 (ia'.get hd) fun v' e1 e2 => ?_
    have : vs[ds.length - 1 - i]? = some v := by simpa using hP
    rw [this] at e1; cases e1; exact e2
end
structure Step (old new : List Nat) (a : Int) (gone come : List Nat) : Prop where
  h0 : 0 ≤ a
  h1 : a ≤ old.length
  fit : (old.take (a + gone.length).toNat).drop a.toNat = gone
  new : new = old.take a.toNat ++ come ++ old.drop (a + gone.length).toNat
theorem Step.gone_le {old new : List Nat} {a : Int} {gone come : List Nat} (S : Step old new a gone come) : gone.length ≤ old.length := by
  have := congrArg List.length S.fit
  rw [List.length_drop, List.length_take] at this; exact om114 this
theorem Step.come_le {old new : List Nat} {a : Int} {gone come : List Nat} (S : Step old new a gone come) : come.length ≤ new.length := by
  have := congrArg List.length S.new
  rw [List.length_append, List.length_append] at this; exact om115 this
abbrev chg (a : Int) (gone come : List Nat) : V := .tup [.int a, .s gone, .s come]
inductive Entry (kvs : List (Int × V)) (tx : Int → List Nat) (rk : Int → Nat) (k : Int) : V → Prop
  | root : Entry kvs tx rk k (.tup [.none, .s (tx k)])
  | lean (b a : Int) (gone come : List Nat) : Key kvs b → rk b < rk k → Step (tx b) (tx k) a gone come → Entry kvs tx rk k (.tup [.int b, chg a gone come])
structure Held (kvs : List (Int × V)) (tx : Int → List Nat) (rk : Int → Nat) : Prop where
  nd : (kvs.map (·.1)).Nodup
  few : kvs.length ≤ 40
  low : ∀ k, rk k ≤ 40
  ent : ∀ k d, dget kvs k = some d → Entry kvs tx rk k d
  short : ∀ k, Key kvs k → (tx k).length ≤ 20000
def base0 : V → V
  | .tup (b :: _) => b
  | _ => .none
def body0 : V → V
  | .tup [_, x] => x
  | _ => .none
def bases (kvs : List (Int × V)) : List (Int × V) := kvs.map fun p => (p.1, base0 p.2)
theorem dget_bases {kvs : List (Int × V)} {k : Int} : dget (bases kvs) k = (dget kvs k).map base0 := by
  unfold dget bases
  rw [List.find?_map]
  cases q : kvs.find? (fun kv => decide (kv.1 = k)) with
  | none => rw [show ((fun kv : Int × V => decide (kv.1 = k)) ∘ fun p : Int × V => (p.1, base0 p.2)) = fun kv => decide (kv.1 = k) from rfl, q]; rfl
  | some x => rw [show ((fun kv : Int × V => decide (kv.1 = k)) ∘ fun p : Int × V => (p.1, base0 p.2)) = fun kv => decide (kv.1 = k) from rfl, q]; rfl
theorem keys_bases (kvs : List (Int × V)) : (bases kvs).map (·.1) = kvs.map (·.1) := by unfold bases; rw [List.map_map]; rfl
theorem Held.wood {kvs : List (Int × V)} {tx : Int → List Nat} {rk : Int → Nat} (E : Held kvs tx rk) (hne : kvs ≠ []) : Wood (bases kvs) rk := by
  refine ⟨fun e => hne ?_, by unfold bases; rw [List.length_map]; exact E.few, E.low, fun k d hd => ?_⟩
  · exact List.map_eq_nil_iff.mp e
  · rw [dget_bases] at hd
    cases q : dget kvs k with
    | none => rw [q] at hd; cases hd
    | some x =>
      rw [q] at hd; cases hd
      cases E.ent k x q with
      | root => exact .inl rfl
      | lean b a gone come hb hlt st =>
        obtain ⟨d', e'⟩ := hb
        exact .inr ⟨b, base0 d', rfl, by rw [dget_bases, e']; rfl, hlt⟩
theorem Held.pair {kvs : List (Int × V)} {tx : Int → List Nat} {rk : Int → Nat} (E : Held kvs tx rk) {k : Int} {d : V} (h : dget kvs k = some d) : d = .tup [base0 d, body0 d] := by
  cases E.ent k d h with
  | root => rfl
  | lean b a gone come hb hlt st => rfl
section
variable {c : Cx} {f : Fx} {H : AH}
structure EqH (c : Cx) (H : AH) (n : Nat) (d₁ d₂ : V) (b : Bool) : Prop where
  eq : ∀ (f : Fx) (m : Loc) (s : Shared) (A : Around) (v₁ v₂ : Value), St c f m H s → A.units + 4 * n < cLine → Is s.heap d₁ v₁ → Is s.heap d₂ v₂ → SeqAt.EqAt A s v₁ v₂ b
  same : ∀ (f : Fx) (m : Loc) (s : Shared) (v : Value), St c f m H s → Is s.heap d₁ v → Is s.heap d₂ v → b = true
end
end Mine
set_option maxRecDepth 100000
set_option linter.unusedVariables false
namespace Mine
open PySem PyProof.Rows PySem.Builtin PySem.W PySem.Calls
section
variable {c : Cx} {f : Fx} {m : Loc} {H : AH} {X : Value → AH → Prop} {Q : V → AH → Prop}
structure Alike (c : Cx) (H : AH) (n : Nat) (d₁ d₂ : V) : Prop where
  eq : ∀ (s : Shared) (A : Around) (v₁ v₂ : Value), Rep c H s.heap → (∀ a x, H a = some x → cStatics < a) → A.units + 4 * n < cLine → Is s.heap d₁ v₁ → Is s.heap d₂ v₂ → SeqAt.EqAt A s v₁ v₂ true
theorem EqA.alike {n : Nat} {d₁ d₂ : V} (E : EqA n d₁ d₂ true) : Alike c H n d₁ d₂ := ⟨fun s A v₁ v₂ S B u i j => E.eq A s v₁ v₂ u i j⟩
theorem Alike.up {n k : Nat} {d₁ d₂ : V} (E : Alike c H n d₁ d₂) (h : n ≤ k) : Alike c H k d₁ d₂ := ⟨fun s A v₁ v₂ S B u i j => E.eq s A v₁ v₂ S B (by exact om116 h u) i j⟩
theorem Alike.int (n : Nat) (i : Int) : Alike c H n (.int i) (.int i) := Alike.up (EqA.alike (by simpa using EqA.int i i)) (Nat.zero_le n)
theorem Alike.str (n : Nat) (x : Str) : Alike c H n (.str x) (.str x) := Alike.up (EqA.alike (by simpa using EqA.str x x)) (Nat.zero_le n)
theorem Alike.none (n : Nat) : Alike c H n .none .none := Alike.up (EqA.alike EqA.none) (Nat.zero_le n)
theorem Alike.tup {n : Nat} {ds es : List V} (hl : ds.length = es.length) (he : ∀ (j : Nat) d₁ d₂, ds[j]? = some d₁ → es[j]? = some d₂ → Alike c H n d₁ d₂) : Alike c H (n + 1) (.tup ds) (.tup es) where
  eq := fun s A v₁ v₂ S B u i j => by
    simp only [Is] at i j
    refine e2a3 i fun a us rq163 rq164 ia => ?_; clear i; obtain rfl := rq163; obtain ⟨o, k, g, cl, dt⟩ := rq164
    refine e2a3 j fun a' us' rq165 rq166 ia' => ?_; clear j; obtain rfl := rq165; obtain ⟨o', k', g', cl', dt'⟩ := rq166
    by_cases q : a = a'
    · subst q; exact SeqAt.EqAt.same _
    · have := SeqAt.RcAt.tuples (A := A) (s := s) (l := a) (b := a') (items := us.toArray) (items2 := us'.toArray) (e := fun _ => true) ⟨o, g, cl, k, dt⟩ ⟨o', g', cl', k', dt'⟩ (by exact om43 u) (fun j h1 h2 => by
        simp only [List.size_toArray] at h1 h2
        refine e1a2 (ia.at h1) fun d₁ q₁ i₁ => ?_
        refine e1a2 (ia'.at h2) fun d₂ q₂ i₂ => ?_
        exact (he j d₁ d₂ q₁ q₂).eq _ _ _ _ S B (by have := in1_units A; exact om44 u this) i₁ i₂)
      simp only [List.size_toArray, ia.length, ia'.length, hl, Nat.min_self, beq_self_eq_true, Bool.and_true] at this
      have e1 : (List.range es.length).all (fun _ => true) = true := by simp
      rw [e1] at this
      exact SeqAt.EqAt.of_refs q this
theorem Alike.list {n : Nat} {a b : Addr} {ds es : List V} (ha : ListAt H a ds) (hb : ListAt H b es) (hl : ds.length = es.length) (he : ∀ (j : Nat) d₁ d₂, ds[j]? = some d₁ → es[j]? = some d₂ → Alike c H n d₁ d₂) : Alike c H (n + 1) (.ref a) (.ref b) where
  eq := fun s A v₁ v₂ S B u i j => by
    obtain rfl := is_raw i; obtain rfl := is_raw j
    by_cases q : a = b
    · subst q; exact SeqAt.EqAt.same _
    refine e1a2 (S.plain ha) fun us rq167 ia => ?_; obtain ⟨o, k, g, cl, dn, dt⟩ := rq167
    refine e1a2 (S.plain hb) fun us' rq168 ia' => ?_; obtain ⟨o', k', g', cl', dn', dt'⟩ := rq168
    have := SeqAt.RcAt.lists (A := A) (s := s) (l := a) (b := b) (items := us.toArray) (items2 := us'.toArray) (e := fun _ => true) ⟨o, g, cl, k, dt⟩ ⟨o', g', cl', k', dt'⟩ (by rw [List.size_toArray, List.size_toArray, ia.length, ia'.length, hl]) (by exact om43 u) (fun j h1 h2 => by
        simp only [List.size_toArray] at h1 h2
        refine e1a2 (ia.at h1) fun d₁ q₁ i₁ => ?_
        refine e1a2 (ia'.at h2) fun d₂ q₂ i₂ => ?_
        exact (he j d₁ d₂ q₁ q₂).eq _ _ _ _ S B (by have := in1_units A; exact om44 u this) i₁ i₂)
    have e1 : (List.range us.toArray.size).all (fun _ => true) = true := by simp
    rw [e1] at this
    exact SeqAt.EqAt.of_refs q this
theorem B_nelT {n : Nat} {a b : Addr} {ds es : List V} (ha : ListAt H a ds) (hb : ListAt H b es) (hl : ds.length = es.length) (he : ∀ (j : Nat) d₁ d₂, ds[j]? = some d₁ → es[j]? = some d₂ → Alike c H n d₁ d₂) (hu : f.A.units + 4 * (n + 1) < cLine) :
    B2 c f H (compareOp .NotEq) (.ref a) (.ref b) (.bool false) := .mk fun m s v₁ v₂ S i j => by
  obtain rfl := is_raw i; obtain rfl := is_raw j
  refine e1a2 (S.rep.plain ha) fun us rq169 ia => ?_; obtain ⟨o, k, g, cl, dn, dt⟩ := rq169
  refine e1a2 (S.rep.plain hb) fun us' rq170 ia' => ?_; obtain ⟨o', k', g', cl', dn', dt'⟩ := rq170
  have := SeqAt.RcNeAt.lists (A := f.A) (s := s) (l := a) (b := b) (e := fun _ => true) (items := us.toArray) (items2 := us'.toArray) ⟨o, g, cl, k, dt⟩ ⟨o', g', cl', k', dt'⟩ (by rw [List.size_toArray, List.size_toArray, ia.length, ia'.length, hl]) (by exact om43 hu) (fun j h1 h2 => by
        simp only [List.size_toArray] at h1 h2
        refine e1a2 (ia.at h1) fun d₁ q₁ i₁ => ?_
        refine e1a2 (ia'.at h2) fun d₂ q₂ i₂ => ?_
        exact (he j d₁ d₂ q₁ q₂).eq _ _ _ _ S.rep S.big (by have := in1_units f.A; exact om44 hu this) i₁ i₂)
  have e1 : (!(List.range us.toArray.size).all (fun _ => true)) = false := by simp
  rw [e1] at this
  exact this c.prog c.w _ _ ⟨Grow.refl _, rfl, rfl, mk_raw⟩
theorem O_copy {a : Addr} {ds : List V} (K : CxOk c) (h : ListAt H a ds) (hsz : ds.length ≤ sizeLine) (q : ∀ b o, H b = none → Q (.ref b) (H.set b ⟨o, .list ds⟩)) : OpN c f (fun vs => call (.type "list") vs) [.ref a] m H Q X := .mk fun s vs S ia => by
  simp only [IsAll] at ia; refine e2a3 ia fun v r rq171 i rq172 => ?_; clear ia; obtain rfl := rq171; obtain rfl := rq172
  obtain rfl := is_raw i
  obtain ⟨o, eo⟩ := h
  refine e2a5 (S.rep.list eo) fun us n g c1 c2 c3 ja => ?_
  refine call_list_seq (hsz := by rw [List.size_toArray, ja.length]; exact hsz) a (.inl rfl) g c1 c3 fun h' c' gr hD => ?_
  have gr : Grow s.heap h' := gr
  exact ⟨gr.tk, .ref _, _, mk_raw, S.alloc (s' := { s with heap := h' }) (x := ⟨_, .list ds⟩) gr rfl rfl (size_none _) (S.sizeBig K) ⟨hD, us, ⟨_, c', hD, rfl, rfl, rfl⟩, ja.tk gr.tk⟩, q _ _ S.sizeH⟩
theorem IsAll.take {h : Heap} : ∀ {ds : List V} {vs : List Value} (n : Nat), IsAll h ds vs → IsAll h (ds.take n) (vs.take n)
  | ds, vs, 0, x => by simp [IsAll]
  | [], _, n + 1, x => by simp only [IsAll] at x; subst x; simp [IsAll]
  | d :: ds, _, n + 1, x => by
    simp only [IsAll] at x
    refine e2a3 x fun v r rq173 y z => ?_; clear x; obtain rfl := rq173
    simp only [List.take_succ_cons, IsAll]
    exact ⟨v, _, rfl, y, IsAll.take n z⟩
theorem Pe_globI {x : Str} {p : Pos} {i : Int} {t : Tok} (K : CxOk c) (hx : GN c x (.int i t)) (hg : f.env.globals = mainGlobals := by rfl) (hb : f.env.builtins = builtinsNs := by rfl)
    (hk : f.env.scope.kind = .function := by rfl) (hn : f.env.kindOf x = some .globalImplicit := by rfl) (hd : (x == ("__debug__" : Str)) = false := by decide) : Pe c f (.Name x p) m H (.int i) := .mk fun s S =>
  wpAny_mono ((Pe_glob K hx hg hb hk hn hd).run s S) (fun v s' ⟨t₁, d, H', i₁, S', e1, e2⟩ => by subst e1; obtain rfl := is_raw i₁; exact ⟨t₁, .int i, H', mk_int, S', rfl, e2⟩) fun _ _ z => z
end
end Mine
set_option maxRecDepth 100000
set_option linter.unusedVariables false
namespace Mine
open PySem
theorem sorted_uniq : ∀ {l l' : List Int}, l.Perm l' → l.Pairwise (· ≤ ·) → l'.Pairwise (· ≤ ·) → l = l'
  | [], l', p, _, _ => (List.nil_perm.mp p).symm
  | x :: r, l', p, s, s' => by
    cases l' with
    | nil => exact absurd p.symm (by simp)
    | cons y r' =>
      rw [List.pairwise_cons] at s s'
      have hx : x ∈ y :: r' := p.mem_iff.mp (.head _)
      have hy : y ∈ x :: r := p.mem_iff.mpr (.head _)
      have e : x = y := by
        rcases List.mem_cons.mp hx with e | hx
        · exact e
        · rcases List.mem_cons.mp hy with e | hy
          · exact e.symm
          · have a := s.1 y hy; have b := s'.1 x hx; exact om117 a b
      subst e
      rw [sorted_uniq (List.perm_cons x |>.mp p) s.2 s'.2]
structure Srt (kvs : List (Int × V)) (srt : List Int) : Prop where
  pm : srt.Perm (kvs.map (·.1))
  pw : srt.Pairwise (· ≤ ·)
theorem Srt.uniq {kvs : List (Int × V)} {s s' : List Int} (h : Srt kvs s) (h' : Srt kvs s') : s = s' := sorted_uniq (h.pm.trans h'.pm.symm) h.pw h'.pw
theorem Srt.mem {kvs : List (Int × V)} {s : List Int} (h : Srt kvs s) {k : Int} : k ∈ s ↔ Key kvs k := by rw [h.pm.mem_iff, key_iff]
theorem Srt.nd {kvs : List (Int × V)} {s : List Int} (h : Srt kvs s) (nd : (kvs.map (·.1)).Nodup) : s.Nodup := h.pm.nodup_iff.mpr nd
theorem Srt.len {kvs : List (Int × V)} {s : List Int} (h : Srt kvs s) : s.length = kvs.length := by have := h.pm.length_eq; simpa using this
def dgetD (kvs : List (Int × V)) (k : Int) : V := (dget kvs k).getD .none
theorem dgetD_of {kvs : List (Int × V)} {k : Int} {d : V} (h : dget kvs k = some d) : dgetD kvs k = d := by unfold dgetD; rw [h]; rfl
theorem dgetD_key {kvs : List (Int × V)} {k : Int} (h : Key kvs k) : dget kvs k = some (dgetD kvs k) := by obtain ⟨d, e⟩ := h; rw [dgetD_of e, e]
def row (kvs : List (Int × V)) (k : Int) : V := .tup [.int k, base0 (dgetD kvs k), body0 (dgetD kvs k)]
def rowsOf (kvs : List (Int × V)) (srt : List Int) : List V := srt.map (row kvs)
def heldOf (kvs : List (Int × V)) (srt : List Int) : List (Int × V) := srt.map fun k => (k, dgetD kvs k)
theorem keys_heldOf (kvs : List (Int × V)) (srt : List Int) : (heldOf kvs srt).map (·.1) = srt := by unfold heldOf; rw [List.map_map]; simp [Function.comp_def]
theorem dget_heldOf {kvs : List (Int × V)} {srt : List Int} (h : Srt kvs srt) (k : Int) : dget (heldOf kvs srt) k = dget kvs k := by
  by_cases hk : Key kvs k
  · rw [heldOf, dget_map (g := fun k => dgetD kvs k) (h.mem.mpr hk), dgetD_key hk]
  · have e1 : dget kvs k = none := by cases q : dget kvs k with | none => rfl | some d => exact (hk ⟨d, q⟩).elim
    rw [e1, dget_none, keys_heldOf]
    exact fun q => hk (h.mem.mp q)
def Sim (kvs kvs' : List (Int × V)) : Prop := ∀ k, dget kvs k = dget kvs' k
theorem Sim.key {kvs kvs' : List (Int × V)} (h : Sim kvs kvs') {k : Int} : Key kvs k ↔ Key kvs' k := by unfold Key; rw [h k]
theorem perm_of_nodup {l l' : List Int} (n : l.Nodup) (n' : l'.Nodup) (h : ∀ x, x ∈ l ↔ x ∈ l') : l.Perm l' := by
  induction l generalizing l' with
  | nil => cases l' with
    | nil => exact .refl _
    | cons y r => exact absurd ((h y).mpr (.head _)) (by simp)
  | cons x r ih =>
    rw [List.nodup_cons] at n
    have hx : x ∈ l' := (h x).mp (.head _)
    refine (List.Perm.cons x (ih n.2 (n'.erase x) fun y => ?_)).trans (List.perm_cons_erase hx).symm
    rw [n'.mem_erase_iff]
    constructor
    · intro hy; exact ⟨fun e => n.1 (e ▸ hy), (h y).mp (.tail _ hy)⟩
    · rintro ⟨hne, hy⟩
      rcases List.mem_cons.mp ((h y).mpr hy) with e | e
      · exact (hne e).elim
      · exact e
theorem Sim.bases {kvs kvs' : List (Int × V)} (h : Sim kvs kvs') : Sim (bases kvs) (bases kvs') := fun k => by rw [dget_bases, dget_bases, h k]
theorem Sim.chain {kvs kvs' : List (Int × V)} (h : Sim kvs kvs') {k : Int} {xs : List Int} (c : IsChain kvs k xs) : IsChain kvs' k xs := by
  induction c with
  | stop e => exact .stop ((h _).symm.trans e)
  | step e _ ih => exact .step ((h _).symm.trans e) ih
theorem Entry.grow {kvs kvs' : List (Int × V)} {tx tx' : Int → List Nat} {rk : Int → Nat} {k : Int} {d : V} (E : Entry kvs tx rk k d) (hk : Key kvs k) (h : ∀ x, Key kvs x → Key kvs' x ∧ tx' x = tx x) : Entry kvs' tx' rk k d := by
  cases E with
  | root => rw [← (h k hk).2]; exact .root
  | lean b a gone come hb hlt st => exact .lean b a gone come (h b hb).1 hlt (by rw [(h b hb).2, (h k hk).2]; exact st)
theorem Held.sim {kvs kvs' : List (Int × V)} {tx : Int → List Nat} {rk : Int → Nat} (E : Held kvs tx rk) (h : Sim kvs kvs') (nd : (kvs'.map (·.1)).Nodup) (few : kvs'.length ≤ 40) : Held kvs' tx rk :=
  ⟨nd, few, E.low, fun k d hd => by rw [← h k] at hd; exact (E.ent k d hd).grow ⟨d, hd⟩ fun x hx => ⟨h.key.mp hx, rfl⟩, fun k hk => E.short k (h.key.mpr hk)⟩
theorem Held.put {kvs : List (Int × V)} {tx : Int → List Nat} {rk : Int → Nat} (E : Held kvs tx rk) {x : Int} {d : V} {l : List Nat} (hx : x ∉ kvs.map (·.1)) (hf : kvs.length < 40) (hl : l.length ≤ 20000)
    (hd : d = .tup [.none, .s l] ∨ ∃ b a gone come, d = .tup [.int b, chg a gone come] ∧ Key kvs b ∧ rk b < rk x ∧ Step (tx b) l a gone come) : Held (kvs ++ [(x, d)]) (fun y => if y = x then l else tx y) rk := by
  have kx : ∀ y, Key kvs y → y ≠ x := fun y hy e => hx (e ▸ key_iff.mp hy)
  have up : ∀ y, Key kvs y → Key (kvs ++ [(x, d)]) y ∧ (if y = x then l else tx y) = tx y := fun y hy => by
    refine ⟨?_, if_neg (kx y hy)⟩
    rw [key_iff, List.map_append]; exact List.mem_append.mpr (.inl (key_iff.mp hy))
  refine ⟨?_, by rw [List.length_append]; exact hf, E.low, fun k d' hk => ?_, fun k hk => ?_⟩
  · rw [List.map_append, List.nodup_append]
    refine ⟨E.nd, by simp, fun a ha b hb => ?_⟩
    simp at hb; subst hb
    exact fun e => hx (e ▸ ha)
  · rw [dget_snoc hx] at hk
    by_cases e : k = x
    · subst e
      rw [if_pos rfl] at hk; injection hk with hk; subst hk
      rcases hd with rfl | ⟨b, a, gone, come, rfl, hb, hlt, st⟩
      · have := Entry.root (kvs := kvs ++ [(k, V.tup [.none, .s l])]) (tx := fun y => if y = k then l else tx y) (rk := rk) (k := k)
        simpa using this
      · refine .lean b a gone come (up b hb).1 hlt ?_
        rw [(up b hb).2, if_pos rfl]; exact st
    · rw [if_neg e] at hk
      exact (E.ent k d' hk).grow ⟨d', hk⟩ up
  · by_cases e : k = x
    · rw [if_pos e]; exact hl
    · rw [if_neg e]
      refine E.short k ?_
      rw [key_iff, List.map_append] at hk
      rcases List.mem_append.mp hk with q | q
      · exact key_iff.mpr q
      · simp at q; exact (e q).elim
theorem Held.nil {tx : Int → List Nat} {rk : Int → Nat} (h : ∀ k, rk k ≤ 40) : Held [] tx rk :=
  ⟨by simp, by simp, h, (fun k d e => nomatch e), (fun k ⟨d, e⟩ => nomatch e)⟩
theorem Held.chain {kvs : List (Int × V)} {tx : Int → List Nat} {rk : Int → Nat} (E : Held kvs tx rk) {k : Int} (hk : Key kvs k) : ∃ xs, IsChain (bases kvs) k xs ∧ xs.length ≤ 41 := by
  have hne : kvs ≠ [] := fun e => by subst e; obtain ⟨d, q⟩ := hk; cases q
  obtain ⟨d, e⟩ := hk
  refine e1a2 ((E.wood hne).chain (rk k) k (base0 d) (Nat.le_refl _) (by rw [dget_bases, e]; rfl)) fun xs h l => ?_
  have := E.low k
  exact ⟨xs, h, by exact om88 l this⟩
def lenS : V → Int
  | .str x => x.length
  | _ => 0
def lenT : List V → Int
  | [_, g, c] => lenS g + lenS c
  | _ => 0
def lenB : V → Int
  | .str x => x.length
  | .tup l => lenT l
  | _ => 0
def lenE (d : V) : Int := lenB (body0 d)
def sumE (kvs : List (Int × V)) : List Int → Int
  | [] => 0
  | k :: r => lenE (dgetD kvs k) + sumE kvs r
theorem sumE_perm {kvs : List (Int × V)} {l l' : List Int} (p : l.Perm l') : sumE kvs l = sumE kvs l' := by
  induction p with
  | nil => rfl
  | cons x _ ih => simp only [sumE, ih]
  | swap x y l => simp only [sumE]; exact om118
  | trans _ _ ih1 ih2 => exact ih1.trans ih2
theorem sumE_snoc {kvs : List (Int × V)} (l : List Int) (k : Int) : sumE kvs (l ++ [k]) = sumE kvs l + lenE (dgetD kvs k) := by
  induction l with
  | nil => simp [sumE]
  | cons x r ih => simp only [List.cons_append, sumE, ih]; exact om119
section
variable {c : Cx} {H : AH}
theorem Entry.alike {kvs : List (Int × V)} {tx : Int → List Nat} {rk : Int → Nat} {k : Int} {d : V} (E : Entry kvs tx rk k d) : Alike c H 2 (base0 d) (base0 d) ∧ Alike c H 2 (body0 d) (body0 d) := by
  cases E with
  | root => exact ⟨Alike.none _, Alike.str _ _⟩
  | lean b a gone come hb hlt st =>
    refine ⟨Alike.int _ _, Alike.up (Alike.tup (n := 0) rfl fun j d₁ d₂ h₁ h₂ => ?_) (by decide)⟩
    rw [h₁] at h₂; cases h₂
    match j, h₁ with
    | 0, h => cases h; exact Alike.int _ _
    | 1, h => cases h; exact Alike.str _ _
    | 2, h => cases h; exact Alike.str _ _
theorem Held.alike_row {kvs : List (Int × V)} {tx : Int → List Nat} {rk : Int → Nat} (E : Held kvs tx rk) {k : Int} (hk : Key kvs k) : Alike c H 3 (row kvs k) (row kvs k) := by
  have e := (E.ent k _ (dgetD_key hk)).alike (c := c) (H := H)
  refine Alike.tup rfl fun j d₁ d₂ h₁ h₂ => ?_
  rw [h₁] at h₂; cases h₂
  match j, h₁ with
  | 0, h => cases h; exact Alike.int _ _
  | 1, h => cases h; exact e.1
  | 2, h => cases h; exact e.2
theorem Held.alike_rows {kvs : List (Int × V)} {tx : Int → List Nat} {rk : Int → Nat} (E : Held kvs tx rk) {srt : List Int} (S : Srt kvs srt) : ∀ (j : Nat) d₁ d₂, (rowsOf kvs srt)[j]? = some d₁ → (rowsOf kvs srt)[j]? = some d₂ → Alike c H 3 d₁ d₂ := fun j d₁ d₂ h₁ h₂ => by
  rw [h₁] at h₂; cases h₂
  refine e1a2 (map_item h₁) fun k hk rq174 => ?_; obtain rfl := rq174
  exact E.alike_row (S.mem.mp (List.mem_of_getElem? hk))
end
end Mine
set_option maxRecDepth 100000
set_option linter.unusedVariables false
namespace Mine
open PySem PyProof.Rows PySem.Builtin PySem.W PySem.Calls
section
variable {c : Cx} {f : Fx} {m : Loc} {H : AH} {X : Value → AH → Prop} {Q : V → AH → Prop}
theorem Ev_M1 {K : Frag} (KX : K.In c.base) {C : Addr} (PC : Plain K C) {o e : Expr} {name : Str} {ap p : Pos} {x dx fa : Addr} {of : Obj} {fd : FuncData} {fs : List (Str × V)} {k : Nat} {d : V} (R : Room k f.A) (hfr : f.A.frames = some f.frs)
    (ho : Pe c f o m H (.ref x)) (I : InstIs H x C dx fs) (hl : fs.lookup name = none) (hf : findIn K (.ref C) name = some (some (.ref fa))) (ht : typeIn K (.ref fa) = some (.type "function")) (hof : c.base.get? fa = some of) (hfd : of.data = .func fd)
    (he : Pe c f e m H d) (h : Fn c k (.ref fa) [.ref x, d] H Q X)
    (hbase : attributeBase o name f.env (eval o f.env) = eval o f.env := by rfl)
    (hfew : methodCallForm ([e].length + ([] : List Keyword).length) (backTo p (starEach [e] f.env)) (backToKw p (keywordEach [] f.env)) = true := by rfl)
    (hline : (ap.endLine == p.line) = true := by rfl) (hst : starEach [e] f.env = (false, eval e f.env) :: starEach [] f.env := by rfl) : Ev c f (.Call (.Attribute o name ap) [e] [] p) m H Q X :=
  Ev_M KX PC R hfr ho I hl hf ht hof hfd (Evs_cons (he.ev (Evs_nil h)) hst) hbase hfew hline hst
theorem Ev_M2 {K : Frag} (KX : K.In c.base) {C : Addr} (PC : Plain K C) {o e e2 : Expr} {name : Str} {ap p : Pos} {x dx fa : Addr} {of : Obj} {fd : FuncData} {fs : List (Str × V)} {k : Nat} {d d2 : V} (R : Room k f.A) (hfr : f.A.frames = some f.frs)
    (ho : Pe c f o m H (.ref x)) (I : InstIs H x C dx fs) (hl : fs.lookup name = none) (hf : findIn K (.ref C) name = some (some (.ref fa))) (ht : typeIn K (.ref fa) = some (.type "function")) (hof : c.base.get? fa = some of) (hfd : of.data = .func fd)
    (he : Pe c f e m H d) (he2 : Pe c f e2 m H d2) (h : Fn c k (.ref fa) [.ref x, d, d2] H Q X)
    (hbase : attributeBase o name f.env (eval o f.env) = eval o f.env := by rfl)
    (hfew : methodCallForm ([e, e2].length + ([] : List Keyword).length) (backTo p (starEach [e, e2] f.env)) (backToKw p (keywordEach [] f.env)) = true := by rfl)
    (hline : (ap.endLine == p.line) = true := by rfl) (hst : starEach [e, e2] f.env = (false, eval e f.env) :: starEach [e2] f.env := by rfl) (hst2 : starEach [e2] f.env = (false, eval e2 f.env) :: starEach [] f.env := by rfl) : Ev c f (.Call (.Attribute o name ap) [e, e2] [] p) m H Q X :=
  Ev_M KX PC R hfr ho I hl hf ht hof hfd (Evs_cons (he.ev (Evs_cons (he2.ev (Evs_nil h)) hst2)) hst) hbase hfew hline hst
end
end Mine
set_option maxRecDepth 100000
set_option linter.unusedVariables false
namespace Mine
open PySem
structure Chg (old new : List Nat) (a e : Nat) : Prop where
  le : a + e ≤ old.length
  le' : a + e ≤ new.length
  pre : old.take a = new.take a
  post : old.drop (old.length - e) = new.drop (new.length - e)
  stopA : a = min old.length new.length ∨ old[a]? ≠ new[a]?
  stopE : a + e = min old.length new.length ∨ old[old.length - 1 - e]? ≠ new[new.length - 1 - e]?
theorem part3 (l : List Nat) {p a b : Nat} (h1 : p ≤ a) (h2 : a ≤ b) (h3 : b ≤ l.length) : (l.take a).drop p ++ (l.take b).drop a = (l.take b).drop p := by
  have e1 : l.take a = (l.take b).take a := by rw [List.take_take, Nat.min_eq_left h2]
  rw [e1]
  generalize hq : l.take b = q
  have hl : q.length = b := by rw [← hq, List.length_take]; exact om120 h3
  apply List.ext_getElem
  · simp only [List.length_append, List.length_drop, List.length_take]; rw [hl, Nat.min_eq_left h2]; exact om121 h1 h2
  · intro i h4 h5
    rw [List.getElem_append]
    simp only [List.length_drop, List.length_take, List.getElem_drop, List.getElem_take]
    split
    · rfl
    · congr 1; simp only [List.length_drop, List.length_append, List.length_take] at *; exact om122 h1 (by assumption) h5
theorem Chg.step {old new : List Nat} {a e p : Nat} (C : Chg old new a e) (h : p ≤ a) : Step old new p ((old.take a).drop p ++ (old.take (old.length - e)).drop a) ((old.take a).drop p ++ (new.take (new.length - e)).drop a) := by
  have h1 := C.le; have h2 := C.le'
  have eg : (old.take a).drop p ++ (old.take (old.length - e)).drop a = (old.take (old.length - e)).drop p := part3 old h (by exact om123 h1) (by exact om124)
  have ec : (old.take a).drop p ++ (new.take (new.length - e)).drop a = (new.take (new.length - e)).drop p := by rw [C.pre]; exact part3 new h (by exact om123 h2) (by exact om124)
  rw [eg, ec]
  have lg : ((old.take (old.length - e)).drop p).length = old.length - e - p := by rw [List.length_drop, List.length_take]; exact om125
  have et : ((p : Int) + (((old.take (old.length - e)).drop p).length : Nat)).toNat = old.length - e := by rw [lg]; exact om126 h h1
  refine ⟨by exact om127, by exact om128 h h1, ?_, ?_⟩
  · rw [et]; rfl
  · rw [et, C.post, Int.toNat_natCast]
    have ep : old.take p = (new.take (new.length - e)).take p := by
      rw [List.take_take, Nat.min_eq_left (by exact om129 h h2)]
      have := congrArg (List.take p) C.pre
      rwa [List.take_take, List.take_take, Nat.min_eq_left h] at this
    rw [ep, List.take_append_drop, List.take_append_drop]
end Mine
set_option maxRecDepth 100000
set_option linter.unusedVariables false
namespace Mine
open PySem PyProof.Rows PySem.Builtin PySem.W PySem.Calls
section
variable {c : Cx} {f : Fx} {m : Loc} {H : AH} {X : Value → AH → Prop} {Q : V → AH → Prop}
theorem Ev_F3 {x : Str} {p₁ p : Pos} {e e₂ e₃ : Expr} {fa : Addr} {o : Obj} {fd : FuncData} {k : Nat} {d d₂ d₃ : V} (K : CxOk c) (g : GN c x (.ref fa)) (ho : c.base.get? fa = some o) (hfd : o.data = .func fd) (R : Room k f.A) (hf : f.A.frames = some f.frs) (h1 : Pe c f e m H d) (h2 : Pe c f e₂ m H d₂) (h3 : Pe c f e₃ m H d₃) (h : Fn c k (.ref fa) [d, d₂, d₃] H Q X) (hg : f.env.globals = mainGlobals := by rfl) (hb : f.env.builtins = builtinsNs := by rfl)
    (hk : f.env.scope.kind = .function := by rfl) (hn : f.env.kindOf x = some .globalImplicit := by rfl) (hd : (x == ("__debug__" : Str)) = false := by decide) (he : starEach [e, e₂, e₃] f.env = (false, eval e f.env) :: starEach [e₂, e₃] f.env := by rfl) (he2 : starEach [e₂, e₃] f.env = (false, eval e₂ f.env) :: starEach [e₃] f.env := by rfl) (he3 : starEach [e₃] f.env = (false, eval e₃ f.env) :: starEach [] f.env := by rfl) : Ev c f (.Call (.Name x p₁) [e, e₂, e₃] [] p) m H Q X :=
  Ev_call ho hfd R hf ((Pe_glob K g hg hb hk hn hd).ev ⟨rfl, (Pes_cons h1 (Pes_cons h2 (Pes_cons h3 Pes_nil he3) he2) he).evs h⟩) he
end
end Mine
set_option maxRecDepth 100000
set_option linter.unusedVariables false
namespace Mine
open PySem PyProof.Rows PySem.Builtin PySem.W PySem.Calls
section
variable {c : Cx} {f : Fx} {m : Loc} {H : AH} {X : Value → AH → Prop} {Q : V → AH → Prop}
theorem B_ne_none : B2 c f H (compareOp .NotEq) .none .none (.bool false) := .mk fun m s v₁ v₂ S i₁ i₂ => by
  obtain rfl := is_raw i₁; obtain rfl := is_raw i₂
  exact PySem.EqNone.ne_none_none ⟨Grow.refl _, rfl, rfl, mk_raw⟩
theorem Entry.neB {kvs : List (Int × V)} {tx : Int → List Nat} {rk : Int → Nat} {k : Int} {d : V} (E : Entry kvs tx rk k d) : B2 c f H (compareOp .NotEq) (base0 d) (base0 d) (.bool false) := by
  cases E with
  | root => exact B_ne_none
  | lean b a gone come hb hlt st => have := B_ne (c := c) (f := f) (H := H) (a := b) (b := b); rw [show (b != b) = false by simp] at this; exact this
end
end Mine
set_option maxRecDepth 100000
set_option linter.unusedVariables false
namespace Mine
open PySem
theorem IsChain.suffix {kvs : List (Int × V)} {n : Int} {xs : List Int} (h : IsChain kvs n xs) : ∀ x ∈ xs, ∃ ys, IsChain kvs x ys ∧ ys.length ≤ xs.length ∧ ∀ y ∈ ys, y ∈ xs := by
  induction h with
  | stop e => intro x hx; rw [List.mem_singleton] at hx; subst hx; exact ⟨_, .stop e, Nat.le_refl _, fun y hy => hy⟩
  | step e c ih =>
    intro x hx
    rcases List.mem_cons.mp hx with rfl | hx
    · exact ⟨_, .step e c, Nat.le_refl _, fun y hy => hy⟩
    · refine e1a3 (ih x hx) fun ys h1 h2 h3 => ?_
      exact ⟨ys, h1, by simp; exact om12 h2, fun y hy => .tail _ (h3 y hy)⟩
theorem IsChain.nodup {kvs : List (Int × V)} {n : Int} {xs : List Int} (h : IsChain kvs n xs) : xs.Nodup := by
  induction h with
  | stop e => simp
  | step e c ih =>
    rw [List.nodup_cons]
    refine ⟨fun hm => ?_, ih⟩
    refine e1a3 (c.suffix _ hm) fun ys h1 h2 _ => ?_
    have := h1.uniq (.step e c)
    rw [this] at h2; simp at h2; exact om130 h2
theorem IsChain.keys {kvs : List (Int × V)} {n : Int} {xs : List Int} (h : IsChain kvs n xs) : ∀ x ∈ xs, Key kvs x := by
  induction h with
  | stop e => intro x hx; rw [List.mem_singleton] at hx; subst hx; exact ⟨_, e⟩
  | step e c ih =>
    intro x hx
    rcases List.mem_cons.mp hx with rfl | hx
    · exact ⟨_, e⟩
    · exact ih x hx
theorem key_bases {kvs : List (Int × V)} {k : Int} : Key (bases kvs) k ↔ Key kvs k := by rw [key_iff, key_iff, keys_bases]
theorem IsChain.few {kvs : List (Int × V)} {n : Int} {xs : List Int} (h : IsChain kvs n xs) : xs.length ≤ kvs.length := by
  have := nodup_le (l' := kvs.map (·.1)) h.nodup fun x hx => key_iff.mp (h.keys x hx)
  simpa using this
inductive Ent0 (kvs : List (Int × V)) (tx : Int → List Nat) (k : Int) : V → Prop
  | root : Ent0 kvs tx k (.tup [.none, .s (tx k)])
  | lean (b a : Int) (gone come : List Nat) : Key kvs b → Step (tx b) (tx k) a gone come → Ent0 kvs tx k (.tup [.int b, chg a gone come])
theorem Entry.ent0 {kvs : List (Int × V)} {tx : Int → List Nat} {rk : Int → Nat} {k : Int} {d : V} (E : Entry kvs tx rk k d) : Ent0 kvs tx k d := by
  cases E with
  | root => exact .root
  | lean b a gone come hb hlt st => exact .lean b a gone come hb st
theorem Held.of_chains {kvs : List (Int × V)} {tx : Int → List Nat} (nd : (kvs.map (·.1)).Nodup) (few : kvs.length ≤ 40) (ent : ∀ k d, dget kvs k = some d → Ent0 kvs tx k d) (ch : ∀ k, Key kvs k → ∃ xs, IsChain (bases kvs) k xs) (short : ∀ k, Key kvs k → (tx k).length ≤ 20000) : ∃ rk, Held kvs tx rk := by
  classical
  have val : ∀ k xs, IsChain (bases kvs) k xs → (if h : ∃ xs, IsChain (bases kvs) k xs then (Classical.choose h).length - 1 else 0) = xs.length - 1 := fun k xs h => by
    have hh : ∃ xs, IsChain (bases kvs) k xs := ⟨xs, h⟩
    rw [dif_pos hh, (Classical.choose_spec hh).uniq h]
  refine ⟨fun k => if h : ∃ xs, IsChain (bases kvs) k xs then (Classical.choose h).length - 1 else 0, nd, few, fun k => ?_, fun k d hd => ?_, short⟩
  · by_cases h : ∃ xs, IsChain (bases kvs) k xs
    · obtain ⟨xs, h⟩ := h
      have := h.few
      have e := val k xs h
      show (if h : ∃ xs, IsChain (bases kvs) k xs then (Classical.choose h).length - 1 else 0) ≤ 40
      rw [e]
      have : (bases kvs).length = kvs.length := by unfold bases; rw [List.length_map]
      exact om131 few (by assumption) this
    · show (if h : ∃ xs, IsChain (bases kvs) k xs then (Classical.choose h).length - 1 else 0) ≤ 40
      rw [dif_neg h]; exact om132
  · have e0 := ent k d hd
    cases e0 with
    | root => exact .root
    | lean b a gone come hb st =>
      refine .lean b a gone come hb ?_ st
      obtain ⟨xs, h⟩ := ch b hb
      have h2 : IsChain (bases kvs) k (k :: xs) := .step (by rw [dget_bases, hd]; rfl) h
      rw [val b xs h, val k (k :: xs) h2]
      obtain ⟨r, hr⟩ := h.head
      rw [hr]; simp
theorem dget_dset {kvs : List (Int × V)} {k : Int} {d : V} (x : Int) : dget (dset kvs k d) x = if x = k then some d else dget kvs x := by
  unfold dset
  split
  · rename_i h
    rw [List.any_eq_true] at h
    induction kvs with
    | nil => refine e1a2 h fun y hy _ => ?_; clear h; cases hy
    | cons p r ih =>
      simp only [List.map_cons]
      by_cases e : p.1 = k
      · simp only [e, if_true]
        by_cases q : x = k
        · subst q; simp [dget]
        · rw [if_neg q]
          have : ¬ k = x := fun z => q z.symm
          have hp : ¬ p.1 = x := fun z => q (z.symm.trans e)
          simp only [dget, List.find?, this, hp, decide_false]
          have key : ∀ l : List (Int × V), (l.map fun kv => if kv.1 = k then (k, d) else kv).find? (fun kv => decide (kv.1 = x)) = l.find? (fun kv => decide (kv.1 = x)) := by
            intro l
            induction l with
            | nil => rfl
            | cons s t iht =>
              simp only [List.map_cons, List.find?]
              by_cases e2 : s.1 = k
              · simp only [e2, if_true, this, decide_false]; exact iht
              · simp only [e2, if_false]
                by_cases e3 : s.1 = x
                · simp [e3]
                · simp only [e3, decide_false]; exact iht
          have fe : (fun kv : Int × V => if kv.1 = k then (kv.1, d) else kv) = fun kv => if kv.1 = k then (k, d) else kv := funext fun kv => by by_cases z : kv.1 = k <;> simp [z]
          rw [fe, key]
      · simp only [e, if_false]
        have hr : ∃ y ∈ r, decide (y.1 = k) = true := by
          refine e1a2 h fun y hy hk => ?_; clear h
          rcases List.mem_cons.mp hy with rfl | hy
          · simp at hk; exact (e hk).elim
          · exact ⟨y, hy, hk⟩
        have := ih hr
        by_cases e3 : p.1 = x
        · have hx : ¬ x = k := fun z => e (e3.trans z)
          rw [if_neg hx]
          simp [dget, e3]
        · simp only [dget, List.find?, e3, decide_false]
          exact this
  · rename_i h
    rw [dget_snoc (fun q => h (List.any_eq_true.mpr (by refine e1a2 (List.mem_map.mp q) fun y hy e => ?_; exact ⟨y, hy, by simpa using e⟩)))]
theorem keys_dset {kvs : List (Int × V)} {k : Int} {d : V} (h : Key kvs k) : (dset kvs k d).map (·.1) = kvs.map (·.1) := by
  unfold dset
  rw [if_pos (List.any_eq_true.mpr (by refine e1a2 (List.mem_map.mp (key_iff.mp h)) fun y hy e => ?_; exact ⟨y, hy, by simpa using e⟩)), List.map_map]
  refine List.map_congr_left fun p _ => ?_
  simp only [Function.comp]; split <;> rfl
theorem Held.lean {kvs : List (Int × V)} {tx : Int → List Nat} {rk : Int → Nat} (E : Held kvs tx rk) {n o a : Int} {gone come : List Nat} (hn : Key kvs n) (ho : Key kvs o) {xs : List Int} (hx : IsChain (bases kvs) o xs) (hno : n ∉ xs) (st : Step (tx o) (tx n) a gone come) :
    ∃ rk', Held (dset kvs n (.tup [.int o, chg a gone come])) tx rk' := by
  have key : ∀ x, Key (dset kvs n (.tup [.int o, chg a gone come])) x ↔ Key kvs x := fun x => by rw [key_iff, keys_dset hn, key_iff]
  have db : ∀ x, dget (bases (dset kvs n (.tup [.int o, chg a gone come]))) x = if x = n then some (.int o) else dget (bases kvs) x := fun x => by
    rw [dget_bases, dget_dset]
    split
    · rfl
    · rw [dget_bases]
  have keep : ∀ v ys, IsChain (bases kvs) v ys → n ∉ ys → IsChain (bases (dset kvs n (.tup [.int o, chg a gone come]))) v ys := by
    intro v ys h
    induction h with
    | stop e => intro hn'; exact .stop (by rw [db, if_neg (fun z => hn' (by simp [z]))]; exact e)
    | step e c ih => intro hn'; rw [List.mem_cons, not_or] at hn'; exact .step (by rw [db, if_neg (fun z => hn'.1 z.symm)]; exact e) (ih hn'.2)
  have hnew : IsChain (bases (dset kvs n (.tup [.int o, chg a gone come]))) n (n :: xs) := .step (by rw [db, if_pos rfl]) (keep o xs hx hno)
  refine Held.of_chains (by rw [keys_dset hn]; exact E.nd) (by have := congrArg List.length (keys_dset (d := .tup [.int o, chg a gone come]) hn); rw [List.length_map, List.length_map] at this; rw [this]; exact E.few) (fun k d hd => ?_) (fun k hk => ?_) (fun k hk => E.short k ((key k).mp hk))
  · rw [dget_dset] at hd
    by_cases e : k = n
    · subst e; rw [if_pos rfl] at hd; injection hd with hd; subst hd
      exact .lean o a gone come ((key o).mpr ho) st
    · rw [if_neg e] at hd
      have := (E.ent k d hd).ent0
      cases this with
      | root => exact .root
      | lean b a' g' c' hb st' => exact .lean b a' g' c' ((key b).mpr hb) st'
  · refine e1a2 (E.chain ((key k).mp hk)) fun ys hy _ => ?_
    have gen : ∀ v ys, IsChain (bases kvs) v ys → ∃ zs, IsChain (bases (dset kvs n (.tup [.int o, chg a gone come]))) v zs := by
      intro v ys hy
      induction hy with
      | @stop v e =>
        by_cases q : v = n
        · rw [q]; exact ⟨_, hnew⟩
        · exact ⟨_, .stop (by rw [db, if_neg q]; exact e)⟩
      | @step v b ys e c ih =>
        by_cases q : v = n
        · rw [q]; exact ⟨_, hnew⟩
        · obtain ⟨zs, hz⟩ := ih
          exact ⟨_, .step (by rw [db, if_neg q]; exact e) hz⟩
    exact gen k ys hy
structure Hi (kvs : List (Int × V)) (n hi : Int) : Prop where
  pos : 0 ≤ hi
  le : ∀ k xs, IsChain (bases kvs) k xs → n ∈ xs → (xs.idxOf n : Int) ≤ hi
  at_ : hi = 0 ∨ ∃ k xs, IsChain (bases kvs) k xs ∧ n ∈ xs ∧ hi = (xs.idxOf n : Int)
theorem Hi.uniq {kvs : List (Int × V)} {n hi hi' : Int} (h : Hi kvs n hi) (h' : Hi kvs n hi') : hi = hi' := by
  have a : hi ≤ hi' := by
    rcases h.at_ with e | ⟨k, xs, c, m, e⟩
    · have := h'.pos; exact om133 e this
    · rw [e]; exact h'.le k xs c m
  have b : hi' ≤ hi := by
    rcases h'.at_ with e | ⟨k, xs, c, m, e⟩
    · have := h.pos; exact om133 e this
    · rw [e]; exact h.le k xs c m
  exact om117 a b
end Mine
set_option maxRecDepth 100000
set_option linter.unusedVariables false
namespace Mine
open PySem
theorem IsChain.keep {kvs kvs' : List (Int × V)} {v : Int} {xs : List Int} (h : IsChain kvs v xs) (k : ∀ x, Key kvs x → dget kvs' x = dget kvs x) : IsChain kvs' v xs := by
  induction h with
  | stop e => exact .stop ((k _ ⟨_, e⟩).trans e)
  | step e _ ih => exact .step ((k _ ⟨_, e⟩).trans e) ih
theorem dget_put {kvs : List (Int × V)} {n : Int} {d : V} (hn : ¬ Key kvs n) (x : Int) (hx : Key kvs x) : dget (kvs ++ [(n, d)]) x = dget kvs x := by
  rw [dget_snoc (fun q => hn (key_iff.mpr q)), if_neg (fun e : x = n => hn (e ▸ hx))]
theorem bases_put (kvs : List (Int × V)) (n : Int) (d : V) : bases (kvs ++ [(n, d)]) = bases kvs ++ [(n, base0 d)] := by unfold bases; rw [List.map_append]; rfl
theorem Held.put_lean {kvs : List (Int × V)} {tx : Int → List Nat} {rk : Int → Nat} (E : Held kvs tx rk) {n o a : Int} {gone come l : List Nat} (hn : ¬ Key kvs n) (ho : Key kvs o) (few : kvs.length < 40) (hl : l.length ≤ 20000) (st : Step (tx o) l a gone come) :
    ∃ rk', Held (kvs ++ [(n, .tup [.int o, chg a gone come])]) (fun y => if y = n then l else tx y) rk' := by
  have hnk : n ∉ kvs.map (·.1) := fun q => hn (key_iff.mpr q)
  have kx : ∀ y, Key kvs y → y ≠ n := fun y hy e => hn (e ▸ hy)
  have up : ∀ y, Key kvs y → Key (kvs ++ [(n, .tup [.int o, chg a gone come])]) y := fun y hy => by rw [key_iff, List.map_append]; exact List.mem_append.mpr (.inl (key_iff.mp hy))
  have kb : ∀ x, Key (bases kvs) x → dget (bases (kvs ++ [(n, .tup [.int o, chg a gone come])])) x = dget (bases kvs) x := fun x hx => by
    rw [bases_put]; exact dget_put (fun q => hn (key_bases.mp q)) x hx
  refine Held.of_chains ?_ (by rw [List.length_append]; exact few) (fun k d hd => ?_) (fun k hk => ?_) (fun k hk => ?_)
  · rw [List.map_append, List.nodup_append]
    refine ⟨E.nd, by simp, fun a ha b hb => ?_⟩
    simp at hb; subst hb
    exact fun e => hnk (e ▸ ha)
  · rw [dget_snoc hnk] at hd
    by_cases e : k = n
    · subst e; rw [if_pos rfl] at hd; injection hd with hd; subst hd
      refine .lean o a gone come (up o ho) ?_
      rw [if_neg (kx o ho), if_pos rfl]; exact st
    · rw [if_neg e] at hd
      have e0 := (E.ent k d hd).ent0
      cases e0 with
      | root =>
        have := Ent0.root (kvs := kvs ++ [(n, V.tup [.int o, chg a gone come])]) (tx := fun y => if y = n then l else tx y) (k := k)
        simp only [if_neg e] at this; exact this
      | lean b a' g' c' hb st' =>
        refine .lean b a' g' c' (up b hb) ?_
        rw [if_neg (kx b hb), if_neg e]; exact st'
  · by_cases e : k = n
    · subst e
      refine e1a2 (E.chain ho) fun xs hx _ => ?_
      exact ⟨_, .step (by rw [bases_put, dget_snoc (by rw [keys_bases]; exact hnk), if_pos rfl]; rfl) (hx.keep kb)⟩
    · have : Key kvs k := by
        rw [key_iff, List.map_append] at hk
        rcases List.mem_append.mp hk with q | q
        · exact key_iff.mpr q
        · simp at q; exact (e q).elim
      refine e1a2 (E.chain this) fun xs hx _ => ?_
      exact ⟨xs, hx.keep kb⟩
  · by_cases e : k = n
    · rw [if_pos e]; exact hl
    · rw [if_neg e]
      refine E.short k ?_
      rw [key_iff, List.map_append] at hk
      rcases List.mem_append.mp hk with q | q
      · exact key_iff.mpr q
      · simp at q; exact (e q).elim
end Mine
set_option maxRecDepth 100000
set_option linter.unusedVariables false
namespace Mine
open PySem PyProof.Rows PySem.Builtin PySem.W PySem.F
theorem pairs_any {p p' : Program} {w w' : World} {es : List DictEntry} {kv : List (Int × Value)} (h : Pairs (intKind p w) es kv) : Pairs (intKind p' w') es kv := by
  induction h with
  | nil => exact .nil
  | cons a b _ ih => exact .cons a b ih
theorem dictOf_any {p p' : Program} {w w' : World} {h : Heap} {a : Addr} {kv : List (Int × Value)} (d : h.DictOf (intKind p w) a kv) : h.DictOf (intKind p' w') a kv := by
  refine e3a6 d fun o es ep g x dt k pr n => ?_; clear d
  exact ⟨o, es, ep, g, x, dt, fun e he => k e he, pairs_any pr, n⟩
section
variable {c : Cx} {H : AH}
theorem Alike.ext {G : AH} {n : Nat} {d₁ d₂ : V} (E : Alike c G n d₁ d₂) (e : Ext G H) : Alike c H n d₁ d₂ :=
  ⟨fun s A v₁ v₂ R B u i j => E.eq s A v₁ v₂ (e.rep R) (fun a x q => B a x ((e a (by rw [q]; exact fun z => nomatch z)).trans q)) u i j⟩
theorem notSys' {a : Addr} (h : cStatics < a) : (a == sysModules) = false := by
  have : a ≠ sysModules := fun e => by rw [e] at h; exact absurd h (by decide)
  simpa using this
theorem Alike.dict {n : Nat} {a b : Addr} {kvs : List (Int × V)} (ha : DictIs H a kvs) (hb : DictIs H b kvs) (he : ∀ d ∈ kvs.map (·.2), EqA n d d true) : Alike c H (n + 1) (.ref a) (.ref b) where
  eq := fun s A v₁ v₂ R B u i j => by
    obtain rfl := is_raw i; obtain rfl := is_raw j
    by_cases q : a = b
    · subst q; exact SeqAt.EqAt.same _
    have ns : (a == sysModules) = false := let ⟨o, e⟩ := ha; notSys' (B _ _ e)
    have ns' : (b == sysModules) = false := let ⟨o, e⟩ := hb; notSys' (B _ _ e)
    refine e1a3 (R.dictOf ha) fun ka da ea ia => ?_
    refine e1a3 (R.dictOf hb) fun kb db eb ib => ?_
    have el : ka.length = kb.length := by have := congrArg List.length (ea.trans eb.symm); simpa using this
    have nd : (kvs.map (·.1)).Nodup := by refine e3a6 da fun _ _ _ _ _ _ _ _ n => ?_; clear da; rw [← ea]; exact n
    refine SeqAt.EqAt.of_refs q fun prog w E Q hq => ?_
    refine keq_eq (knd := intKind prog w) (r := true) ns ns' (dictOf_any da) (dictOf_any db) (by exact om43 u) (fun _ => hits_same ea ia eb ib nd he (by have := in1_units A; exact om44 u this)) ?_
    have e1 : (ka.length == kb.length && true) = true := by rw [el]; simp
    rw [e1]; exact hq
end
end Mine
set_option maxRecDepth 100000
set_option linter.unusedVariables false
namespace Mine
open PySem PyProof.Rows PySem.Builtin PySem.W PySem.F
section
variable {c : Cx} {f : Fx} {m : Loc} {H : AH} {X : Value → AH → Prop} {Q : V → AH → Prop}
def over (G H H' : AH) : AH := fun a => match H a with | none => H' a | some _ => G a
theorem over_new {G H H' : AH} {a : Addr} (h : H a = none) : over G H H' a = H' a := by unfold over; rw [h]
theorem over_old {G H H' : AH} {a : Addr} (h : H a ≠ none) : over G H H' a = G a := by
  unfold over
  cases q : H a with
  | none => exact (h q).elim
  | some _ => rfl
theorem ext_over {G H H' : AH} (g : Ext G H) : Ext G (over G H H') := fun a h => over_old (by rw [g a h]; exact h)
theorem over_ext {G H H' : AH} (g : Ext G H) (e : Ext H H') : Ext (over G H H') H' := fun a h => by
  by_cases q : H a = none
  · rw [over_new q]
  · rw [over_old q] at h ⊢; rw [e a q, g a h]
theorem over_list {G H H' : AH} {a : Addr} {ds : List V} (l : ListAt H' a ds) (h : H a = none) : ListAt (over G H H') a ds := by obtain ⟨o, e⟩ := l; exact ⟨o, (over_new h).trans e⟩
theorem over_dict {G H H' : AH} {a : Addr} {ds : List (Int × V)} (l : DictIs H' a ds) (h : H a = none) : DictIs (over G H H') a ds := by obtain ⟨o, e⟩ := l; exact ⟨o, (over_new h).trans e⟩
end
end Mine
set_option maxRecDepth 100000
set_option linter.unusedVariables false
namespace Mine
open PySem PyProof.Rows PySem.Builtin PySem.W PySem.F
section
variable {c : Cx} {f : Fx} {m : Loc} {H : AH} {X : Value → AH → Prop} {Q : V → AH → Prop}
theorem Ev_FN {x : Str} {p₁ p : Pos} {e : Expr} {es : List Expr} {fa : Addr} {o : Obj} {fd : FuncData} {k : Nat} {ds : List V} (K : CxOk c) (g : GN c x (.ref fa)) (ho : c.base.get? fa = some o) (hfd : o.data = .func fd) (R : Room k f.A) (hf : f.A.frames = some f.frs) (h1 : Pes c f (e :: es) m H ds) (h : Fn c k (.ref fa) ds H Q X) (hg : f.env.globals = mainGlobals := by rfl) (hb : f.env.builtins = builtinsNs := by rfl)
    (hk : f.env.scope.kind = .function := by rfl) (hn : f.env.kindOf x = some .globalImplicit := by rfl) (hd : (x == ("__debug__" : Str)) = false := by decide) (he : starEach (e :: es) f.env = (false, eval e f.env) :: starEach es f.env := by rfl) : Ev c f (.Call (.Name x p₁) (e :: es) [] p) m H Q X :=
  Ev_call ho hfd R hf ((Pe_glob K g hg hb hk hn hd).ev ⟨rfl, h1.evs h⟩) he
theorem Ev_T1e {x : Str} {p₁ p : Pos} {e : Expr} {T : String} (K : CxOk c) (g : GN c x (.type T)) (h1 : Ev c f e m H (fun d H₁ => OpN c f (fun vs => call (.type T) vs) [d] m H₁ Q X) X) (hg : f.env.globals = mainGlobals := by rfl) (hb : f.env.builtins = builtinsNs := by rfl)
    (hk : f.env.scope.kind = .function := by rfl) (hn : f.env.kindOf x = some .globalImplicit := by rfl) (hd : (x == ("__debug__" : Str)) = false := by decide) (he : starEach [e] f.env = (false, eval e f.env) :: starEach [] f.env := by rfl) : Ev c f (.Call (.Name x p₁) [e] [] p) m H Q X :=
  Ev_callT ((Pe_glob K g hg hb hk hn hd).ev ⟨rfl, Evs_cons (Ev.mono h1 (fun _ _ z => Evs_nil z) fun _ _ z => z) he⟩) he rfl
theorem Ev_and1 {e : Expr} {p : Pos} {op : BoolOp} (h : Ev c f e m H Q X) : Ev c f (.BoolOp op [e] p) m H Q X := .mk fun s S => BoolOp_one (h s S)
theorem Ev_and {e e₂ : Expr} {es : List Expr} {p : Pos} {P : Prop} (h : Pb c f e m H P) (hP : P) (h2 : Ev c f (.BoolOp .And (e₂ :: es) p) m H Q X) : Ev c f (.BoolOp .And (e :: e₂ :: es) p) m H Q X := .mk fun s S => by
  refine BoolOp_and (wpAny_mono (h s S) (fun v s₁ z => ?_) fun _ _ ⟨_, _, _, _, _, _, x⟩ => x.elim)
  obtain ⟨t, d, H', i, S₁, rfl, b, rfl, r⟩ := z
  obtain rfl := is_raw i
  refine wpAny_pure ?_
  rw [r.mpr hP, if_pos rfl]
  refine wpAny_mono (h2 s₁ S₁) (fun v s₂ z => ?_) fun _ _ x => x
  obtain ⟨t', d, H', i, S₂, q⟩ := z
  exact ⟨t.trans t', d, H', i, S₂, q⟩
theorem Pe_FN {x : Str} {p₁ p : Pos} {e : Expr} {es : List Expr} {fa : Addr} {o : Obj} {fd : FuncData} {k : Nat} {ds : List V} {d' : V} (K : CxOk c) (g : GN c x (.ref fa)) (ho : c.base.get? fa = some o) (hfd : o.data = .func fd) (R : Room k f.A) (hf : f.A.frames = some f.frs) (h1 : Pes c f (e :: es) m H ds) (h : Fn c k (.ref fa) ds H (fun d'' H' => d'' = d' ∧ H' = H) (fun _ _ => False)) (hg : f.env.globals = mainGlobals := by rfl) (hb : f.env.builtins = builtinsNs := by rfl)
    (hk : f.env.scope.kind = .function := by rfl) (hn : f.env.kindOf x = some .globalImplicit := by rfl) (hd : (x == ("__debug__" : Str)) = false := by decide) (he : starEach (e :: es) f.env = (false, eval e f.env) :: starEach es f.env := by rfl) : Pe c f (.Call (.Name x p₁) (e :: es) [] p) m H d' :=
  Pe_call ho hfd R hf (Pe_glob K g hg hb hk hn hd) h1 h he
end
theorem exists_hi {kvs : List (Int × V)} {tx : Int → List Nat} {rk : Int → Nat} (E : Held kvs tx rk) (hne : kvs ≠ []) (k : Int) : ∃ hi, Hi kvs k hi := by
  classical
  obtain ⟨cl, hcl⟩ : ∃ cl : Int → List Int, ∀ k, Key kvs k → IsChain (bases kvs) k (cl k) :=
    ⟨fun k => if h : Key kvs k then Classical.choose (E.chain h) else [], fun k h => by dsimp only; rw [dif_pos h]; exact (Classical.choose_spec (E.chain h)).1⟩
  refine e1a2 (exists_max ((kvs.map (·.1)).map fun v => if k ∈ cl v then ((cl v).idxOf k : Int) else 0) (by simpa using hne)) fun M h1 h2 => ?_
  refine e1a2 (List.mem_map.mp h1) fun v hv hM => ?_
  have kv := key_iff.mpr hv
  refine ⟨M, ?_, fun v xs c hm => ?_, ?_⟩
  · rw [← hM]; split <;> omega
  · have kv' : Key kvs v := key_bases.mp (c.keys v (by obtain ⟨r, hr⟩ := c.head; rw [hr]; exact .head _))
    have e := c.uniq (hcl v kv')
    subst e
    have := h2 _ (List.mem_map.mpr ⟨v, key_iff.mp kv', rfl⟩)
    simp only [if_pos hm] at this; exact this
  · by_cases q : k ∈ cl v
    · rw [if_pos q] at hM; exact .inr ⟨v, cl v, hcl v kv, q, hM.symm⟩
    · rw [if_neg q] at hM; exact .inl hM.symm
theorem bind4 {fd : FuncData} {x y z x4 : Str} {args : List V} (h : args.length = 4) (e : ∀ v w u u4, bindArgs fd ⟨[v, w, u, u4], []⟩ = pure [(x, v), (y, w), (z, u), (x4, u4)]) : ∀ vs : List Value, vs.length = args.length → bindArgs fd ⟨vs, []⟩ = pure ([x, y, z, x4].zip vs) := fun vs hv => by
  have l0 := hv.trans h
  clear hv
  refine e2a2 (len_cons l0) fun v r1 rq175 l1 => ?_; obtain rfl := rq175
  refine e2a2 (len_cons l1) fun w r2 rq176 l2 => ?_; obtain rfl := rq176
  refine e2a2 (len_cons l2) fun u r3 rq177 l3 => ?_; obtain rfl := rq177
  refine e2a2 (len_cons l3) fun u4 r4 rq178 l4 => ?_; obtain rfl := rq178
  obtain rfl := List.eq_nil_of_length_eq_zero l4
  exact e v w u u4
theorem bind5 {fd : FuncData} {x y z x4 x5 : Str} {args : List V} (h : args.length = 5) (e : ∀ v w u u4 u5, bindArgs fd ⟨[v, w, u, u4, u5], []⟩ = pure [(x, v), (y, w), (z, u), (x4, u4), (x5, u5)]) : ∀ vs : List Value, vs.length = args.length → bindArgs fd ⟨vs, []⟩ = pure ([x, y, z, x4, x5].zip vs) := fun vs hv => by
  have l0 := hv.trans h
  clear hv
  refine e2a2 (len_cons l0) fun v r1 rq179 l1 => ?_; obtain rfl := rq179
  refine e2a2 (len_cons l1) fun w r2 rq180 l2 => ?_; obtain rfl := rq180
  refine e2a2 (len_cons l2) fun u r3 rq181 l3 => ?_; obtain rfl := rq181
  refine e2a2 (len_cons l3) fun u4 r4 rq182 l4 => ?_; obtain rfl := rq182
  refine e2a2 (len_cons l4) fun u5 r5 rq183 l5 => ?_; obtain rfl := rq183
  obtain rfl := List.eq_nil_of_length_eq_zero l5
  exact e v w u u4 u5
theorem mem5 {α : Type} {p : α → Prop} {a b d e g : α} (h : p a) (h2 : p b) (h3 : p d) (h4 : p e) (h5 : p g) : ∀ x ∈ [a, b, d, e, g], p x := fun x hx => by
  rcases List.mem_cons.mp hx with rfl | hx; exact h; exact mem4 h2 h3 h4 h5 x hx
end Mine
set_option maxRecDepth 100000
set_option linter.unusedVariables false
namespace Mine
open PySem PyProof.Rows PySem.Builtin PySem.W PySem.F
section
variable {c : Cx} {f : Fx} {m : Loc} {H : AH} {X : Value → AH → Prop} {Q : V → AH → Prop}
theorem Ev_andE {e e₂ : Expr} {es : List Expr} {p : Pos} (h : Ev c f e m H (fun d H₁ => d = .bool true ∧ Ev c f (.BoolOp .And (e₂ :: es) p) m H₁ Q X) X) : Ev c f (.BoolOp .And (e :: e₂ :: es) p) m H Q X := .mk fun s S => by
  refine BoolOp_and (wpAny_mono (h s S) (fun v s₁ z => ?_) fun _ _ x => x)
  obtain ⟨t, d, H', i, S₁, rfl, q⟩ := z
  obtain rfl := is_raw i
  refine wpAny_pure ?_
  rw [if_pos rfl]
  refine wpAny_mono (q s₁ S₁) (fun v s₂ z => ?_) fun _ _ x => x
  obtain ⟨t', d, H', i, S₂, q⟩ := z
  exact ⟨t.trans t', d, H', i, S₂, q⟩
end
theorem Step.turned {old new : List Nat} {a : Int} {gone come : List Nat} (S : Step old new a gone come) : Step new old a come gone := by
  obtain ⟨h0, h1, fit, new_⟩ := S
  obtain ⟨n, rfl⟩ : ∃ n : Nat, a = n := ⟨a.toNat, by exact om134 h0⟩
  have e1 : ((n : Int) + gone.length).toNat = n + gone.length := by exact om135
  have e2 : ((n : Int) + come.length).toNat = n + come.length := by exact om135
  have hl : n ≤ old.length := by exact om136 h1
  rw [e1] at fit new_
  simp only [Int.toNat_natCast] at fit new_
  have lt : (old.take n).length = n := by rw [List.length_take]; exact om137 h1
  rw [← List.take_drop] at fit
  have hd : gone ++ old.drop (n + gone.length) = old.drop n := by
    rw [← List.drop_drop]; conv => lhs; arg 1; rw [← fit]
    exact List.take_append_drop _ _
  refine ⟨h0, by rw [new_]; simp; exact om138 h1, ?_, ?_⟩
  · rw [e2, Int.toNat_natCast, ← List.take_drop, new_, List.append_assoc, List.drop_left' lt, List.take_left]
  · rw [e2, new_, Int.toNat_natCast, List.append_assoc (old.take n) come, List.take_left' lt, ← List.drop_drop, List.drop_left' lt, List.drop_left, List.append_assoc, hd, List.take_append_drop]
end Mine
set_option maxRecDepth 100000
set_option linter.unusedVariables false
namespace Mine
open PySem PyProof.Rows PySem.Builtin PySem.W PySem.F
def flip (one : Int) : V → V
  | .tup [_, .tup [a, g, d]] => .tup [.int one, .tup [a, d, g]]
  | d => d
def tent (kv : List (Int × V)) (xs : List Int) (t0 : List Nat) : Nat → V
  | 0 => .tup [.none, .s t0]
  | j + 1 => flip (xs.getD j 0) (dgetD kv (xs.getD j 0))
structure TurnAt (kv kv' : List (Int × V)) (xs : List Int) (t0 : List Nat) (D : Nat → Prop) : Prop where
  keys : kv'.map (·.1) = kv.map (·.1)
  done : ∀ j k, D j → xs[j]? = some k → dget kv' k = some (tent kv xs t0 j)
  off : ∀ x, (∀ j, D j → xs[j]? ≠ some x) → dget kv' x = dget kv x
theorem TurnAt.start {kv : List (Int × V)} {xs : List Int} {t0 : List Nat} {D : Nat → Prop} (h : ∀ j, ¬ D j) : TurnAt kv kv xs t0 D := ⟨rfl, fun j k d => (h j d).elim, fun x _ => rfl⟩
theorem TurnAt.step {kv kv' : List (Int × V)} {xs : List Int} {t0 : List Nat} {D D' : Nat → Prop} {i : Nat} {k : Int} (T : TurnAt kv kv' xs t0 D) (nd : xs.Nodup) (hi : xs[i]? = some k) (hk : Key kv k) (hD : ∀ j, j < xs.length → (D' j ↔ D j ∨ j = i)) : TurnAt kv (dset kv' k (tent kv xs t0 i)) xs t0 D' := by
  have lt : ∀ {j : Nat} {x : Int}, xs[j]? = some x → j < xs.length := fun h => (List.getElem?_eq_some_iff.mp h).1
  have inj : ∀ {j : Nat}, xs[j]? = some k → j = i := fun {j} h => by
    obtain ⟨h1, e1⟩ := List.getElem?_eq_some_iff.mp h
    obtain ⟨h2, e2⟩ := List.getElem?_eq_some_iff.mp hi
    exact (List.getElem_inj (h₀ := h1) (h₁ := h2) nd).mp (e1.trans e2.symm)
  have hk' : Key kv' k := by rw [key_iff, T.keys]; exact key_iff.mp hk
  refine ⟨by rw [keys_dset hk', T.keys], fun j x d hx => ?_, fun x hx => ?_⟩
  · rw [dget_dset]
    by_cases e : x = k
    · subst e; rw [if_pos rfl, inj hx]
    · rw [if_neg e]
      rcases (hD j (lt hx)).mp d with q | q
      · exact T.done j x q hx
      · subst q; rw [hi] at hx; injection hx with hx; exact (e hx.symm).elim
  · have e : x ≠ k := fun e => hx i ((hD i (lt hi)).mpr (.inr rfl)) (by rw [e]; exact hi)
    rw [dget_dset, if_neg e]
    refine T.off x fun j d q => ?_
    exact hx j ((hD j (lt q)).mpr (.inl d)) q
def TurnOf (kv kv' : List (Int × V)) (xs : List Int) (t0 : List Nat) : Prop := TurnAt kv kv' xs t0 (fun _ => True)
theorem TurnAt.all {kv kv' : List (Int × V)} {xs : List Int} {t0 : List Nat} {D : Nat → Prop} (T : TurnAt kv kv' xs t0 D) (h : ∀ j, j < xs.length → D j) : TurnOf kv kv' xs t0 :=
  ⟨T.keys, fun j k _ hk => T.done j k (h j (List.getElem?_eq_some_iff.mp hk).1) hk, fun x hx => T.off x fun j _ => hx j trivial⟩
theorem Held.turn {kv kv' : List (Int × V)} {tx : Int → List Nat} {rk : Int → Nat} (E : Held kv tx rk) {n : Int} {xs : List Int} (hx : IsChain (bases kv) n xs) (T : TurnOf kv kv' xs (tx n)) : ∃ rk', Held kv' tx rk' := by
  have key : ∀ x, Key kv' x ↔ Key kv x := fun x => by rw [key_iff, T.keys, key_iff]
  have ln : kv'.length = kv.length := by have := congrArg List.length T.keys; simpa using this
  have hd0 : xs[0]? = some n := by obtain ⟨r, hr⟩ := hx.head; rw [hr]; rfl
  have ek : ∀ (j : Nat) k k', xs[j]? = some k → xs[j + 1]? = some k' → ∃ a gone come, dget kv' k' = some (.tup [.int k, chg a come gone]) ∧ Step (tx k) (tx k') a come gone ∧ Key kv k := fun j k k' h1 h2 => by
    have hb : dget (bases kv) k = some (.int k') := by have := hx.next j k h1; rw [h2] at this; exact this
    rw [dget_bases] at hb
    cases q : dget kv k with
    | none => rw [q] at hb; cases hb
    | some d =>
      rw [q] at hb
      have ent := E.ent k d q
      have hD := T.done (j + 1) k' trivial h2
      have g1 : xs.getD j 0 = k := by rw [List.getD_eq_getElem?_getD, h1]; rfl
      simp only [tent, g1, dgetD_of q] at hD
      cases ent with
      | root => cases hb
      | lean b a gone come kb lt st =>
        obtain rfl : b = k' := by simp [base0] at hb; exact hb
        exact ⟨a, gone, come, hD, st.turned, ⟨_, q⟩⟩
  refine Held.of_chains (by rw [T.keys]; exact E.nd) (by rw [ln]; exact E.few) (fun x d hd => ?_) ?_ (fun x hk => E.short x ((key x).mp hk))
  · by_cases h : x ∈ xs
    · obtain ⟨j, hj⟩ := List.getElem?_of_mem h
      cases j with
      | zero =>
        obtain rfl : n = x := by rw [hd0] at hj; injection hj
        have := T.done 0 n trivial hd0
        rw [hd] at this; injection this with this; subst this
        exact .root
      | succ j =>
        have hlt := (List.getElem?_eq_some_iff.mp hj).1
        obtain ⟨a, gone, come, e1, st, kk⟩ := ek j xs[j] x (List.getElem?_eq_getElem (by exact om139 hlt)) hj
        rw [hd] at e1; injection e1 with e1; subst e1
        exact .lean _ a come gone ((key _).mpr kk) st
    · rw [T.off x fun j _ e => h (List.mem_of_getElem? e)] at hd
      have ent := E.ent x d hd
      cases ent with
      | root => exact .root
      | lean b a gone come kb lt st => exact .lean b a gone come ((key b).mpr kb) st
  · have on : ∀ (j : Nat) k, xs[j]? = some k → ∃ ys, IsChain (bases kv') k ys := by
      intro j
      induction j with
      | zero =>
          intro k hk
          obtain rfl : n = k := by rw [hd0] at hk; injection hk
          exact ⟨_, .stop (by rw [dget_bases, T.done 0 n trivial hd0]; rfl)⟩
      | succ j ih =>
          intro k hk
          have hlt := (List.getElem?_eq_some_iff.mp hk).1
          have hj : xs[j]? = some xs[j] := List.getElem?_eq_getElem (by exact om139 hlt)
          obtain ⟨ys, hy⟩ := ih _ hj
          refine e3a3 (ek j xs[j] k hj hk) fun a gone come e1 _ _ => ?_
          exact ⟨_, .step (by rw [dget_bases, e1]; rfl) hy⟩
    intro k hk
    refine e1a2 (E.chain ((key k).mp hk)) fun ys hy _ => ?_
    clear hk
    have gen : ∀ v ys, IsChain (bases kv) v ys → ∃ zs, IsChain (bases kv') v zs := by
      intro v ys h
      induction h with
      | @stop v e =>
        by_cases q : v ∈ xs
        · obtain ⟨j, hj⟩ := List.getElem?_of_mem q; exact on j v hj
        · exact ⟨_, .stop (by rw [dget_bases, T.off v fun j _ e => q (List.mem_of_getElem? e), ← dget_bases]; exact e)⟩
      | @step v b zs e h ih =>
        by_cases q : v ∈ xs
        · obtain ⟨j, hj⟩ := List.getElem?_of_mem q; exact on j v hj
        · obtain ⟨ws, hw⟩ := ih
          exact ⟨_, .step (by rw [dget_bases, T.off v fun j _ e => q (List.mem_of_getElem? e), ← dget_bases]; exact e) hw⟩
    exact gen k ys hy
end Mine
set_option maxRecDepth 100000
set_option linter.unusedVariables false
namespace Mine
open PySem PyProof.Rows PySem.Builtin PySem.W PySem.Calls
theorem bt_zip : bootBuiltins (Str.ofString "zip") = some (.type "zip") := by decide +kernel
-- a heap of given objects
def mkH (n : Nat) (G : Addr → Option Obj) : Heap := { objs := (Array.range n).map fun a => (G a).getD { cls := .none, data := .freed } }
theorem mkH_get {n : Nat} {G : Addr → Option Obj} (h : ∀ a o, G a = some o → a < n ∧ o.data ≠ .freed) (a : Addr) : (mkH n G).get? a = G a := by
  unfold Heap.get? mkH
  dsimp only
  by_cases ha : a < n
  · rw [Array.getElem?_map, Array.getElem?_eq_getElem (by simpa using ha), Array.getElem_range]
    dsimp only [Option.map_some]
    cases e : G a with
    | none => rfl
    | some o =>
      obtain ⟨_, nf⟩ := h a o e
      obtain ⟨c, d, dt, sl⟩ := o
      cases dt <;> first | rfl | exact absurd rfl nf
  · rw [Array.getElem?_eq_none (by simpa using ha)]
    cases e : G a with
    | none => rfl
    | some o => exact absurd (h a o e).1 ha
theorem get_live {h : Heap} {a : Addr} {o : Obj} (e : h.get? a = some o) : o.data ≠ .freed := by
  unfold Heap.get? at e
  intro q
  split at e
  · cases e
  · rename_i x nx
    obtain ⟨c, d, dt, sl⟩ := o
    dsimp only at q; subst q
    exact nx _ _ _ e
def Odd (h : Heap) (T : Addr) : Prop := ∃ a b, IsPair h T a b ∧ ((a = .none ∧ b = .none) ∨ ∃ i t x u, a = .int i t ∧ b = .str x u)
def Tkx (T : Addr) (h h' : Heap) : Prop := ∀ b o vs n, b ≠ T → h.get? b = some o → o.cls = .type "tuple" → o.data = .seq vs n → ∃ o', h'.get? b = some o' ∧ o'.cls = .type "tuple" ∧ o'.data = .seq vs n
def SafeV (d : V) : Prop := ∀ (h h' : Heap) (T : Addr) (v : Value), Odd h T → Tkx T h h' → Is h d v → Is h' d v
theorem safe_int {i : Int} : SafeV (.int i) := fun _ _ _ _ _ _ x => by simpa only [Is] using x
theorem safe_str {i : Str} : SafeV (.str i) := fun _ _ _ _ _ _ x => by simpa only [Is] using x
theorem safe_raw {i : Value} : SafeV (.raw i) := fun _ _ _ _ _ _ x => by simpa only [Is] using x
theorem IsAll.imp {h h' : Heap} : ∀ {ds : List V} {vs : List Value}, (∀ d ∈ ds, ∀ v, Is h d v → Is h' d v) → IsAll h ds vs → IsAll h' ds vs
  | [], _, _, x => by simpa only [IsAll] using x
  | d :: ds, _, k, x => by
    simp only [IsAll] at x ⊢
    refine e2a3 x fun v r e y z => ?_; clear x
    exact ⟨v, r, e, k d (.head _) v y, IsAll.imp (fun d hd => k d (.tail _ hd)) z⟩
theorem safe_tup {ds : List V} (hall : ∀ d ∈ ds, SafeV d) (hno : ∀ h a b, IsAll h ds [a, b] → ¬ ((a = .none ∧ b = .none) ∨ ∃ i t x u, a = .int i t ∧ b = .str x u)) : SafeV (.tup ds) := fun h h' T v od tk x => by
  simp only [Is] at x ⊢
  refine e2a3 x fun a vs rq184 rq185 ia => ?_; clear x; obtain rfl := rq184; obtain ⟨o, n, g, c, dt⟩ := rq185
  have ne : a ≠ T := fun q => by
    subst q
    refine e2a2 od fun p q ip z => ?_; clear od
    rw [show h.get? a = _ from ip] at g
    cases g
    simp only [Data.seq.injEq] at dt
    have : vs = [p, q] := by have := congrArg Array.toList dt.1; simpa using this.symm
    subst this
    exact hno h p q ia z
  refine e1a3 (tk a o _ n ne g c dt) fun o' g' c' d' => ?_
  exact ⟨a, vs, rfl, ⟨o', n, g', c', d'⟩, ia.imp fun d hd v i => hall d hd h h' T v od tk i⟩
theorem safe_root {l : List Nat} : SafeV (.tup [.none, .s l]) := by
  refine safe_tup (fun d hd => ?_) fun h a b ia => ?_
  · simp only [List.mem_cons, List.not_mem_nil, or_false] at hd
    rcases hd with rfl | rfl
    · exact safe_raw
    · exact safe_str
  · simp only [IsAll, Is] at ia
    refine e2a3 ia fun v r e i1 rq186 => ?_; clear ia; refine e2a3 rq186 fun v2 r2 e2 rq187 e3 => ?_; clear rq186; obtain ⟨t, i2⟩ := rq187
    cases e; cases e2
    subst i1; subst i2
    rintro (⟨_, q⟩ | ⟨i, t, x, u, q, _⟩)
    · cases q
    · cases q
theorem safe_chg {a : Int} {g d : List Nat} : SafeV (chg a g d) := by
  refine safe_tup (fun d hd => ?_) fun h a b ia => ?_
  · simp only [List.mem_cons, List.not_mem_nil, or_false] at hd
    rcases hd with rfl | rfl | rfl
    · exact safe_int
    · exact safe_str
    · exact safe_str
  · have := ia.length; simp at this
theorem safe_lean {b a : Int} {g d : List Nat} : SafeV (.tup [.int b, chg a g d]) := by
  refine safe_tup (fun d hd => ?_) fun h a b ia => ?_
  · simp only [List.mem_cons, List.not_mem_nil, or_false] at hd
    rcases hd with rfl | rfl
    · exact safe_int
    · exact safe_chg
  · simp only [IsAll, Is] at ia
    refine e2a3 ia fun v r e rq188 rq189 => ?_; clear ia; obtain ⟨t, i1⟩ := rq188; refine e2a3 rq189 fun v2 r2 e2 rq190 e3 => ?_; clear rq189; obtain ⟨ad, vs, i2, _⟩ := rq190
    cases e; cases e2
    subst i1; subst i2
    rintro (⟨q, _⟩ | ⟨i, t, x, u, _, q⟩)
    · cases q
    · cases q
def SafeK : Abs → Prop
  | .list ds => ∀ d ∈ ds, SafeV d
  | .dict kvs => ∀ p ∈ kvs, SafeV p.2
  | .inst _ _ => True
  | .attrs fs => ∀ x d, fs.lookup x = some d → SafeV d
theorem KindIs.safe {c : Cx} {h h' : Heap} {a T : Addr} {k : Abs} (K : KindIs c h a k) (sf : SafeK k) (g : ∀ o, h.get? a = some o → h'.get? a = some o) (od : Odd h T) (tk : Tkx T h h') : KindIs c h' a k := by
  cases k with
  | list ds =>
    refine e1a2 K fun vs rq191 y => ?_; clear K; obtain ⟨o, n, e, r⟩ := rq191
    exact ⟨vs, ⟨o, n, g o e, r⟩, y.imp fun d hd v i => sf d hd h h' T v od tk i⟩
  | dict kvs =>
    refine e1a3 K fun kv rq192 p y => ?_; clear K; obtain ⟨o, es, ep, e, r⟩ := rq192
    refine ⟨kv, ⟨o, es, ep, g o e, r⟩, p, y.imp fun d hd v i => ?_⟩
    refine e1a2 (List.mem_map.mp hd) fun q hq rq193 => ?_; obtain rfl := rq193
    exact sf q hq h h' T v od tk i
  | inst C dx => exact g _ K
  | attrs fs =>
    refine e1a3 K fun mv rq194 p y => ?_; clear K; obtain ⟨o', es, ep, e, r⟩ := rq194
    exact ⟨mv, ⟨o', es, ep, g o' e, r⟩, p, fun x d q => let ⟨v, a, b⟩ := y x d q; ⟨v, a, sf x d q h h' T v od tk b⟩⟩
section
variable {c : Cx} {f : Fx} {m : Loc} {H : AH}
structure Apart (f : Fx) (a : Addr) : Prop where
  new : f.hE.get? a = none
  loc : a ≠ f.env.locals
  cel : ∀ x b, f.env.cells.lookup x = some b → b ≠ a
  fs : a ∉ f.fs
  kp : ∀ p ∈ f.keep, a ≠ p.1
theorem St.rezip {s s' : Shared} (S : St c f m H s) (R0 : Rep c f.HE f.hE) {T : Addr} {wr : List Addr} (ot : Odd s.heap T) (only : ∀ b ∈ wr, b ≠ T → ∀ o vs n, s.heap.get? b = some o → o.cls = .type "tuple" → o.data ≠ .seq vs n)
    (ap : ∀ b ∈ wr, Apart f b) (hH : ∀ b ∈ wr, H b = none) (sf : ∀ a x, H a = some x → f.HE a = some x ∨ SafeK x.k) (sm : ∀ x d, m x = some d → SafeV d)
    (ext : ∀ b o, b ∉ wr → s.heap.get? b = some o → s'.heap.get? b = some o) (hg : s'.gens = s.gens) (ho : s'.os = s.os) : St c f m H s' := by
  have nm : ∀ b, H b ≠ none → b ∉ wr := fun b e q => e (hH b q)
  have tkx : Tkx T s.heap s'.heap := fun b o vs n ne e cl dt => ⟨o, ext b o (fun q => only b q ne o vs n e cl dt) e, cl, dt⟩
  have old : ∀ b o, f.hE.get? b = some o → b ∉ wr := fun b o e q => by rw [(ap b q).new] at e; cases e
  have tk0 : Tk f.hE s'.heap := fun b o vs n e cl dt => by
    have hb : f.HE b = none := by
      cases q : f.HE b with
      | none => rfl
      | some x =>
        refine e1a3 ((R0 b x q).obj) fun o' g nt _ => ?_
        rw [e] at g; cases g
        exact absurd dt (nt vs n cl)
    obtain ⟨k1, k2⟩ := S.off b o e hb
    by_cases hf : b ∈ f.fs
    · obtain ⟨sl, z⟩ := k2 hf
      exact ⟨_, ext b _ (old b o e) z, cl, dt⟩
    · exact ⟨o, ext b o (old b o e) (k1 hf), cl, dt⟩
  have rep : Rep c H s'.heap := fun a x e => by
    have k := S.rep a x e
    have gx : s'.heap.get? a = some x.o := ext a x.o (nm a (by rw [e]; exact fun z => nomatch z)) k.1
    rcases sf a x e with q | q
    · have k0 := R0 a x q
      exact k0.keep tk0 fun o z => by rw [k0.1] at z; cases z; exact gx
    · exact ⟨gx, k.2.safe q (fun o z => by rw [k.1] at z; cases z; exact gx) ot tkx⟩
  refine ⟨rep, fun b o e => ext b o (fun q => ?_) (S.base b o e), S.bE, S.hb, fun b o e q => ?_, S.dom, S.up, ?_, S.newL, S.trL, fun x a e => ?_, S.apart, ?_, S.fh, S.big, fun p hp => ?_, hg.trans S.gens, ho.trans S.os⟩
  · have := S.bE b o e
    rw [(ap b q).new] at this; cases this
  · exact ⟨fun n => ext b o (old b o e) ((S.off b o e q).1 n), fun n => let ⟨sl, z⟩ := (S.off b o e q).2 n; ⟨sl, ext _ _ (old b o e) z⟩⟩
  · refine e1a2 (S.loc) fun mv n k => ?_
    refine ⟨mv, n.at fun o e => ext _ o (fun q => (ap _ q).loc rfl) e, fun x d e => ?_⟩
    rcases k x d e with ⟨z, v, p, i⟩ | ⟨z, a, v, p, ic, i⟩
    · exact .inl ⟨z, v, p, sm x d e _ _ T v ot tkx i⟩
    · refine e1a2 ic fun oc g1 g2 => ?_; clear ic
      exact .inr ⟨z, a, v, p, ⟨oc, ext a oc (fun q => (ap a q).cel x a p rfl) g1, g2⟩, sm x d e _ _ T v ot tkx i⟩
  · refine e0a4 (S.cel x a e) fun p q r rq195 => ?_; refine e2a2 rq195 fun ov oc g1 g2 => ?_; clear rq195
    exact ⟨p, q, r, ov, oc, ext a oc (fun q => (ap a q).cel x a e rfl) g1, g2⟩
  · exact funFrames_keep S.ff fun b hb o e hd => ⟨o, ext b o (fun q => (ap b q).fs hb) e, hd⟩
  · exact ⟨ext _ _ (fun q => (ap _ q).kp p hp rfl) (S.kp p hp).1, (S.kp p hp).2⟩
abbrev Fx.guard (f : Fx) (hE : Heap) (kp : List (Addr × Obj)) : Fx := { f with hE := hE, keep := kp }
theorem St.guard {s : Shared} (S : St c f m H s) {T1 T2 : Addr} {o1 o2 : Obj} (g1 : s.heap.get? T1 = some o1) (g2 : s.heap.get? T2 = some o2) (a1 : Apart f T1) (a2 : Apart f T2) (h1 : H T1 = none) (h2 : H T2 = none) {kp : List (Addr × Obj)}
    (hkp : ∀ p ∈ kp, s.heap.get? p.1 = some p.2 ∧ ∃ vs, p.2.data = .fields vs) :
    ∃ hE', (∀ a o, f.hE.get? a = some o → hE'.get? a = some o) ∧ hE'.get? T1 = some o1 ∧ hE'.get? T2 = some o2 ∧ St c (f.guard hE' kp) m H s := by
  have lv : ∀ a o, (if a = T1 then some o1 else if a = T2 then some o2 else f.hE.get? a) = some o → a < s.heap.objs.size ∧ o.data ≠ .freed := fun a o e => by
    split at e
    · rename_i q; subst q; cases e; exact ⟨Heap.lt_size g1, get_live g1⟩
    split at e
    · rename_i q; subst q; cases e; exact ⟨Heap.lt_size g2, get_live g2⟩
    · refine ⟨?_, get_live e⟩
      cases z : s.heap.get? a with
      | none => rw [S.old z] at e; cases e
      | some o' => exact Heap.lt_size z
  have G : ∀ a, (mkH s.heap.objs.size fun a => if a = T1 then some o1 else if a = T2 then some o2 else f.hE.get? a).get? a = if a = T1 then some o1 else if a = T2 then some o2 else f.hE.get? a := mkH_get lv
  have G0 : ∀ a, a ≠ T1 → a ≠ T2 → (mkH s.heap.objs.size fun a => if a = T1 then some o1 else if a = T2 then some o2 else f.hE.get? a).get? a = f.hE.get? a := fun a n1 n2 => by rw [G, if_neg n1, if_neg n2]
  have sub : ∀ a o, f.hE.get? a = some o → (mkH s.heap.objs.size fun a => if a = T1 then some o1 else if a = T2 then some o2 else f.hE.get? a).get? a = some o := fun a o e => by
    rw [G0 a (fun q => by rw [q, a1.new] at e; cases e) (fun q => by rw [q, a2.new] at e; cases e)]; exact e
  generalize (mkH s.heap.objs.size fun a => if a = T1 then some o1 else if a = T2 then some o2 else f.hE.get? a) = hE' at G G0 sub
  have t1 : hE'.get? T1 = some o1 := by rw [G, if_pos rfl]
  have t2 : hE'.get? T2 = some o2 := by
    rw [G]; split
    · rename_i q; rw [← q] at g1; rw [g1] at g2; exact g2
    · rw [if_pos rfl]
  refine ⟨hE', sub, t1, t2, S.rep, S.base, fun b o e => sub b o (S.bE b o e), S.hb, fun a o e q => ?_, fun a o e q => ?_, S.up, S.loc, fun hf => ?_, S.trL, fun x a e => ?_, S.apart, S.ff, S.fh, S.big, hkp, S.gens, S.os⟩
  · by_cases n1 : a = T1
    · subst n1; rw [t1] at e; cases e; exact ⟨fun _ => g1, fun z => (a1.fs z).elim⟩
    by_cases n2 : a = T2
    · subst n2; rw [t2] at e; cases e; exact ⟨fun _ => g2, fun z => (a2.fs z).elim⟩
    · rw [show (f.guard hE' kp).hE.get? a = _ from G0 a n1 n2] at e; exact S.off a o e q
  · by_cases n1 : a = T1
    · subst n1; exact h1
    by_cases n2 : a = T2
    · subst n2; exact h2
    · rw [show (f.guard hE' kp).hE.get? a = _ from G0 a n1 n2] at e; exact S.dom a o e q
  · show hE'.get? f.env.locals = none
    rw [G0 _ a1.loc.symm a2.loc.symm]; exact S.newL hf
  · refine e0a4 (S.cel x a e) fun p q r z => ?_
    refine ⟨p, q, fun hf hk => ?_, z⟩
    show hE'.get? a = none
    rw [G0 a (fun q => a1.cel x a e q) (fun q => a2.cel x a e q)]; exact r hf hk
theorem St.unguard {s : Shared} {hE' : Heap} {kp : List (Addr × Obj)} (S : St c (f.guard hE' kp) m H s) (sub : ∀ a o, f.hE.get? a = some o → hE'.get? a = some o) (bE : c.base.StaysIn f.hE) (hk : ∀ p ∈ f.keep, p ∈ kp) : St c f m H s := by
  have non : ∀ a, hE'.get? a = none → f.hE.get? a = none := fun a e => by
    cases q : f.hE.get? a with
    | none => rfl
    | some o => rw [sub a o q] at e; cases e
  exact ⟨S.rep, S.base, bE, S.hb, fun a o e q => S.off a o (sub a o e) q, fun a o e q => S.dom a o (sub a o e) q, S.up, S.loc, fun hf => non _ (S.newL hf), S.trL, fun x a e => let ⟨p, q, r, z⟩ := S.cel x a e; ⟨p, q, fun hf hk => non _ (r hf hk), z⟩, S.apart, S.ff, S.fh, S.big, fun p hp => S.kp p (hk p hp), S.gens, S.os⟩
def Zst (z TI TO i1 i2 l1 l2 : Addr) (i : Nat) (h : Heap) : Prop := IsZip h z TI TO .none ∧ IsPair h TI (.ref i1) (.ref i2) ∧ Odd h TO ∧ h.IsListIter i1 l1 i ∧ h.IsListIter i2 l2 i
theorem str_of_isAll {h : Heap} : ∀ {l : List (List Nat)} {vs : List Value} {i : Nat} {t : List Nat}, IsAll h (l.map V.s) vs → l[i]? = some t → ∃ u, vs[i]? = some (.str ⟨t.toArray⟩ u) := fun ia e => by
  refine e1a2 (ia.get (map_item' (g := V.s) e)) fun v hv iv => ?_
  obtain ⟨u, rfl⟩ := is_str iv
  exact ⟨u, hv⟩
theorem int_of_isAll {h : Heap} : ∀ {l : List Int} {vs : List Value} {i : Nat} {t : Int}, IsAll h (l.map V.int) vs → l[i]? = some t → ∃ u, vs[i]? = some (.int t u) := fun ia e => by
  refine e1a2 (ia.get (map_item' (g := V.int) e)) fun v hv iv => ?_
  obtain ⟨u, rfl⟩ := is_int iv
  exact ⟨u, hv⟩
theorem Ex_for_zip (O : FrOk f) {x y zx : Str} {p1 p2 pt q pz pc : Pos} {kt : Nat} {e1 e2 : Expr} {body rest : List Stmt} {Q : Ko} {l1 l2 : Addr} {is : List Int} {ts : List (List Nat)}
    (K : CxOk c) (hh : f.A.handled = none) (R0 : Rep c f.HE f.hE) (gz : Pe c f (.Name zx pz) m H (.raw (.type "zip"))) (h1 : Pe c f e1 m H (.ref l1)) (h2 : Pe c f e2 m H (.ref l2)) (L1 : ListAt H l1 (is.map V.int)) (L2 : ListAt H l2 (ts.map V.s)) (hlen : ts.length = is.length)
    (J : Nat → Loc → AH → Prop) (j0 : J 0 m H)
    (safe : ∀ i m' H', J i m' H' → (∀ a x, H' a = some x → f.HE a = some x ∨ SafeK x.k) ∧ (∀ x d, m' x = some d → SafeV d) ∧ H' l1 = H l1 ∧ H' l2 = H l2)
    (turn : ∀ i n t m' H' hE' kp, is[i]? = some n → ts[i]? = some t → J i m' H' → Ex c (f.guard hE' kp) body ((m'.set x (.int n)).set y (.s t)) H' (fun o m₂ H₂ => o = .next ∧ J (i + 1) m₂ H₂))
    (done : ∀ m' H', J is.length m' H' → Ex c f rest m' H' Q)
    (hx : (f.env.kindOf x = some .local) ∨ (f.env.kindOf x = some .cell ∧ (f.env.cells.lookup x).isSome = true)) (hy : (f.env.kindOf y = some .local) ∨ (f.env.kindOf y = some .cell ∧ (f.env.cells.lookup y).isSome = true)) (hfn : f.fn = true := by rfl)
    (he : starEach [e1, e2] f.env = [(false, eval e1 f.env), (false, eval e2 f.env)] := by rfl) (he2 : starEach [e2] f.env = [(false, eval e2 f.env)] := by rfl)
    (hs : ∀ x, foldedSetIterable (.Call (.Name zx pz) [e1, e2] [] pc) f.env x = pure x := by intro _; rfl) : Ex c f (.For (.Tuple [.Name x p1, .Name y p2] kt pt) (.Call (.Name zx pz) [e1, e2] [] pc) body [] q :: rest) m H Q := .mk fun s S => by
  refine wpAny_execs_cons (wpAny_For ?_ hs)
  refine PyProof.Rows.Call_ (wpAny_mono (gz s S) (fun v s₁ z => ?_) fun x s' z => z.ex fun _ _ y => y.elim)
  obtain ⟨t₁, d, H₁, i₁, S₁, rfl, rfl⟩ := z
  obtain rfl := is_raw i₁
  refine PyProof.Rows.callWith_type1 (PyProof.Rows.args_cons (wpAny_mono (h1 s₁ S₁) (fun v s₂ z => ?_) fun x s' z => z.ex fun _ _ y => y.elim) (by rw [he, he2])) (by rw [he, he2]) (by rw [he2]; rfl)
  obtain ⟨t₂, d, H₂, i₂, S₂, rfl, rfl⟩ := z
  obtain rfl := is_raw i₂
  refine PyProof.Rows.args_cons (wpAny_mono (h2 s₂ S₂) (fun v s₃ z => ?_) fun x s' z => z.ex fun _ _ y => y.elim) he2
  obtain ⟨t₃, d, H₃, i₃, S₃, rfl, rfl⟩ := z
  obtain rfl := is_raw i₃
  obtain ⟨ol1, La1⟩ := id L1
  obtain ⟨ol2, La2⟩ := id L2
  refine e2a5 (S₃.rep.list La1) fun vs1 k1 ga1 cl1 _ dt1 ia1 => ?_
  refine e2a5 (S₃.rep.list La2) fun vs2 k2 ga2 cl2 _ dt2 ia2 => ?_
  refine PyProof.Rows.args_nil (call_zip_2 (xs := vs1.toArray) (ys := vs2.toArray) ⟨_, ga1, cl1, k1, dt1⟩ ⟨_, ga2, cl2, k2, dt2⟩ fun h₄ hz hTI hTO hi1 hi2 hsz hk => ?_)
  have D := zipApart_new (Heap.lt_size ga1) (Heap.lt_size ga2)
  have fresh : ∀ a, s₃.heap.objs.size ≤ a → Apart f a := fun a ha => by
    have e : s₃.heap.get? a = none := by
      cases z : s₃.heap.get? a with
      | none => rfl
      | some o => exact absurd (Heap.lt_size z) (Nat.not_lt.mpr ha)
    refine e0a6 (S₃.apartOf e) fun b1 b2 b3 b4 b5 b6 => ?_
    exact ⟨b2, b3, b4, b5, b6⟩
  have aI1 := fresh _ (Nat.le_refl _)
  have aI2 := fresh _ (Nat.le_add_right s₃.heap.objs.size 1)
  have aTI := fresh _ (Nat.le_add_right s₃.heap.objs.size 2)
  have aTO := fresh _ (Nat.le_add_right s₃.heap.objs.size 3)
  have aZ := fresh _ (Nat.le_add_right s₃.heap.objs.size 4)
  have S₄ := S₃.grow (s' := { s₃ with heap := h₄ }) (fun b o e => hk b o e) rfl rfl
  refine wpAny_pyIter_zip hz ?_
  generalize s₃.heap.objs.size + 4 = z at D aZ hz ⊢
  generalize s₃.heap.objs.size + 3 = TO at D aTO hz hTO
  generalize s₃.heap.objs.size + 2 = TI at D aTI hz hTI
  generalize s₃.heap.objs.size + 1 = i2 at D aI2 hTI hi2
  generalize s₃.heap.objs.size = i1 at D aI1 hTI hi1
  clear fresh hk hsz
  refine codeAny_forLoop_any (fun n s' => ∃ i m' H', n + i = is.length + 1 ∧ i ≤ is.length ∧ St c f m' H' s' ∧ Zst z TI TO i1 i2 l1 l2 i s'.heap ∧ J i m' H') (fun n s₅ zz => ?_) (is.length + 1) ⟨0, m, H₃, rfl, Nat.zero_le _, S₄, ⟨hz, hTI, ⟨_, _, hTO, .inl ⟨rfl, rfl⟩⟩, hi1, hi2⟩, j0⟩
  clear S₄ hz hTI hTO hi1 hi2 ia1 ia2 ga1 ga2
  refine e3a5 zz fun i m₅ H₅ hn hle S₅ rq196 j₅ => ?_; clear zz; obtain ⟨hz, hTI, od, hi1, hi2⟩ := rq196
  refine e2a2 (id od) fun pa pb hTO _ => ?_
  refine e0a4 (safe i m₅ H₅ j₅) fun sf sm e1' e2' => ?_
  have La1' := e1'.trans La1
  have La2' := e2'.trans La2
  refine e2a5 (S₅.rep.list La1') fun vs1' k1' ga1 _ _ dt1' ia1 => ?_
  refine e2a5 (S₅.rep.list La2') fun vs2' k2' ga2 _ _ dt2' ia2 => ?_
  rw [dt1] at dt1'; rw [dt2] at dt2'
  simp only [Data.seq.injEq] at dt1' dt2'
  obtain rfl : vs1 = vs1' := by have := congrArg Array.toList dt1'.1; simpa using this
  obtain rfl : vs2 = vs2' := by have := congrArg Array.toList dt2'.1; simpa using this
  have hl1 : s₅.heap.IsList l1 vs1.toArray := ⟨_, ga1, cl1, k1, dt1⟩
  have hl2 : s₅.heap.IsList l2 vs2.toArray := ⟨_, ga2, cl2, k2, dt2⟩
  have len1 : vs1.length = is.length := by have := ia1.length; simpa using this
  have len2 : vs2.length = is.length := by have := ia2.length; rw [List.length_map] at this; exact om140 hlen this
  have nTup : ∀ {h : Heap} {H' : AH} {a : Addr} {o : Obj} {vs n}, Rep c H' h → h.get? a = some o → o.cls = .type "tuple" → o.data = .seq vs n → H' a = none := fun {h H' a o vs n} R g cl dt => by
    cases q : H' a with
    | none => rfl
    | some x => refine e1a3 ((R a x q).obj) fun o' g' nt _ => ?_; rw [g] at g'; cases g'; exact absurd dt (nt vs n cl)
  have nRec : ∀ {h : Heap} {H' : AH} {a : Addr} {o : Obj} {vs}, Rep c H' h → h.get? a = some o → o.data = .fields vs → H' a = none := fun {h H' a o vs} R g dt => by
    cases q : H' a with
    | none => rfl
    | some x => refine e1a4 ((R a x q).obj) fun o' g' _ nf _ => ?_; rw [g] at g'; cases g'; exact absurd dt (nf vs)
  refine e1a3 (id hi1) fun oi1 gi1 ci1 di1 => ?_
  refine e1a3 (id hi2) fun oi2 gi2 ci2 di2 => ?_
  have zH : H₅ z = none := nRec S₅.rep hz rfl
  have i1H : H₅ i1 = none := nRec S₅.rep gi1 di1
  have i2H : H₅ i2 = none := nRec S₅.rep gi2 di2
  have toH : H₅ TO = none := nTup S₅.rep hTO rfl rfl
  have tiH : H₅ TI = none := nTup S₅.rep hTI rfl rfl
  have mem4 : ∀ {p : Addr → Prop}, p z → p TO → p i1 → p i2 → ∀ b ∈ [z, TO, i1, i2], p b := fun a b d e => Mine.mem4 a b d e
  have move : ∀ {h' : Heap} {tk : Nat}, (∀ b o, b ≠ z → b ≠ TO → b ≠ i1 → b ≠ i2 → s₅.heap.get? b = some o → h'.get? b = some o) → St c f m₅ H₅ { s₅ with heap := h', toks := tk } := fun {h' tk} hk =>
    S₅.rezip R0 (wr := [z, TO, i1, i2]) (T := TO) od (mem4 (fun _ o vs n g cl => by rw [show s₅.heap.get? z = _ from hz] at g; cases g; exact absurd (show Value.type "zip" = Value.type "tuple" from cl) (by decide)) (fun ne => (ne rfl).elim) (fun _ o vs n g cl => by rw [gi1] at g; cases g; rw [ci1] at cl; exact absurd cl (by decide)) (fun _ o vs n g cl => by rw [gi2] at g; cases g; rw [ci2] at cl; exact absurd cl (by decide)))
      (mem4 aZ aTO aI1 aI2) (mem4 zH toH i1H i2H) sf sm (fun b o hb e => hk b o (fun q => hb (by simp [q])) (fun q => hb (by simp [q])) (fun q => hb (by simp [q])) (fun q => hb (by simp [q])) e) rfl rfl
  by_cases hlt : i < is.length
  · obtain ⟨tn, hxn⟩ := int_of_isAll ia1 (List.getElem?_eq_getElem hlt)
    obtain ⟨tt, hyt⟩ := str_of_isAll ia2 (List.getElem?_eq_getElem (show i < ts.length by exact om141 hlen hlt))
    refine wpAny_pyNext_zip_item D hz hTI hTO hi1 hi2 hl1 hl2 (by simpa using hxn) (by simpa using hyt) fun h₆ z6 to6 i16 i26 T6 sz6 hk6 => ?_
    refine wpAny_letOwnedTupleGo_zip z6 fun h₇ z7 hs7 => ?_
    replace hs7 : Heap.SameBut z h₆ h₇ := hs7
    have Tz : s₅.heap.objs.size ≠ z := Nat.ne_of_gt (Heap.lt_size hz)
    refine wpAny_assign_Tuple hh (show Heap.IsTuple h₇ s₅.heap.objs.size _ from ⟨_, hs7.extBut _ _ Tz T6, rfl, _, rfl⟩) rfl rfl fun h₈ hx8 => ?_
    replace hx8 : Heap.ExtBut h₇.objs.size h₇ h₈ := hx8
    have up : ∀ b o, h₇.get? b = some o → h₈.get? b = some o := fun b o e => hx8 b o (Nat.ne_of_lt (Heap.lt_size e)) e
    have S₈ : St c f m₅ H₅ { s₅ with heap := h₈ } := move (tk := s₅.toks) fun b o n1 n2 n3 n4 e => up b o (hs7.extBut b o n1 (hk6 b o n1 n2 n3 n4 e))
    have z8 : IsZip h₈ z TI TO .none := up _ _ z7
    have ti8 : IsPair h₈ TI (.ref i1) (.ref i2) := up _ _ (hs7.extBut _ _ D.TIz (hk6 _ _ D.TIz D.TITO D.TIi1 D.TIi2 hTI))
    have to8 : IsPair h₈ TO _ _ := up _ _ (hs7.extBut _ _ D.TOz to6)
    have i18 : h₈.IsListIter i1 l1 (i + 1) := i16.at fun o e => up _ _ (hs7.extBut _ _ D.i1z e)
    have i28 : h₈.IsListIter i2 l2 (i + 1) := i26.at fun o e => up _ _ (hs7.extBut _ _ D.i2z e)
    refine e1a3 (id i18) fun oj1 gj1 cj1 dj1 => ?_
    refine e1a3 (id i28) fun oj2 gj2 cj2 dj2 => ?_
    obtain ⟨hE', sub, tE1, tE2, S₉⟩ := S₈.guard (T1 := TO) (T2 := TI) to8 ti8 aTO aTI toH tiH (kp := (z, _) :: (i1, oj1) :: (i2, oj2) :: f.keep) fun p hp => by
      cases hp with
      | head => exact ⟨z8, _, rfl⟩
      | tail _ hp => cases hp with
        | head => exact ⟨gj1, _, dj1⟩
        | tail _ hp => cases hp with
          | head => exact ⟨gj2, _, dj2⟩
          | tail _ hp => exact S₈.kp p hp
    refine wpAny_bind (wpAny_holding (wpAny_assign_Name (store_ok (f := f.guard hE' _) S₉ mk_int hx hfn O.kind fun s₁₀ S₁₀ _ _ => ?_)))
    refine wpAny_bind (wpAny_holding (wpAny_assign_Name (store_ok (f := f.guard hE' _) S₁₀ mk_str hy hfn O.kind fun s₁₁ S₁₁ _ _ => wpAny_pure ?_)))
    refine wpAny_mono ((turn i _ _ m₅ H₅ hE' _ (List.getElem?_eq_getElem hlt) (List.getElem?_eq_getElem (show i < ts.length by exact om141 hlen hlt)) j₅).run s₁₁ S₁₁) (fun fl s₁₂ w => ?_) fun x s' w => ?_
    · refine e3a4 w fun o m₆ H₆ fi S₁₂ rq197 j₆ => ?_; clear w; obtain rfl := rq197
      have kz := (S₁₂.kp _ (.head _)).1
      have k1 := (S₁₂.kp _ (.tail _ (.head _))).1
      have k2 := (S₁₂.kp _ (.tail _ (.tail _ (.head _)))).1
      have HEn : ∀ a, H₅ a = none → f.HE a = none := fun a e => by
        cases q : f.HE a with
        | none => rfl
        | some x => exact absurd e (S₅.up a (by rw [q]; exact fun z => nomatch z))
      have oTO := (S₁₂.off TO _ tE1 (HEn _ toH)).1 aTO.fs
      have oTI := (S₁₂.off TI _ tE2 (HEn _ tiH)).1 aTI.fs
      have S₁₃ := S₁₂.unguard (f := f) sub S₅.bE fun p hp => .tail _ (.tail _ (.tail _ hp))
      cases fl with
      | next => exact ⟨n - 1, by exact om5 hn hlt, i + 1, m₆, H₆, by exact om6 hn hlt, hlt, S₁₃, ⟨kz, oTI, ⟨_, _, oTO, .inr ⟨_, _, _, _, rfl, rfl⟩⟩, ⟨oj1, k1, cj1, dj1⟩, ⟨oj2, k2, cj2, dj2⟩⟩, j₆⟩
      | brk => cases fi
      | cont => cases fi
      | ret v => refine e1a2 fi fun d q _ => ?_; clear fi; cases q
    · refine e4a5 w fun C m' H' e _ _ _ q _ => ?_; clear w
      cases q
  · obtain rfl : i = is.length := by exact om7 hle hlt
    refine wpAny_pyNext_zip_end hh D hz hTI hTO hi1 hi2 hl1 hl2 (.inl (by rw [List.getElem?_toArray, List.getElem?_eq_none (by exact om142 len1)])) fun h₆ hk => ?_
    exact wpAny_execs_nil ((done m₅ H₅ j₅).run _ (move (tk := s₅.toks) hk))
end
end Mine
set_option maxRecDepth 100000
set_option linter.unusedVariables false
namespace Mine
open PySem PyProof.Rows PySem.Builtin PySem.W PySem.Calls
def ddel (kvs : List (Int × V)) (k : Int) : List (Int × V) := kvs.filter fun p => decide (p.1 ≠ k)
theorem ddel_is {h : Heap} {k : Int} : ∀ {kvs : List (Int × V)} {kv : List (Int × Value)}, kv.map (·.1) = kvs.map (·.1) → IsAll h (kvs.map (·.2)) (kv.map (·.2)) →
    (without kv k).map (·.1) = (ddel kvs k).map (·.1) ∧ IsAll h ((ddel kvs k).map (·.2)) ((without kv k).map (·.2))
  | [], [], _, _ => ⟨rfl, isAll_nil _⟩
  | [], _ :: _, e, _ => by simp at e
  | _ :: _, [], e, _ => by simp at e
  | (x, d) :: kvs, (y, v) :: kv, e, i => by
    simp only [List.map_cons, List.cons.injEq] at e
    obtain ⟨rfl, e⟩ := e
    simp only [List.map_cons, IsAll] at i
    refine e2a3 i fun v' r q iv ir => ?_; clear i
    cases q
    obtain ⟨h1, h2⟩ := ddel_is (k := k) e ir
    by_cases q : y = k
    · simp only [without, ddel, List.filter_cons, q, ne_eq, not_true_eq_false, decide_false, Bool.false_eq_true, if_false]
      exact ⟨h1, h2⟩
    · simp only [without, ddel, List.filter_cons, q, ne_eq, not_false_eq_true, decide_true, if_true, List.map_cons]
      refine ⟨?_, isAll_cons iv h2⟩
      rw [List.cons.injEq]; exact ⟨rfl, h1⟩
theorem dget_ddel {kvs : List (Int × V)} {k : Int} (x : Int) : dget (ddel kvs k) x = if x = k then none else dget kvs x := by
  unfold ddel
  induction kvs with
  | nil => simp [dget]
  | cons p r ih =>
    rw [List.filter_cons]
    by_cases q : p.1 = k
    · rw [if_neg (by simp [q]), ih]
      split
      · rfl
      · rename_i n; unfold dget; rw [List.find?_cons_of_neg (by simp; rw [q]; exact fun z => n z.symm)]
    · rw [if_pos (by simp [q])]
      by_cases z : p.1 = x
      · rw [if_neg (by rw [← z]; exact q)]; unfold dget; rw [List.find?_cons_of_pos (by simp [z]), List.find?_cons_of_pos (by simp [z])]
      · unfold dget at ih ⊢; rw [List.find?_cons_of_neg (by simp [z]), List.find?_cons_of_neg (by simp [z])]; exact ih
theorem ddel_nd {kvs : List (Int × V)} {k : Int} (nd : (kvs.map (·.1)).Nodup) : ((ddel kvs k).map (·.1)).Nodup := nd.sublist (List.filter_sublist.map _)
theorem ddel_len {kvs : List (Int × V)} {k : Int} : (ddel kvs k).length ≤ kvs.length := List.length_filter_le _ _
section
variable {c : Cx} {f : Fx} {m : Loc} {H : AH} {X : Value → AH → Prop} {Q : V → AH → Prop}
theorem Ex_exprA {e : Expr} {p : Pos} {rest : List Stmt} {Q : Ko} (h : Ev c f e m H (fun d H' => Ex c f rest m H' Q) (fun C H' => Q (.exc C) m H'))
    (hi : interactive f.env = false := by rfl) (hs : swapsWith e none p.line f.env = pure false := by rfl) : Ex c f (.Expr e p :: rest) m H Q := .mk fun s S => by
  refine wpAny_execs_cons (wpAny_Expr_any (wpAny_mono (h s S) (fun v s₁ z => ?_) fun x s' z => z.ex fun _ _ y => y) hi hs)
  obtain ⟨t, d, H', i, S₁, q⟩ := z
  exact q s₁ S₁
theorem O_pop {a : Addr} {kvs : List (Int × V)} {k : Int} {d : V} (h : DictIs H a kvs) (hd : dget kvs k = some d) (hsz : kvs.length ≤ sizeLine) (q : ∀ o, Q d (H.set a ⟨o, .dict (ddel kvs k)⟩)) : OpN c f (fun vs => call (.builtin "dict.pop") vs) [.ref a, .int k] m H Q X := .mk fun s vs S ia => by
  simp only [IsAll] at ia; refine e2a3 ia fun v r rq198 i rq199 => ?_; clear ia; obtain rfl := rq198; refine e2a3 rq199 fun v' r' rq200 i' rq201 => ?_; clear rq199; obtain rfl := rq200; obtain rfl := rq201
  obtain rfl := is_raw i; obtain ⟨u, rfl⟩ := is_int i'
  refine e1a3 (S.rep.dictOf h) fun kv dd e ia => ?_
  have el : kv.length = kvs.length := by have := congrArg List.length e; simpa using this
  rcases dget_is (k := k) e ia with ⟨z, _⟩ | ⟨d', v, z, hv, iv⟩
  · rw [hd] at z; cases z
  rw [hd] at z; cases z
  refine call_meetsIn PySem.F.slot_dict_pop dd.typeIs PySem.F.entry_dict_pop (PySem.F.args_dict_pop_2 _ _) (meets_dict_pop_there (intKind c.prog c.w) a (k := k) keyInt [] (.inl rfl) rfl) ⟨kv, v, dd, by exact om42 hsz el, hv, fun h' dd' sb => ?_⟩
  obtain ⟨o0, e0⟩ := h
  have nt : Tk s.heap h' := fun b o₁ _ _ e cl dt => ⟨o₁, by
    by_cases z : b = a
    · subst z; refine e3a3 dd fun o' _ _ g' ex _ => ?_; clear dd; rw [g'] at e; cases e; rw [ex.1] at cl; exact absurd cl (by decide)
    · exact sb.extBut b o₁ z e, cl, dt⟩
  refine e3a2 (id dd') fun o es ep g r => ?_
  obtain ⟨p1, p2⟩ := ddel_is (k := k) e (ia.tk nt)
  have := S.upd (s' := { s with heap := h', toks := s.toks + 1 }) (y := ⟨o, .dict (ddel kvs k)⟩) e0 sb.extBut rfl rfl ⟨g, _, dd', p1, p2⟩
  exact ⟨this.2, d, _, iv.tk nt, this.1, q o⟩
theorem Ex_popS {o e : Expr} {ap p p' : Pos} {rest : List Stmt} {Q : Ko} {a : Addr} {kvs : List (Int × V)} {k : Int} {d : V} (ho : Pe c f o m H (.ref a)) (he : Pe c f e m H (.int k)) (h : DictIs H a kvs) (hd : dget kvs k = some d) (hsz : kvs.length ≤ sizeLine) (kk : ∀ o', Ex c f rest m (H.set a ⟨o', .dict (ddel kvs k)⟩) Q)
    (hbase : attributeBase o (Str.ofString "pop") f.env (eval o f.env) = eval o f.env := by rfl) (hst : starEach [e] f.env = (false, eval e f.env) :: starEach [] f.env := by rfl) (hline : (ap.endLine == p.line) = true := by rfl) (hi : interactive f.env = false := by rfl) (hsw : swapsWith (.Call (.Attribute o (Str.ofString "pop") ap) [e] [] p) none p'.line f.env = pure false := by rfl) :
    Ex c f (.Expr (.Call (.Attribute o (Str.ofString "pop") ap) [e] [] p) p' :: rest) m H Q :=
  Ex_exprA (Ev_meth PySem.F.plainAttrs_dict PySem.F.slot_dict_pop (ho.ev ⟨has_dictIs h, Evs_cons (he.ev (Evs_nil (O_pop h hd hsz kk))) hst⟩) PySem.F.type_dict_pop hbase (by rw [hst]; rfl) hline hst rfl) hi hsw
theorem B_ned_len {a b : Addr} {kvs kvs' : List (Int × V)} (ha : DictIs H a kvs) (hb : DictIs H b kvs') (hl : kvs.length ≠ kvs'.length) (hu : f.A.units + 4 < cLine) : B2 c f H (compareOp .NotEq) (.ref a) (.ref b) (.bool true) := .mk fun m s v₁ v₂ S i j => by
  obtain rfl := is_raw i; obtain rfl := is_raw j
  have ns : (a == sysModules) = false := let ⟨o, e⟩ := ha; notSys S e
  have ns' : (b == sysModules) = false := let ⟨o, e⟩ := hb; notSys S e
  refine e1a3 (S.rep.dictOf ha) fun ka da ea ia => ?_
  refine e1a3 (S.rep.dictOf hb) fun kb db eb ib => ?_
  have la : ka.length = kvs.length := by have := congrArg List.length ea; simpa using this
  have lb : kb.length = kvs'.length := by have := congrArg List.length eb; simpa using this
  refine keq_ne (knd := intKind c.prog c.w) (r := true) ns ns' da db (by exact om45 hu) (fun q => absurd q (by exact om143 hl la lb)) ?_
  have e1 : (!(ka.length == kb.length && true)) = true := by
    rw [show (ka.length == kb.length) = false from by simp; exact om143 hl la lb]; rfl
  rw [e1]
  exact ⟨Grow.refl _, rfl, rfl, mk_raw⟩
theorem Pe_cast {e : Expr} {a b : Int} (h : a = b) (p : Pe c f e m H (.int a)) : Pe c f e m H (.int b) := h ▸ p
def leansOn (n : Int) : V → Bool
  | .int b => b == n
  | _ => false
theorem leansOn_iff {n : Int} {d : V} : leansOn n d = true ↔ d = .int n := by
  cases d <;> simp [leansOn]
theorem Entry.eqI {kvs : List (Int × V)} {tx : Int → List Nat} {rk : Int → Nat} {k n : Int} {d : V} (E : Entry kvs tx rk k d) : B2 c f H (compareOp .Eq) (base0 d) (.int n) (.bool (leansOn n (base0 d))) := by
  cases E with
  | root =>
    refine .mk fun m s v₁ v₂ S i₁ i₂ => ?_
    obtain rfl := is_raw i₁; obtain ⟨u, rfl⟩ := is_int i₂
    exact PySem.EqNone.eq_none_int ⟨Grow.refl _, rfl, rfl, mk_raw⟩
  | lean b a gone come hb hlt st => exact B_eq
end
end Mine
set_option maxRecDepth 100000
set_option linter.unusedVariables false
namespace Mine
open PySem
def fbase (b0 : V) (ls : List Int) (i : Nat) : V := match b0 with
  | .int b => .int b
  | _ => if i = 0 then .none else .int (ls.getD 0 0)
def FEnt (b0 : V) (ls : List Int) (tx : Int → List Nat) (i : Nat) (k : Int) (d : V) : Prop :=
  (fbase b0 ls i = .none ∧ d = .tup [.none, .s (tx k)]) ∨ ∃ (b : Int) (a e : Nat), fbase b0 ls i = .int b ∧ Chg (tx b) (tx k) a e ∧ d = .tup [.int b, chg a (((tx b).take ((tx b).length - e)).drop a) (((tx k).take ((tx k).length - e)).drop a)]
structure Leans (kvs : List (Int × V)) (n : Int) (ls : List Int) : Prop where
  pw : ls.Pairwise (· < ·)
  mem : ∀ y, y ∈ ls ↔ Key kvs y ∧ base0 (dgetD kvs y) = .int n
theorem Leans.nd {kvs : List (Int × V)} {n : Int} {ls : List Int} (L : Leans kvs n ls) : ls.Nodup := L.pw.imp fun h => Int.ne_of_lt h
theorem Leans.uniq {kvs : List (Int × V)} {n : Int} {ls ls' : List Int} (L : Leans kvs n ls) (L' : Leans kvs n ls') : ls = ls' :=
  sorted_uniq (perm_of_nodup L.nd L'.nd fun y => by rw [L.mem, L'.mem]) (L.pw.imp Int.le_of_lt) (L'.pw.imp Int.le_of_lt)
theorem srt_lt {kvs : List (Int × V)} {srt : List Int} (S : Srt kvs srt) (nd : (kvs.map (·.1)).Nodup) : srt.Pairwise (· < ·) :=
  (S.pw.and (S.nd nd)).imp fun h => Int.lt_iff_le_and_ne.mpr h
theorem leans_of {kvs : List (Int × V)} {srt : List Int} (S : Srt kvs srt) (nd : (kvs.map (·.1)).Nodup) (n : Int) : Leans kvs n (srt.filter fun k => leansOn n (base0 (dgetD kvs k))) where
  pw := (srt_lt S nd).sublist List.filter_sublist
  mem := fun y => by rw [List.mem_filter, S.mem, leansOn_iff]
structure Forgot (kv kv' : List (Int × V)) (n : Int) (b0 : V) (ls : List Int) (tx : Int → List Nat) : Prop where
  nd : (kv'.map (·.1)).Nodup
  len : kv'.length ≤ kv.length
  key : ∀ x, Key kv' x ↔ Key kv x ∧ x ≠ n
  off : ∀ x, x ≠ n → x ∉ ls → dget kv' x = dget kv x
  on : ∀ (i : Nat) k d, ls[i]? = some k → dget kv' k = some d → FEnt b0 ls tx i k d
theorem Held.forget {kv kv' : List (Int × V)} {tx : Int → List Nat} {rk : Int → Nat} (E : Held kv tx rk) {n : Int} {ls : List Int} (hn : Key kv n) (L : Leans kv n ls) (F : Forgot kv kv' n (base0 (dgetD kv n)) ls tx) : ∃ rk', Held kv' tx rk' := by
  have up : ∀ k b, Key kv k → base0 (dgetD kv k) = .int b → Key kv b ∧ rk b < rk k := fun k b hk hb => by
    have := E.ent k _ (dgetD_key hk)
    generalize dgetD kv k = d at this hb
    cases this with
    | root => cases hb
    | lean b' a gone come h1 h2 h3 => cases hb; exact ⟨h1, h2⟩
  have fb : ∀ (i : Nat) k b, ls[i]? = some k → fbase (base0 (dgetD kv n)) ls i = .int b → (Key kv' b ∧ ((rk b < rk n) ∨ (ls[0]? = some b ∧ fbase (base0 (dgetD kv n)) ls 0 = .none))) := fun i k b hi hb => by
    have hnn := up n
    have hen := E.ent n _ (dgetD_key hn)
    generalize dgetD kv n = d0 at hb hnn hen
    cases hen with
    | root =>
      have hb : (if i = 0 then V.none else .int (ls.getD 0 0)) = .int b := hb
      by_cases i0 : i = 0
      · rw [if_pos i0] at hb; cases hb
      · rw [if_neg i0] at hb
        have h0 : 0 < ls.length := by have := (List.getElem?_eq_some_iff.mp hi).1; exact om144 this
        have e0 : ls[0]? = some (ls.getD 0 0) := by rw [List.getD_eq_getElem?_getD, List.getElem?_eq_getElem h0]; rfl
        cases hb
        have hm := (L.mem _).mp (List.mem_of_getElem? e0)
        refine ⟨(F.key _).mpr ⟨hm.1, fun q => ?_⟩, .inr ⟨e0, rfl⟩⟩
        have := (up _ n hm.1 hm.2).2
        rw [q] at this; exact om145 this
    | lean b' a gone come h1 h2 h3 =>
      have hb : V.int b' = .int b := hb
      cases hb
      exact ⟨(F.key _).mpr ⟨h1, fun q => by rw [q] at h2; exact om145 h2⟩, .inl h2⟩
  refine Held.of_chains F.nd (Nat.le_trans F.len E.few) (fun k d hd => ?_) (fun k hk => ?_) fun k hk => E.short k ((F.key k).mp hk).1
  · have hk := (F.key k).mp ⟨d, hd⟩
    by_cases hl : k ∈ ls
    · obtain ⟨i, hi⟩ := List.getElem?_of_mem hl
      rcases F.on i k d hi hd with ⟨_, rfl⟩ | ⟨b, a, e, hb, C, rfl⟩
      · exact .root
      · have st := C.step (Nat.le_refl a)
        rw [List.drop_eq_nil_of_le (by rw [List.length_take]; exact om146), List.nil_append, List.nil_append] at st
        exact .lean b a _ _ (fb i k b hi hb).1 st
    · rw [F.off k hk.2 hl] at hd
      have en := E.ent k d hd
      cases en with
      | root => exact .root
      | lean b a gone come h1 h2 h3 =>
        refine .lean b a gone come ((F.key b).mpr ⟨h1, fun q => hl ((L.mem k).mpr ⟨hk.1, ?_⟩)⟩) h3
        rw [dgetD_of hd, q]; rfl
  · have main : ∀ r k, rk k ≤ r → Key kv' k → ∃ xs, IsChain (bases kv') k xs := by
      intro r
      induction r with
      | zero =>
        intro k hr hk'
        obtain ⟨d, hd⟩ := hk'
        have hk := (F.key k).mp ⟨d, hd⟩
        by_cases hl : k ∈ ls
        · have hm := (L.mem k).mp hl
          have := (up k n hm.1 hm.2).2
          exact (om85 hr this).elim
        · have hd2 := hd
          rw [F.off k hk.2 hl] at hd2
          have en := E.ent k d hd2
          cases en with
          | root => exact ⟨_, .stop (by rw [dget_bases, hd]; rfl)⟩
          | lean b a gone come h1 h2 h3 => exact (om85 hr h2).elim
      | succ r ih =>
        intro k hr hk'
        obtain ⟨d, hd⟩ := hk'
        have hk := (F.key k).mp ⟨d, hd⟩
        by_cases hl : k ∈ ls
        · obtain ⟨i, hi⟩ := List.getElem?_of_mem hl
          have hm := (L.mem k).mp hl
          have hrn := (up k n hm.1 hm.2).2
          rcases F.on i k d hi hd with ⟨_, rfl⟩ | ⟨b, a, e, hb, C, rfl⟩
          · exact ⟨_, .stop (by rw [dget_bases, hd]; rfl)⟩
          · obtain ⟨kb, h | ⟨h0, hf0⟩⟩ := fb i k b hi hb
            · obtain ⟨xs, hx⟩ := ih b (by exact om147 hr hrn h) kb
              exact ⟨_, .step (by rw [dget_bases, hd]; rfl) hx⟩
            · obtain ⟨d0, hd0⟩ := id kb
              rcases F.on 0 b d0 h0 hd0 with ⟨_, rfl⟩ | ⟨b2, a2, e2, hb2, _, _⟩
              · exact ⟨_, .step (by rw [dget_bases, hd]; rfl) (.stop (by rw [dget_bases, hd0]; rfl))⟩
              · rw [hf0] at hb2; cases hb2
        · have hd2 := hd
          rw [F.off k hk.2 hl] at hd2
          have en := E.ent k d hd2
          cases en with
          | root => exact ⟨_, .stop (by rw [dget_bases, hd]; rfl)⟩
          | lean b a gone come h1 h2 h3 =>
            have kb : Key kv' b := (F.key b).mpr ⟨h1, fun q => hl ((L.mem k).mpr ⟨hk.1, by rw [dgetD_of hd2, q]; rfl⟩)⟩
            obtain ⟨xs, hx⟩ := ih b (by exact om86 hr h2) kb
            exact ⟨_, .step (by rw [dget_bases, hd]; rfl) hx⟩
    exact main (rk k) k (Nat.le_refl _) hk
theorem filter_range {α : Type} (l : List Int) (p : Int → Bool) (g : Int → α) : ((List.range l.length).filter fun i => p (l.getD i 0)).map (fun i => g (l.getD i 0)) = (l.filter p).map g := by
  have e : l = (List.range l.length).map fun i => l.getD i 0 := by
    apply List.ext_getElem?
    intro i
    by_cases h : i < l.length
    · rw [List.getElem?_map, List.getElem?_range h, List.getElem?_eq_getElem h, Option.map_some, List.getD_eq_getElem?_getD, List.getElem?_eq_getElem h]; rfl
    · rw [List.getElem?_eq_none (by exact om46 h), List.getElem?_eq_none (by simp; exact om46 h)]
  generalize hl : l.length = n at e
  rw [e, List.filter_map, List.map_map]
  have : ∀ i ∈ List.range n, ((List.range n).map fun i => l.getD i 0).getD i 0 = l.getD i 0 := fun i hi => by rw [← e]
  rw [List.filter_congr (fun i hi => by rw [this i hi]; rfl : ∀ i ∈ List.range n, p (((List.range n).map fun i => l.getD i 0).getD i 0) = (p ∘ fun i => l.getD i 0) i)]
  apply List.map_congr_left
  intro i hi
  rw [this i (List.mem_filter.mp hi).1]; rfl
end Mine
set_option maxRecDepth 100000
set_option linter.unusedVariables false
namespace Mine
open PySem
theorem flip_base {one : Int} {kvs : List (Int × V)} {tx : Int → List Nat} {rk : Int → Nat} {k : Int} {d : V} (E : Entry kvs tx rk k d) {b : Int} (h : base0 d = .int b) : base0 (flip one d) = .int one := by
  cases E with
  | root => cases h
  | lean b' a gone come _ _ _ => rfl
theorem TurnOf.up {kv kv' : List (Int × V)} {tx : Int → List Nat} {rk : Int → Nat} (E : Held kv tx rk) {n : Int} {xs : List Int} {t0 : List Nat} (hx : IsChain (bases kv) n xs) (T : TurnOf kv kv' xs t0) : ∀ (j : Nat) x, xs[j]? = some x → IsChain (bases kv') x ((xs.take (j + 1)).reverse) := by
  intro j
  induction j with
  | zero =>
    intro x h
    have e : (xs.take (0 + 1)).reverse = [x] := by rw [List.take_add_one, h]; simp
    rw [e]
    refine .stop ?_
    rw [dget_bases, T.done 0 x trivial h]; rfl
  | succ j ih =>
    intro x h
    have hlt : j < xs.length := by have := (List.getElem?_eq_some_iff.mp h).1; exact om139 this
    have hj := List.getElem?_eq_getElem hlt
    have e : (xs.take (j + 1 + 1)).reverse = x :: (xs.take (j + 1)).reverse := by rw [List.take_add_one, h]; simp
    rw [e]
    refine .step (b := xs[j]) ?_ (ih _ hj)
    rw [dget_bases, T.done (j + 1) x trivial h]
    have nx := hx.next j _ hj
    rw [h] at nx
    have hk : Key kv xs[j] := key_bases.mp (hx.keys _ (List.mem_of_getElem? hj))
    rw [dget_bases, dgetD_key hk] at nx
    have gt : xs.getD j 0 = xs[j] := by rw [List.getD_eq_getElem?_getD, hj]; rfl
    show some (base0 (flip (xs.getD j 0) (dgetD kv (xs.getD j 0)))) = _
    rw [gt]
    simp only [Option.map_some, Option.some.injEq, optV] at nx
    rw [flip_base (E.ent _ _ (dgetD_key hk)) nx]
theorem TurnOf.chain {kv kv' : List (Int × V)} {tx : Int → List Nat} {rk : Int → Nat} (E : Held kv tx rk) {n : Int} {xs : List Int} {t0 : List Nat} (hx : IsChain (bases kv) n xs) (T : TurnOf kv kv' xs t0) {v : Int} {ys : List Int} (hy : IsChain (bases kv) v ys) :
    ∃ zs, IsChain (bases kv') v zs ∧ (((∀ y ∈ ys, y ∉ xs) ∧ zs = ys) ∨ ∃ (i j : Nat) (x : Int), ys[i]? = some x ∧ xs[j]? = some x ∧ (∀ i' y, i' < i → ys[i']? = some y → y ∉ xs) ∧ zs = ys.take i ++ (xs.take (j + 1)).reverse) := by
  have off : ∀ y, y ∉ xs → dget (bases kv') y = dget (bases kv) y := fun y h => by
    rw [dget_bases, dget_bases, T.off y fun j _ q => h (List.mem_of_getElem? q)]
  induction hy with
  | @stop v h =>
    by_cases hv : v ∈ xs
    · obtain ⟨j, hj⟩ := List.getElem?_of_mem hv
      exact ⟨_, T.up E hx j v hj, .inr ⟨0, j, v, rfl, hj, fun i' y h => by exact (om148 h).elim, rfl⟩⟩
    · exact ⟨[v], .stop (by rw [off v hv]; exact h), .inl ⟨fun y hy => by rw [List.mem_singleton] at hy; subst hy; exact hv, rfl⟩⟩
  | @step v b r h hr ih =>
    by_cases hv : v ∈ xs
    · obtain ⟨j, hj⟩ := List.getElem?_of_mem hv
      exact ⟨_, T.up E hx j v hj, .inr ⟨0, j, v, rfl, hj, fun i' y h => by exact (om148 h).elim, rfl⟩⟩
    · refine e1a2 ih fun zs hz q => ?_; clear ih
      refine ⟨v :: zs, .step (by rw [off v hv]; exact h) hz, ?_⟩
      rcases q with ⟨q1, rfl⟩ | ⟨i, j, x, h1, h2, h3, rfl⟩
      · refine .inl ⟨fun y hy => ?_, rfl⟩
        cases hy with
        | head => exact hv
        | tail _ hy => exact q1 y hy
      · refine .inr ⟨i + 1, j, x, h1, h2, fun i' y hi hy => ?_, rfl⟩
        cases i' with
        | zero => simp at hy; subst hy; exact hv
        | succ i' => exact h3 i' y (by exact om149 hi) hy
theorem TurnOf.length {kv kv' : List (Int × V)} {tx : Int → List Nat} {rk : Int → Nat} (E : Held kv tx rk) {n : Int} {xs : List Int} {t0 : List Nat} (hx : IsChain (bases kv) n xs) (T : TurnOf kv kv' xs t0) {pt : Int → List Int} (PT : Paths (bases kv) pt) (hpt : ∀ v ys, IsChain (bases kv) v ys → pt v = ys.reverse) {v : Int} {ys zs : List Int} (hy : IsChain (bases kv) v ys) (hz : IsChain (bases kv') v zs) :
    (Same pt n v ∧ zs.length = ds pt n v + 1) ∨ (¬ Same pt n v ∧ zs = ys) := by
  have kn : Key (bases kv) n := let ⟨r, e⟩ := hx.head; hx.keys n (by rw [e]; exact .head _)
  have kv_ : Key (bases kv) v := let ⟨r, e⟩ := hy.head; hy.keys v (by rw [e]; exact .head _)
  refine e1a2 (T.chain E hx hy) fun zs' hz' q => ?_
  have := hz.uniq hz'
  subst this
  by_cases hs : Same pt n v
  · refine .inl ⟨hs, ?_⟩
    refine e3a6 (PT.between kv_ kn hs.symm (hpt v ys hy) (hpt n xs hx)) fun k j x k1 k2 k3 k4 k5 k6 => ?_
    rcases q with ⟨q1, _⟩ | ⟨i, j', x', h1, h2, h3, rfl⟩
    · exact absurd (List.mem_of_getElem? k3) (q1 x (List.mem_of_getElem? k2))
    · have ei : i = k := by
        rcases Nat.lt_trichotomy i k with h | h | h
        · exact absurd (List.mem_of_getElem? h2) (k5 i x' h h1)
        · exact h
        · exact absurd (List.mem_of_getElem? k3) (h3 k x h k2)
      subst ei
      rw [h1] at k2; cases k2
      have ej : j' = j := by
        obtain ⟨a1, b1⟩ := List.getElem?_eq_some_iff.mp h2
        obtain ⟨a2, b2⟩ := List.getElem?_eq_some_iff.mp k3
        exact (List.getElem_inj (h₀ := a1) (h₁ := a2) hx.nodup).mp (b1.trans b2.symm)
      subst ej
      have := (List.getElem?_eq_some_iff.mp h2).1
      rw [List.length_append, List.length_take, List.length_reverse, List.length_take, ds_comm]
      exact om150 k1 k4 this
  · refine .inr ⟨hs, ?_⟩
    rcases q with ⟨_, rfl⟩ | ⟨i, j', x', h1, h2, h3, rfl⟩
    · rfl
    · exfalso
      apply hs
      have e1 := hpt v ys hy
      have e2 := hpt n xs hx
      have rv : ∀ {l : List Int} {i : Nat} {x : Int}, l[i]? = some x → l.reverse[l.length - 1 - i]? = some x := fun {l i x} h => by
        have hl := (List.getElem?_eq_some_iff.mp h).1
        rw [List.getElem?_reverse (by exact om100 hl)]
        rw [show l.length - 1 - (l.length - 1 - i) = i by exact om101 hl]; exact h
      have g1 := rv h2; rw [← e2] at g1
      have g2 := rv h1; rw [← e1] at g2
      have := (PT.meet kn kv_ g1 g2).2
      show 1 ≤ cp (pt n) (pt v)
      exact om151 this
structure Mid (kb : List (Int × V)) (pt : Int → List Int) (u x : Int) (Ec : Int → Nat) : Prop where
  key : Key kb x
  same : Same pt u x
  ecc : ∀ v, Key kb v → Same pt u v → (∃ w, Key kb w ∧ Same pt u w ∧ Ec v = ds pt v w) ∧ ∀ w, Key kb w → Same pt u w → ds pt v w ≤ Ec v
  best : ∀ v, Key kb v → Same pt u v → Ec x ≤ Ec v ∧ (Ec v = Ec x → v ≤ x)
theorem Mid.sim {kb kb' : List (Int × V)} {pt : Int → List Int} {u x : Int} {Ec : Int → Nat} (M : Mid kb pt u x Ec) (s : Sim kb kb') : Mid kb' pt u x Ec where
  key := s.key.mp M.key
  same := M.same
  ecc := fun v kv sv => let ⟨⟨w, a, b, e⟩, q⟩ := M.ecc v (s.key.mpr kv) sv; ⟨⟨w, s.key.mp a, b, e⟩, fun w kw sw => q w (s.key.mpr kw) sw⟩
  best := fun v kv sv => M.best v (s.key.mpr kv) sv
def lent (o : Int) (old new : List Nat) (a e : Nat) : V := .tup [.int o, .tup [.int a, .s ((old.take (old.length - e)).drop a), .s ((new.take (new.length - e)).drop a)]]
inductive Stored (kvs kvs' : List (Int × V)) (tx : Int → List Nat) (b n : Int) (l : List Nat) : V → Prop
  | none : kvs' = kvs ++ [(n, .tup [.none, .s l])] → Stored kvs kvs' tx b n l .none
  | lean (o : Int) (a e : Nat) (xs : List Int) : Chg (tx o) l a e → IsChain (bases kvs) o xs → (xs.length : Int) ≤ b → kvs' = kvs ++ [(n, lent o (tx o) l a e)] → Stored kvs kvs' tx b n l (.int o)
  | far (o : Int) (xs : List Int) (pt : Int → List Int) (mid : Int) (Ec : Int → Nat) : IsChain (bases kvs) o xs → b < (xs.length : Int) → Paths (bases kvs ++ [(n, .int o)]) pt → (∀ v ys, IsChain (bases kvs ++ [(n, .int o)]) v ys → pt v = ys.reverse) → Mid (bases kvs ++ [(n, .int o)]) pt n mid Ec → b < (Ec mid : Int) → kvs' = kvs ++ [(n, .tup [.none, .s l])] → Stored kvs kvs' tx b n l (.int o)
  | turned (o : Int) (a e : Nat) (xs : List Int) (pt : Int → List Int) (mid : Int) (Ec : Int → Nat) (zs : List Int) : Chg (tx o) l a e → IsChain (bases kvs) o xs → b < (xs.length : Int) → Paths (bases kvs ++ [(n, .int o)]) pt → (∀ v ys, IsChain (bases kvs ++ [(n, .int o)]) v ys → pt v = ys.reverse) → Mid (bases kvs ++ [(n, .int o)]) pt n mid Ec → (Ec mid : Int) ≤ b →
      IsChain (bases (kvs ++ [(n, lent o (tx o) l a e)])) mid zs → TurnOf (kvs ++ [(n, lent o (tx o) l a e)]) kvs' zs (if mid = n then l else tx mid) → Stored kvs kvs' tx b n l (.int o)
def Fits (kvs : List (Int × V)) (b : Int) : Prop := ∀ k xs, IsChain (bases kvs) k xs → (xs.length : Int) ≤ b + 1
theorem lent_step {o : Int} {old new : List Nat} {a e : Nat} (C : Chg old new a e) : ∃ g d, lent o old new a e = .tup [.int o, chg a g d] ∧ Step old new a g d := by
  have st := C.step (Nat.le_refl a)
  rw [List.drop_eq_nil_of_le (by rw [List.length_take]; exact om146), List.nil_append, List.nil_append] at st
  exact ⟨_, _, rfl, st⟩
theorem key_put {kvs : List (Int × V)} {n : Int} {d : V} (y : Int) : Key (kvs ++ [(n, d)]) y ↔ Key kvs y ∨ y = n := by
  rw [key_iff, key_iff, List.map_append, List.mem_append]; simp
theorem Held.put_root {kvs : List (Int × V)} {tx : Int → List Nat} {rk : Int → Nat} (E : Held kvs tx rk) {n : Int} {l : List Nat} (hn : ¬ Key kvs n) (few : kvs.length < 40) (hl : l.length ≤ 20000) : Held (kvs ++ [(n, .tup [.none, .s l])]) (fun y => if y = n then l else tx y) rk :=
  E.put (fun q => hn (key_iff.mpr q)) few hl (.inl rfl)
theorem Fits.put {kvs : List (Int × V)} {b n : Int} {d : V} (F : Fits kvs b) (hn : ¬ Key kvs n) (ch : ∀ k, Key kvs k → ∃ xs, IsChain (bases kvs) k xs) (h0 : 0 ≤ b) (hd : base0 d = .none ∨ ∃ o xs, base0 d = .int o ∧ IsChain (bases kvs) o xs ∧ (xs.length : Int) ≤ b) : Fits (kvs ++ [(n, d)]) b := fun k xs h => by
  have kb : ∀ x, Key (bases kvs) x → dget (bases (kvs ++ [(n, d)])) x = dget (bases kvs) x := fun x hx => by
    rw [bases_put]; exact dget_put (fun q => hn (key_bases.mp q)) x hx
  have dn : dget (bases (kvs ++ [(n, d)])) n = some (base0 d) := by rw [bases_put, dget_snoc (by rw [keys_bases]; exact fun q => hn (key_iff.mpr q)), if_pos rfl]
  have hk : Key (kvs ++ [(n, d)]) k := key_bases.mp (let ⟨r, e⟩ := h.head; h.keys k (by rw [e]; exact .head _))
  rcases (key_put k).mp hk with hk | rfl
  · obtain ⟨ys, hy⟩ := ch k hk
    rw [h.uniq (hy.keep kb)]
    exact F k ys hy
  · rcases hd with e | ⟨o, ys, e, hy, hl⟩
    · rw [e] at dn
      rw [h.uniq (.stop dn)]; simp; exact om152 h0
    · rw [e] at dn
      rw [h.uniq (.step dn (hy.keep kb))]; simp; exact om153 hl
theorem TurnOf.fits {kv kv' : List (Int × V)} {tx : Int → List Nat} {rk : Int → Nat} (E : Held kv tx rk) {n b : Int} {xs : List Int} {t0 : List Nat} (hx : IsChain (bases kv) n xs) (T : TurnOf kv kv' xs t0) {pt : Int → List Int} (PT : Paths (bases kv) pt) (hpt : ∀ v ys, IsChain (bases kv) v ys → pt v = ys.reverse)
    (h1 : ∀ v, Key (bases kv) v → Same pt n v → (ds pt n v : Int) ≤ b) (h2 : ∀ v ys, IsChain (bases kv) v ys → ¬ Same pt n v → (ys.length : Int) ≤ b + 1) : Fits kv' b := fun v zs hz => by
  have kv1 : Key kv v := by
    have : Key kv' v := key_bases.mp (let ⟨r, e⟩ := hz.head; hz.keys v (by rw [e]; exact .head _))
    rw [key_iff, T.keys, ← key_iff] at this; exact this
  refine e1a2 (E.chain kv1) fun ys hy _ => ?_
  rcases T.length E hx PT hpt hy hz with ⟨s, e⟩ | ⟨s, rfl⟩
  · have := h1 v (key_bases.mpr kv1) s
    exact om154 e this
  · exact h2 v _ hy s
theorem Stored.facts {kvs kvs' : List (Int × V)} {tx : Int → List Nat} {rk : Int → Nat} {b n : Int} {l : List Nat} {bes : V} (S : Stored kvs kvs' tx b n l bes) (E : Held kvs tx rk) (hn : ¬ Key kvs n) (few : kvs.length < 40) (hl : l.length ≤ 20000) (h0 : 0 ≤ b) :
    (∃ rk', Held kvs' (fun y => if y = n then l else tx y) rk') ∧ (∀ y, Key kvs' y ↔ Key kvs y ∨ y = n) ∧ kvs'.length = kvs.length + 1 ∧ (Fits kvs b → Fits kvs' b) := by
  have ch : ∀ k, Key kvs k → ∃ xs, IsChain (bases kvs) k xs := fun k hk => let ⟨xs, h, _⟩ := E.chain hk; ⟨xs, h⟩
  cases S with
  | none e => subst e; exact ⟨⟨rk, E.put_root hn few hl⟩, key_put, by simp, fun F => F.put hn ch h0 (.inl rfl)⟩
  | lean o a e xs C hx hb q =>
    subst q
    refine e2a2 (lent_step (o := o) C) fun g d hd st => ?_
    have ko : Key kvs o := key_bases.mp (let ⟨r, e⟩ := hx.head; hx.keys o (by rw [e]; exact .head _))
    refine ⟨?_, key_put, by simp, fun F => F.put hn ch h0 (.inr ⟨o, xs, rfl, hx, hb⟩)⟩
    rw [hd]; exact E.put_lean hn ko few hl st
  | far o xs pt mid Ec hx hb PT hpt M hm q => subst q; exact ⟨⟨rk, E.put_root hn few hl⟩, key_put, by simp, fun F => F.put hn ch h0 (.inl rfl)⟩
  | turned o a e xs pt mid Ec zs C hx hb PT hpt M hm hz T =>
    refine e2a2 (lent_step (o := o) C) fun g d hd st => ?_
    have ko : Key kvs o := key_bases.mp (let ⟨r, e⟩ := hx.head; hx.keys o (by rw [e]; exact .head _))
    obtain ⟨rk1, E1⟩ : ∃ rk', Held (kvs ++ [(n, lent o (tx o) l a e)]) (fun y => if y = n then l else tx y) rk' := by rw [hd]; exact E.put_lean hn ko few hl st
    have keys := T.keys
    have bp : bases (kvs ++ [(n, lent o (tx o) l a e)]) = bases kvs ++ [(n, .int o)] := by rw [bases_put]; rfl
    refine ⟨E1.turn hz T, fun y => ?_, ?_, fun F => ?_⟩
    · rw [key_iff, keys, ← key_iff]; exact key_put y
    · have := congrArg List.length keys; simpa using this
    · rw [← bp] at PT hpt M
      have same := M.same
      refine T.fits E1 hz PT hpt (fun v kv sv => ?_) fun v ys hy ns => ?_
      · have := (M.ecc mid M.key M.same).2 v kv (M.same.trans sv)
        exact om155 hm this
      · have kv1 := key_bases.mp (let ⟨r, e⟩ := hy.head; hy.keys v (by rw [e]; exact .head _))
        rcases (key_put v).mp kv1 with hk | rfl
        · obtain ⟨ws, hw⟩ := ch v hk
          have hw' := hw.keep (kvs' := bases (kvs ++ [(n, lent o (tx o) l a e)])) fun x hx => by rw [bases_put]; exact dget_put (fun q => hn (key_bases.mp q)) x hx
          rw [hy.uniq hw']; exact F v ws hw
        · exact (ns M.same.symm).elim
end Mine
set_option maxRecDepth 100000
set_option linter.unusedVariables false
namespace Mine
open PySem PyProof.Rows PySem.Builtin PySem.W PySem.Calls
section
variable {c : Cx} {f : Fx} {m : Loc} {H : AH} {X : Value → AH → Prop} {Q : V → AH → Prop}
theorem Ex.gen {sts : List Stmt} {Q : Ko} (h : ∀ Q' : Ko, (∀ o m' H', Q o m' H' → Q' o m' H') → Ex c f sts m H Q') : Ex c f sts m H Q := h Q fun _ _ _ q => q
end
end Mine
set_option maxRecDepth 100000
set_option linter.unusedVariables false
namespace Mine
open PySem
theorem IsChain.key0 {kvs : List (Int × V)} {k : Int} {xs : List Int} (h : IsChain kvs k xs) : Key kvs k := let ⟨r, e⟩ := h.head; h.keys k (by rw [e]; exact .head _)
theorem IsChain.pos {kvs : List (Int × V)} {k : Int} {xs : List Int} (h : IsChain kvs k xs) : 1 ≤ xs.length := by
  obtain ⟨r, e⟩ := h.head
  rw [e]; exact Nat.le_add_left _ _
theorem Fits.lean {kvs : List (Int × V)} {tx : Int → List Nat} {rk : Int → Nat} (E : Held kvs tx rk) {n o b hi : Int} {xs : List Int} {d : V} (F : Fits kvs b) (HI : Hi kvs n hi) (hx : IsChain (bases kvs) o xs) (hno : n ∉ xs) (hb : hi + xs.length ≤ b) (hn : Key kvs n) (hd : base0 d = .int o) : Fits (dset kvs n d) b := by
  have db : ∀ y, dget (bases (dset kvs n d)) y = if y = n then some (.int o) else dget (bases kvs) y := fun y => by
    rw [dget_bases, dget_dset]
    split
    · rw [Option.map_some, hd]
    · rw [dget_bases]
  have keep : ∀ v ys, IsChain (bases kvs) v ys → n ∉ ys → IsChain (bases (dset kvs n d)) v ys := fun v ys h => by
    induction h with
    | stop h => intro q; exact .stop (by rw [db, if_neg (fun e => q (by rw [← e]; exact .head _))]; exact h)
    | step h _ ih => intro q; exact .step (by rw [db, if_neg (fun e => q (by rw [← e]; exact .head _))]; exact h) (ih fun z => q (.tail _ z))
  have hnew : IsChain (bases (dset kvs n d)) n (n :: xs) := .step (by rw [db, if_pos rfl]) (keep o xs hx hno)
  have main : ∀ k ys, IsChain (bases kvs) k ys → ∃ zs, IsChain (bases (dset kvs n d)) k zs ∧ ((n ∉ ys ∧ zs = ys) ∨ (n ∈ ys ∧ zs.length = ys.idxOf n + 1 + xs.length)) := fun k ys h => by
    induction h with
    | @stop k h =>
      by_cases q : k = n
      · subst q
        exact ⟨_, hnew, .inr ⟨.head _, by simp; exact om156⟩⟩
      · exact ⟨[k], .stop (by rw [db, if_neg q]; exact h), .inl ⟨fun z => by rw [List.mem_singleton] at z; exact q z.symm, rfl⟩⟩
    | @step k b' r h hr ih =>
      by_cases q : k = n
      · subst q
        exact ⟨_, hnew, .inr ⟨.head _, by simp; exact om156⟩⟩
      · refine e1a2 ih fun zs hz z => ?_; clear ih
        refine ⟨k :: zs, .step (by rw [db, if_neg q]; exact h) hz, ?_⟩
        rcases z with ⟨z1, rfl⟩ | ⟨z1, z2⟩
        · refine .inl ⟨fun w => ?_, rfl⟩
          cases w with
          | head => exact q rfl
          | tail _ w => exact z1 w
        · refine .inr ⟨.tail _ z1, ?_⟩
          rw [List.idxOf_cons, List.length_cons, z2]
          rw [show (k == n) = false from by simpa using q]
          simp; exact om157
  intro k zs hz
  have hk : Key kvs k := by
    have := key_bases.mp hz.key0
    rw [key_iff, keys_dset hn, ← key_iff] at this; exact this
  refine e1a2 (E.chain hk) fun ys hy _ => ?_
  refine e1a2 (main k ys hy) fun zs' hz' q => ?_
  rw [hz.uniq hz']
  rcases q with ⟨_, rfl⟩ | ⟨q1, q2⟩
  · exact F k _ hy
  · have := HI.le k ys hy q1
    exact om158 hb q2 this
theorem Fits.forget {kv kv' : List (Int × V)} {tx : Int → List Nat} {rk : Int → Nat} (E : Held kv tx rk) {n b : Int} {ls : List Int} (hn : Key kv n) (L : Leans kv n ls) (F : Forgot kv kv' n (base0 (dgetD kv n)) ls tx) (h : Fits kv b) : Fits kv' b := by
  have bs : ∀ k, Key kv k → dget (bases kv) k = some (base0 (dgetD kv k)) := fun k hk => by rw [dget_bases, dgetD_key hk]; rfl
  have main : ∀ (m : Nat) k ys, ys.length ≤ m → IsChain (bases kv) k ys → k ≠ n → ∃ zs, IsChain (bases kv') k zs ∧ zs.length ≤ ys.length := by
    intro m
    induction m with
    | zero => intro k ys hl hy; have := hy.pos; exact (om159 hl this).elim
    | succ m ih =>
      intro k ys hl hy hkn
      have hk : Key kv k := key_bases.mp hy.key0
      have hk' : Key kv' k := (F.key k).mpr ⟨hk, hkn⟩
      obtain ⟨d, hd⟩ := hk'
      by_cases hl2 : k ∈ ls
      · obtain ⟨i, hi⟩ := List.getElem?_of_mem hl2
        have hm := ((L.mem k).mp hl2).2
        have bk := bs k hk
        rw [hm] at bk
        rcases F.on i k d hi hd with ⟨_, rfl⟩ | ⟨bb, a, e, hb, C, rfl⟩
        · exact ⟨[k], .stop (by rw [dget_bases, hd]; rfl), hy.pos⟩
        · -- the chain of k begins k, n
          cases hy with
          | stop h0 => rw [bk] at h0; cases h0
          | @step _ b2 r h0 hr =>
            rw [bk] at h0; cases h0
            have bn := bs n hn
            generalize base0 (dgetD kv n) = b0 at bn hb F
            unfold fbase at hb
            split at hb
            · rename_i b3
              cases hb
              cases hr with
              | stop h1 => rw [bn] at h1; cases h1
              | @step _ b4 r2 h1 hr2 =>
                rw [bn] at h1; cases h1
                simp only [List.length_cons] at hl
                have nb : bb ≠ n := fun q => by
                  have := hr2.nodup
                  have hc : IsChain (bases kv) n (n :: r2) := .step (by rw [bn]) hr2
                  have nd := hc.nodup
                  obtain ⟨r3, e3⟩ := hr2.head
                  rw [e3, q] at nd
                  simp at nd
                obtain ⟨zs, hz, zl⟩ := ih bb r2 (by exact om160 hl) hr2 nb
                exact ⟨k :: zs, .step (by rw [dget_bases, hd]; rfl) hz, by simp only [List.length_cons]; exact om161 zl⟩
            · rename_i hno
              split at hb
              · cases hb
              · rename_i i0
                cases hb
                have h0l : 0 < ls.length := by have := (List.getElem?_eq_some_iff.mp hi).1; exact om144 this
                have e0 : ls[0]? = some (ls.getD 0 0) := by rw [List.getD_eq_getElem?_getD, List.getElem?_eq_getElem h0l]; rfl
                have hm0 := (L.mem _).mp (List.mem_of_getElem? e0)
                have hne0 : ls.getD 0 0 ≠ n := fun q => by
                  have b1 := bs _ hm0.1
                  rw [hm0.2, q] at b1
                  refine e1a2 (E.chain hn) fun ws hw _ => ?_
                  cases hw with
                  | stop h2 => rw [b1] at h2; cases h2
                  | step h2 hr3 =>
                    rw [b1] at h2; cases h2
                    obtain ⟨r4, e4⟩ := hr3.head
                    have nd := (IsChain.step b1 hr3).nodup
                    rw [e4] at nd; simp at nd
                obtain ⟨d0, hd0⟩ := (F.key _).mpr ⟨hm0.1, hne0⟩
                rcases F.on 0 _ d0 e0 hd0 with ⟨_, rfl⟩ | ⟨b5, _, _, hb5, _, _⟩
                · refine ⟨[k, ls.getD 0 0], .step (by rw [dget_bases, hd]; rfl) (.stop (by rw [dget_bases, hd0]; rfl)), ?_⟩
                  have := hr.pos
                  simp only [List.length_cons, List.length_nil]; exact om162 this
                · exfalso
                  unfold fbase at hb5
                  split at hb5
                  · exact hno _ rfl
                  · rw [if_pos rfl] at hb5; cases hb5
      · have hd2 := hd
        rw [F.off k hkn hl2] at hd2
        have bk := bs k hk
        have bk' : dget (bases kv') k = dget (bases kv) k := by rw [dget_bases, dget_bases, F.off k hkn hl2]
        cases hy with
        | stop h0 => exact ⟨[k], .stop (by rw [bk']; exact h0), by simp⟩
        | @step _ b2 r h0 hr =>
          have nb : b2 ≠ n := fun q => hl2 ((L.mem k).mpr ⟨hk, by rw [bk, q] at h0; exact Option.some.inj h0⟩)
          simp only [List.length_cons] at hl
          obtain ⟨zs, hz, zl⟩ := ih b2 r (by exact om52 hl) hr nb
          exact ⟨k :: zs, .step (by rw [bk']; exact h0) hz, by simp only [List.length_cons]; exact om54 zl⟩
  intro k zs hz
  have hk := (F.key k).mp (key_bases.mp hz.key0)
  refine e1a2 (E.chain hk.1) fun ys hy _ => ?_
  refine e1a2 (main ys.length k ys (Nat.le_refl _) hy hk.2) fun zs' hz' q => ?_
  rw [hz.uniq hz']
  have := h k ys hy
  exact om163 q this
end Mine
set_option maxRecDepth 100000
set_option linter.unusedVariables false
namespace Mine
open PySem PyProof.Rows PySem.Builtin PySem.W PySem.F
section
variable {c : Cx} {f : Fx} {m : Loc} {H : AH} {X : Value → AH → Prop} {Q : V → AH → Prop}
theorem Ev_lsliceT {value hi : Expr} {p p' : Pos} {a : Addr} {ds : List V} {i : Int} {k : Nat} (K : CxOk c) (hv : Pe c f value m H (.ref a)) (hhi : Pe c f hi m H (.int i)) (hl : ListAt H a ds) (hk : ∀ us : List Value, us.length = ds.length → slicePick us.toArray none (some i) none = (us.take k).toArray) (hsz : ds.length ≤ sizeLine)
    (q : ∀ b o, H b = none → Q (.ref b) (H.set b ⟨o, .list (ds.take k)⟩)) (ht : ∀ o r, letTemporaryGo value o r = pure () := by intro _ _; rfl) (hp : evalPart (some hi) f.env = eval hi f.env := by rfl) :
    Ev c f (.Subscript value (.Slice none (some hi) none p) p') m H Q X := .mk fun s S => by
  refine wpAny_Subscript_list_slice (wpAny_mono (hv.run s S) (fun vo s₁ z => ?_) fun _ _ z => ?_) ht
  · obtain ⟨t₁, d₁, H₁, i₁, S₁, rfl, rfl⟩ := z
    obtain rfl := is_raw i₁
    refine wpAny_pure ?_
    rw [hp]
    refine wpAny_mono (hhi.run s₁ S₁) (fun vi s₂ z => ?_) fun _ _ z => ?_
    · obtain ⟨t₂, d₂, H₂, i₂, S₂, rfl, rfl⟩ := z
      obtain ⟨u, rfl⟩ := is_int i₂
      obtain ⟨o, eo⟩ := hl
      refine e2a5 (S₂.rep.list eo) fun us n g c1 c2 c3 ja => ?_
      have hlen : us.length = ds.length := ja.length
      refine ⟨a, us.toArray, none, some i, rfl, ⟨o, g, c1, n, c3⟩, by rw [List.size_toArray, hlen]; exact hsz, .none, .int i u, ?_⟩
      have gr : Grow s₂.heap ((s₂.heap.push { cls := .type "slice", data := .fields #[.none, .int i u, .none] }).push { cls := .type "list", data := .seq (slicePick us.toArray none (some i) none) }) := (Grow.push _ _).trans (Grow.push _ _)
      have e1 : slicePick us.toArray none (some i) none = (us.take k).toArray := hk us hlen
      have g2 : ((s₂.heap.push { cls := .type "slice", data := .fields #[.none, .int i u, .none] }).push { cls := .type "list", data := .seq (slicePick us.toArray none (some i) none) }).get? (s₂.heap.objs.size + 1) = some { cls := .type "list", data := .seq (slicePick us.toArray none (some i) none) } := by
        have := Heap.get?_push_size (s₂.heap.push { cls := .type "slice", data := .fields #[.none, .int i u, .none] }) (o := { cls := .type "list", data := .seq (slicePick us.toArray none (some i) none) }) rfl
        rwa [Heap.size_push] at this
      have fresh : s₂.heap.get? (s₂.heap.objs.size + 1) = none := by
        cases q : s₂.heap.get? (s₂.heap.objs.size + 1) with
        | none => rfl
        | some o => exact absurd (Heap.lt_size q) (Nat.not_lt.mpr (Nat.le_succ _))
      refine ⟨t₁.trans (t₂.trans gr.tk), .ref _, _, mk_raw, S₂.alloc (x := ⟨_, .list (ds.take k)⟩) gr rfl rfl fresh (Nat.lt_succ_of_lt (S₂.sizeBig K)) ⟨g2, us.take k, ⟨_, _, g2, rfl, rfl, by rw [e1]⟩, (ja.take _).tk gr.tk⟩, q _ _ (S₂.apartOf fresh).1⟩
    · refine e3a4 z fun _ _ _ _ _ _ rq202 => ?_; clear z; have z := rq202; clear rq202; exact z.elim
  · refine e3a4 z fun _ _ _ _ _ _ rq203 => ?_; clear z; have z := rq203; clear rq203; exact z.elim
theorem Ev_lslice_init {value hi : Expr} {p p' : Pos} {a : Addr} {ds : List V} (K : CxOk c) (hv : Pe c f value m H (.ref a)) (hhi : Pe c f hi m H (.int (-1))) (hl : ListAt H a ds) (hsz : ds.length ≤ sizeLine)
    (q : ∀ b o, H b = none → Q (.ref b) (H.set b ⟨o, .list (ds.take (ds.length - 1))⟩)) (ht : ∀ o r, letTemporaryGo value o r = pure () := by intro _ _; rfl) (hp : evalPart (some hi) f.env = eval hi f.env := by rfl) :
    Ev c f (.Subscript value (.Slice none (some hi) none p) p') m H Q X :=
  Ev_lsliceT K hv hhi hl (fun us hlen => by
    have := slicePick_butLast us.toArray 1 (Nat.le_refl 1)
    rw [List.size_toArray, hlen] at this
    exact this) hsz q ht hp
theorem B_eqd {n : Nat} {a b : Addr} {kvs : List (Int × V)} (ha : DictIs H a kvs) (hb : DictIs H b kvs) (he : ∀ d ∈ kvs.map (·.2), EqA n d d true) (hu : f.A.units + 4 * (n + 1) < cLine) : B2 c f H (compareOp .Eq) (.ref a) (.ref b) (.bool true) := .mk fun m s v₁ v₂ S i j => by
  obtain rfl := is_raw i; obtain rfl := is_raw j
  have ns : (a == sysModules) = false := let ⟨o, e⟩ := ha; notSys S e
  have ns' : (b == sysModules) = false := let ⟨o, e⟩ := hb; notSys S e
  refine e1a3 (S.rep.dictOf ha) fun ka da ea ia => ?_
  refine e1a3 (S.rep.dictOf hb) fun kb db eb ib => ?_
  have el : ka.length = kb.length := by have := congrArg List.length (ea.trans eb.symm); simpa using this
  refine keq_eq (knd := intKind c.prog c.w) (r := true) ns ns' da db (by exact om43 hu) (fun _ => hits_same ea ia eb ib (Rep.nodup S ha) he (by have := in1_units f.A; exact om44 hu this)) ?_
  have e1 : (ka.length == kb.length && true) = true := by rw [el]; simp
  rw [e1]
  exact ⟨Grow.refl _, rfl, rfl, mk_raw⟩
end
end Mine
set_option maxRecDepth 100000
set_option linter.unusedVariables false
namespace Mine
open PySem PySem.W PyProof.Rows PySem.F
theorem plainL_set {prog : Program} {w : World} {A : Around} {E : Value → Shared → Prop} {s : Shared} {l : Addr} {its : Array Value} {k : Int} {t : Tok} {v : Value} {Q : Unit → Shared → Prop} (hp : PlainL s.heap l its)
    (h0 : 0 ≤ k) (hfit : k < 2 ^ 63) (hn : k < its.size) (hQ : ∀ h', PlainL h' l (its.setIfInBounds k.toNat v) → Heap.SameBut l s.heap h' → Q () { s with heap := h' }) :
    wpAny (model prog w) A (setItem (.ref l) (.int k t) v) Q E s := by
  refine e2a4 (id hp) fun o n ho hc hdn hd => ?_
  unfold setItem
  try with_reducible refine wpAny_holding ?_
  first | refine wpAny_bind (wpAny_pure ?_) | skip
  refine wpAny_bind (wpAny_sequenceKey hp.isList.typeIs (by decide) ?_)
  refine wpAny_bind (wpAny_callSpecial?_slot (name := Str.ofString "__setitem__") hp.isList.typeIs PySem.slot_list_setitem (wpAny_call_entry PySem.slot_list_setitem hp.isList.typeIs PySem.entry_list_setitem ?_ (PySem.args_list_setitem _ _ _)))
  show wpAny _ _ (Builtin.List.listSubscript? (.int k t) >>= _) _ _ s
  refine wpAny_bind (wpAny_listSubscript_int (fitsIndex_of h0 hfit) ?_)
  clear hfit
  obtain ⟨j, rfl⟩ := Int.eq_ofNat_of_zero_le h0
  have hj : j < its.size := by exact om164 hn
  obtain ⟨n', hd'⟩ := Obj.data_mapSeq hd (·.setIfInBounds j v)
  have fin : PlainL (s.heap.update l (Obj.mapSeq (·.setIfInBounds j v))) l (its.setIfInBounds j v) := by
    refine ⟨_, n', Heap.get?_update_self _ ho (Obj.isFreed_of_seq hd'), (Obj.cls_mapSeq ..).trans hc, ?_, hd'⟩
    obtain ⟨c, d, dt, sl⟩ := o
    subst hd
    exact hdn
  show wpAny _ _ ((seqItemAt l j >>= fun r => pure (r.map (j, ·))) >>= _) _ _ s
  refine wpAny_bind (wpAny_bind (wpAny_seqItemAt ho hd (wpAny_pure ?_)))
  rw [Array.getElem?_eq_getElem hj]
  show wpAny _ _ (setSeqItemAt l j v >>= _) _ _ s
  refine wpAny_bind (wpAny_setSeqItemAt ho hd ?_)
  first
    | exact wpAny_bind (wpAny_pure (wpAny_pure ⟨.none, rfl, wpAny_pure (hQ _ fin (Heap.SameBut.update ..))⟩))
    | exact wpAny_pure ⟨.none, rfl, wpAny_pure (hQ _ fin (Heap.SameBut.update ..))⟩
theorem isAll_set {h : Heap} {d : V} {v : Value} (i : Is h d v) : ∀ {ds : List V} {vs : List Value} {j : Nat}, IsAll h ds vs → IsAll h (ds.set j d) (vs.set j v)
  | [], _, j, x => by simp only [IsAll] at x; subst x; exact isAll_nil _
  | e :: r, _, 0, x => by
    simp only [IsAll] at x; refine e2a3 x fun w r' rq204 i' x' => ?_; clear x; obtain rfl := rq204
    show IsAll h (d :: r) (v :: r')
    simp only [IsAll]; exact ⟨v, r', rfl, i, x'⟩
  | e :: r, _, j + 1, x => by
    simp only [IsAll] at x; refine e2a3 x fun w r' rq205 i' x' => ?_; clear x; obtain rfl := rq205
    show IsAll h (e :: r.set j d) (w :: r'.set j v)
    simp only [IsAll]; exact ⟨w, _, rfl, i', isAll_set i x'⟩
section
variable {c : Cx} {f : Fx} {m : Loc} {H : AH} {X : Value → AH → Prop}
theorem Ex_storeL {o i value : Expr} {p' p : Pos} {rest : List Stmt} {Q : Ko}
    (h : Ev c f value m H (fun dv H₁ => Ev c f o m H₁ (fun do_ H₂ => Ev c f i m H₂ (fun di H₃ => ∃ (a : Addr) (ds : List V) (j : Nat), do_ = .ref a ∧ di = .int j ∧ ListAt H₃ a ds ∧ j < ds.length ∧ (j : Int) < 2 ^ 63 ∧ ∀ o', Ex c f rest m (H₃.set a ⟨o', .list (ds.set j dv)⟩) Q) (fun C H' => Q (.exc C) m H')) (fun C H' => Q (.exc C) m H')) (fun C H' => Q (.exc C) m H'))
    (hs : swapsWith value (some (.Subscript o i p')) p.line f.env = pure false := by rfl) : Ex c f (.Assign [.Subscript o i p'] value p :: rest) m H Q := .mk fun s S => by
  refine wpAny_execs_cons (wpAny_Assign_Subscript (wpAny_mono (h s S) (fun v s₁ z => ?_) fun x s' z => z.ex fun _ _ y => y) hs)
  obtain ⟨t₁, dv, H₁, i₁, S₁, q₁⟩ := z
  refine wpAny_mono (q₁ s₁ S₁) (fun vo s₂ z => ?_) fun x s' z => z.ex fun _ _ y => y
  obtain ⟨t₂, do_, H₂, i₂, S₂, q₂⟩ := z
  refine wpAny_mono (q₂ s₂ S₂) (fun vi s₃ z => ?_) fun x s' z => z.ex fun _ _ y => y
  obtain ⟨t₃, di, H₃, i₃, S₃, a, ds, j, rfl, rfl, hl, hj, hf, q⟩ := z
  obtain rfl := is_raw i₂; obtain ⟨u, rfl⟩ := is_int i₃
  refine e1a2 (S₃.rep.plain hl) fun us pl ja => ?_
  refine plainL_set pl (Int.natCast_nonneg _) hf (by rw [List.size_toArray, ja.length]; exact Int.ofNat_lt.mpr hj) (fun h' pl' sb => ?_)
  obtain ⟨o0, e0⟩ := hl
  refine e2a2 pl' fun o n g r => ?_; clear pl'
  have nt : Tk s₃.heap h' := fun b o₁ _ _ e cl dt => ⟨o₁, by
    by_cases z : b = a
    · subst z; refine e2a3 pl fun o' n' g' c' _ => ?_; clear pl; rw [g'] at e; cases e; rw [c'] at cl; exact absurd cl (by decide)
    · exact sb.extBut b o₁ z e, cl, dt⟩
  have := S₃.upd (s' := { s₃ with heap := h' }) (y := ⟨o, .list (ds.set j dv)⟩) e0 sb.extBut rfl rfl ⟨g, us.set j v, ⟨o, n, g, by simpa using r⟩, isAll_set ((i₁.tk (t₂.trans t₃)).tk nt) (ja.tk nt)⟩
  exact (q o) _ this.1
end
end Mine
set_option maxRecDepth 100000
set_option linter.unusedVariables false
namespace Mine
open PySem PyProof.Rows PySem.Builtin PySem.Builtin.Str PySem.Calls
section
variable {c : Cx} {f : Fx} {m : Loc} {H : AH}
end
end Mine
set_option maxRecDepth 100000
set_option linter.unusedVariables false
namespace Mine
open PySem
def nums (n : Nat) : List Int := (List.range n).map fun j : Nat => (j : Int)
def dn (n m : Nat) : List Int := (List.range (m + 1)).map fun j : Nat => (n : Int) - (j : Int)
structure Line (kb : List (Int × V)) (n : Nat) : Prop where
  key : ∀ v, Key kb v ↔ 0 ≤ v ∧ v ≤ n
  root : dget kb 0 = some .none
  step : ∀ j : Nat, j < n → dget kb ((j : Int) + 1) = some (.int j)
end Mine
set_option maxRecDepth 100000
set_option linter.unusedVariables false
namespace Mine
open PySem PyProof.Rows PySem.Builtin PySem.W PySem.Calls
section
variable {prog : Program} {w : World} {A : Around} {E : Value → Shared → Prop} {s : Shared} {env : Env}
variable {nm q : Str} {C N : Addr} {bs bm bmB : List Value} {hdct : Bool} {sn : List Str} {sub : List Value} {ab : Bool} {col : Option Bool} {dd : Option Addr} {k0 k1 k2 k3 k5 : Option Value} {B newId initId : String}
end
section
variable {c : Cx} {f : Fx} {m : Loc} {H : AH}
end
end Mine
set_option maxRecDepth 100000
set_option linter.unusedVariables false
namespace Mine
open PySem
def Fit (t g : List Nat) (a : Int) : Prop := 0 ≤ a ∧ a ≤ t.length ∧ (t.take (a + g.length).toNat).drop a.toNat = g
inductive TextOf (rs : List (Int × V)) : Int → List Nat → Prop
  | root {k : Int} {l : List Nat} : dget rs k = some (.tup [.none, .s l]) → TextOf rs k l
  | lean {k b a : Int} {g e t : List Nat} : dget rs k = some (.tup [.int b, chg a g e]) → TextOf rs b t → Fit t g a → TextOf rs k (t.take a.toNat ++ e ++ t.drop (a + g.length).toNat)
structure RowsOk (rs : List (Int × V)) (b : Int) : Prop where
  up : (rs.map (·.1)).Pairwise (· < ·)
  pos : ∀ k ∈ rs.map (·.1), 0 ≤ k
  ch : ∀ k, Key rs k → ∃ xs, IsChain (bases rs) k xs ∧ (xs.length : Int) ≤ b + 1
  tx : ∀ k, Key rs k → ∃ t, TextOf rs k t
def EntOk (d : V) : Prop := (∃ l, d = .tup [.none, .s l] ∧ l.length ≤ 700) ∨ ∃ b a g e, d = .tup [.int b, chg a g e] ∧ g.length ≤ 700 ∧ e.length ≤ 700
def rowV (p : Int × V) : V := .tup [.int p.1, base0 p.2, body0 p.2]
end Mine
set_option maxRecDepth 100000
set_option linter.unusedVariables false
namespace Mine
open PySem PyProof.Rows PySem.Builtin PySem.W PySem.F
section
variable {c : Cx} {f : Fx} {m : Loc} {H : AH} {X : Value → AH → Prop} {Q : V → AH → Prop}
def El (c : Cx) (f : Fx) (e : Expr) (m : Loc) (H : AH) (L : List V) : Prop := ∀ X, Ev c f e m H (fun d H' => ∃ a, d = .ref a ∧ Ext H H' ∧ H a = none ∧ ListAt H' a L) X
end
def otherS (l : List Nat) : List Nat := if l = [97] then [98] else [97]
def badC (old : List Nat) (way : Int) : Int × List Nat × List Nat := if way = 5 then (0, old ++ [97], []) else if way = 6 then (0, otherS (old.take 1), []) else if way = 7 then ((old.length : Int) + 1, [], [97]) else (-1, old.drop (old.length - 1), [97])
end Mine
set_option Elab.async false
set_option maxRecDepth 100000
set_option maxHeartbeats 8000000
set_option linter.unusedVariables false
namespace Mine
open PySem PySem.W
def top (i : Nat) : Option Stmt := PySem.Challenge.pw_uf040024_14.main.body[i]?
def inCls (s : Option Stmt) (j : Nat) : Option Stmt := match s with
  | some (.ClassDef _ _ _ body _ _ _ _ _ _ _) => body[j]?
  | _ => none
def fdAt (s : Option Stmt) (qual : Str) (doc pm code : Value) : FuncData := match s with
  | some (.FunctionDef nm args body _ _ _ scope _ _ _) => FuncData.mk nm qual args (.stmts body) scope 3 [] .none .none doc pm none code .none 0
  | _ => default
noncomputable def KK (P : Params) : Frag := [(2, Obj.mk Value.none none (Data.dict #[]) #[]),
 (3, Obj.mk (Value.type "dict") none (Data.dict #[DictEntry.mk (PyData.keyHash P (Str.ofString "__name__")) (Value.str (Str.ofString "__name__") 165) (Value.str (Str.ofString "law_uf040024_14") 608), DictEntry.mk (PyData.keyHash P (Str.ofString "__doc__")) (Value.str (Str.ofString "__doc__") 166) Value.none, DictEntry.mk (PyData.keyHash P (Str.ofString "__package__")) (Value.str (Str.ofString "__package__") 167) Value.none, DictEntry.mk (PyData.keyHash P (Str.ofString "__loader__")) (Value.str (Str.ofString "__loader__") 168) (Value.builtin "__main__.__loader__#opaque"), DictEntry.mk (PyData.keyHash P (Str.ofString "__spec__")) (Value.str (Str.ofString "__spec__") 169) Value.none, DictEntry.mk (PyData.keyHash P (Str.ofString "__annotations__")) (Value.str (Str.ofString "__annotations__") 170) (Value.ref 6), DictEntry.mk (PyData.keyHash P (Str.ofString "__builtins__")) (Value.str (Str.ofString "__builtins__") 171) (Value.ref 4), DictEntry.mk (PyData.keyHash P (Str.ofString "__file__")) (Value.str (Str.ofString "__file__") 173) (Value.str (Str.ofString "/claim/cut.py") 172), DictEntry.mk (PyData.keyHash P (Str.ofString "__cached__")) (Value.str (Str.ofString "__cached__") 174) Value.none, DictEntry.mk (PyData.keyHash P (Str.ofString "PackError")) (Value.str (Str.ofString "PackError") 206) (Value.ref 24), DictEntry.mk (PyData.keyHash P (Str.ofString "BadBound")) (Value.str (Str.ofString "BadBound") 222) (Value.ref 37), DictEntry.mk (PyData.keyHash P (Str.ofString "BadRows")) (Value.str (Str.ofString "BadRows") 238) (Value.ref 49), DictEntry.mk (PyData.keyHash P (Str.ofString "InRing")) (Value.str (Str.ofString "InRing") 254) (Value.ref 61), DictEntry.mk (PyData.keyHash P (Str.ofString "NoFit")) (Value.str (Str.ofString "NoFit") 270) (Value.ref 73), DictEntry.mk (PyData.keyHash P (Str.ofString "NoVersion")) (Value.str (Str.ofString "NoVersion") 286) (Value.ref 85), DictEntry.mk (PyData.keyHash P (Str.ofString "TooFar")) (Value.str (Str.ofString "TooFar") 302) (Value.ref 97), DictEntry.mk (PyData.keyHash P (Str.ofString "done")) (Value.str (Str.ofString "done") 314) (Value.ref 106), DictEntry.mk (PyData.keyHash P (Str.ofString "turned")) (Value.str (Str.ofString "turned") 321) (Value.ref 113), DictEntry.mk (PyData.keyHash P (Str.ofString "change_of")) (Value.str (Str.ofString "change_of") 332) (Value.ref 120), DictEntry.mk (PyData.keyHash P (Str.ofString "chain_of")) (Value.str (Str.ofString "chain_of") 343) (Value.ref 127), DictEntry.mk (PyData.keyHash P (Str.ofString "neighbours")) (Value.str (Str.ofString "neighbours") 353) (Value.ref 134), DictEntry.mk (PyData.keyHash P (Str.ofString "distances")) (Value.str (Str.ofString "distances") 367) (Value.ref 141), DictEntry.mk (PyData.keyHash P (Str.ofString "farthest")) (Value.str (Str.ofString "farthest") 376) (Value.ref 148), DictEntry.mk (PyData.keyHash P (Str.ofString "reach")) (Value.str (Str.ofString "reach") 385) (Value.ref 155), DictEntry.mk (PyData.keyHash P (Str.ofString "middle")) (Value.str (Str.ofString "middle") 399) (Value.ref 162), DictEntry.mk (PyData.keyHash P (Str.ofString "GREATEST")) (Value.str (Str.ofString "GREATEST") 403) (Value.int 1000 402), DictEntry.mk (PyData.keyHash P (Str.ofString "whole")) (Value.str (Str.ofString "whole") 410) (Value.ref 169), DictEntry.mk (PyData.keyHash P (Str.ofString "text_at")) (Value.str (Str.ofString "text_at") 421) (Value.ref 176), DictEntry.mk (PyData.keyHash P (Str.ofString "Pack")) (Value.str (Str.ofString "Pack") 574) (Value.ref 287), DictEntry.mk (PyData.keyHash P (Str.ofString "check_chains")) (Value.str (Str.ofString "check_chains") 587) (Value.ref 298), DictEntry.mk (PyData.keyHash P (Str.ofString "check_changes")) (Value.str (Str.ofString "check_changes") 595) (Value.ref 305), DictEntry.mk (PyData.keyHash P (Str.ofString "opened")) (Value.str (Str.ofString "opened") 607) (Value.ref 312), DictEntry.mk (PyData.keyHash P (Str.ofString "_law_cell_at")) (Value.str (Str.ofString "_law_cell_at") 617) (Value.ref 319), DictEntry.mk (PyData.keyHash P (Str.ofString "_law_whole")) (Value.str (Str.ofString "_law_whole") 624) (Value.ref 326), DictEntry.mk (PyData.keyHash P (Str.ofString "_law_sign_by")) (Value.str (Str.ofString "_law_sign_by") 632) (Value.ref 333), DictEntry.mk (PyData.keyHash P (Str.ofString "_law_text_by")) (Value.str (Str.ofString "_law_text_by") 638) (Value.ref 338), DictEntry.mk (PyData.keyHash P (Str.ofString "_law_next_text")) (Value.str (Str.ofString "_law_next_text") 649) (Value.ref 345), DictEntry.mk (PyData.keyHash P (Str.ofString "_law_beside")) (Value.str (Str.ofString "_law_beside") 657) (Value.ref 352), DictEntry.mk (PyData.keyHash P (Str.ofString "_law_bound_by")) (Value.str (Str.ofString "_law_bound_by") 664) (Value.ref 359), DictEntry.mk (PyData.keyHash P (Str.ofString "_law_change")) (Value.str (Str.ofString "_law_change") 671) (Value.ref 366), DictEntry.mk (PyData.keyHash P (Str.ofString "_law_way")) (Value.str (Str.ofString "_law_way") 681) (Value.ref 373), DictEntry.mk (PyData.keyHash P (Str.ofString "_law_text_of")) (Value.str (Str.ofString "_law_text_of") 693) (Value.ref 380), DictEntry.mk (PyData.keyHash P (Str.ofString "_law_kept_rows")) (Value.str (Str.ofString "_law_kept_rows") 704) (Value.ref 387), DictEntry.mk (PyData.keyHash P (Str.ofString "_law_faces")) (Value.str (Str.ofString "_law_faces") 717) (Value.ref 394), DictEntry.mk (PyData.keyHash P (Str.ofString "_law_sound")) (Value.str (Str.ofString "_law_sound") 723) (Value.ref 399), DictEntry.mk (PyData.keyHash P (Str.ofString "_law_tried")) (Value.str (Str.ofString "_law_tried") 733) (Value.ref 406), DictEntry.mk (PyData.keyHash P (Str.ofString "_law_put")) (Value.str (Str.ofString "_law_put") 748) (Value.ref 413), DictEntry.mk (PyData.keyHash P (Str.ofString "_law_deed")) (Value.str (Str.ofString "_law_deed") 762) (Value.ref 420), DictEntry.mk (PyData.keyHash P (Str.ofString "law")) (Value.str (Str.ofString "law") 768) (Value.ref 425)] 49) #[]),
 (15, Obj.mk (Value.type "tuple") none (Data.seq #[Value.type "ValueError"]) #[]),
 (22, Obj.mk (Value.type "tuple") none (Data.seq #[]) #[]),
 (23, Obj.mk (Value.type "dict") none (Data.dict #[DictEntry.mk (PyData.keyHash P (Str.ofString "__module__")) (Value.str (Str.ofString "__module__") 196) (Value.str (Str.ofString "packdelta.errors") 187), DictEntry.mk (PyData.keyHash P (Str.ofString "__firstlineno__")) (Value.str (Str.ofString "__firstlineno__") 200) (Value.int 2 199), DictEntry.mk (PyData.keyHash P (Str.ofString "__static_attributes__")) (Value.str (Str.ofString "__static_attributes__") 201) (Value.ref 22), DictEntry.mk (PyData.keyHash P (Str.ofString "__weakref__")) (Value.str (Str.ofString "__weakref__") 203) (Value.ref 25), DictEntry.mk (PyData.keyHash P (Str.ofString "__doc__")) (Value.str (Str.ofString "__doc__") 204) Value.none] 3) #[]),
 (24, Obj.mk (Value.type "type") none (Data.cls (ClassData.mk (Str.ofString "PackError") [Value.type "ValueError"] [Value.ref 24, Value.type "ValueError", Value.type "Exception", Value.type "BaseException", Value.type "object"] 23 (Str.ofString "PackError") true [] [Value.ref 37, Value.ref 49, Value.ref 61, Value.ref 73, Value.ref 85, Value.ref 97] false none false)) #[some (Value.ref 15), none, some (Value.str (Str.ofString "PackError") 189), some (Value.str (Str.ofString "PackError") 197), some (Value.builtin "ValueError.__new__"), some (Value.bool true)]),
 (25, Obj.mk (Value.type "getset_descriptor") none (Data.fields #[Value.str (Str.ofString "__weakref__") 202, Value.ref 24, Value.builtin "ExceptionGroup.__weakref__", Value.none]) #[]),
 (28, Obj.mk (Value.type "tuple") none (Data.seq #[Value.ref 24]) #[]),
 (35, Obj.mk (Value.type "tuple") none (Data.seq #[]) #[]),
 (36, Obj.mk (Value.type "dict") none (Data.dict #[DictEntry.mk (PyData.keyHash P (Str.ofString "__module__")) (Value.str (Str.ofString "__module__") 214) (Value.str (Str.ofString "packdelta.errors") 187), DictEntry.mk (PyData.keyHash P (Str.ofString "__firstlineno__")) (Value.str (Str.ofString "__firstlineno__") 218) (Value.int 4 217), DictEntry.mk (PyData.keyHash P (Str.ofString "__static_attributes__")) (Value.str (Str.ofString "__static_attributes__") 219) (Value.ref 35), DictEntry.mk (PyData.keyHash P (Str.ofString "__doc__")) (Value.str (Str.ofString "__doc__") 220) Value.none] 2) #[]),
 (37, Obj.mk (Value.type "type") none (Data.cls (ClassData.mk (Str.ofString "BadBound") [Value.ref 24] [Value.ref 37, Value.ref 24, Value.type "ValueError", Value.type "Exception", Value.type "BaseException", Value.type "object"] 36 (Str.ofString "BadBound") true [] [] false none false)) #[some (Value.ref 28), none, some (Value.str (Str.ofString "BadBound") 207), some (Value.str (Str.ofString "BadBound") 215), some (Value.builtin "ValueError.__new__"), some (Value.bool true)]),
 (40, Obj.mk (Value.type "tuple") none (Data.seq #[Value.ref 24]) #[]),
 (47, Obj.mk (Value.type "tuple") none (Data.seq #[]) #[]),
 (48, Obj.mk (Value.type "dict") none (Data.dict #[DictEntry.mk (PyData.keyHash P (Str.ofString "__module__")) (Value.str (Str.ofString "__module__") 230) (Value.str (Str.ofString "packdelta.errors") 187), DictEntry.mk (PyData.keyHash P (Str.ofString "__firstlineno__")) (Value.str (Str.ofString "__firstlineno__") 234) (Value.int 6 233), DictEntry.mk (PyData.keyHash P (Str.ofString "__static_attributes__")) (Value.str (Str.ofString "__static_attributes__") 235) (Value.ref 47), DictEntry.mk (PyData.keyHash P (Str.ofString "__doc__")) (Value.str (Str.ofString "__doc__") 236) Value.none] 2) #[]),
 (49, Obj.mk (Value.type "type") none (Data.cls (ClassData.mk (Str.ofString "BadRows") [Value.ref 24] [Value.ref 49, Value.ref 24, Value.type "ValueError", Value.type "Exception", Value.type "BaseException", Value.type "object"] 48 (Str.ofString "BadRows") true [] [] false none false)) #[some (Value.ref 40), none, some (Value.str (Str.ofString "BadRows") 223), some (Value.str (Str.ofString "BadRows") 231), some (Value.builtin "ValueError.__new__"), some (Value.bool true)]),
 (52, Obj.mk (Value.type "tuple") none (Data.seq #[Value.ref 24]) #[]),
 (59, Obj.mk (Value.type "tuple") none (Data.seq #[]) #[]),
 (60, Obj.mk (Value.type "dict") none (Data.dict #[DictEntry.mk (PyData.keyHash P (Str.ofString "__module__")) (Value.str (Str.ofString "__module__") 246) (Value.str (Str.ofString "packdelta.errors") 187), DictEntry.mk (PyData.keyHash P (Str.ofString "__firstlineno__")) (Value.str (Str.ofString "__firstlineno__") 250) (Value.int 8 249), DictEntry.mk (PyData.keyHash P (Str.ofString "__static_attributes__")) (Value.str (Str.ofString "__static_attributes__") 251) (Value.ref 59), DictEntry.mk (PyData.keyHash P (Str.ofString "__doc__")) (Value.str (Str.ofString "__doc__") 252) Value.none] 2) #[]),
 (61, Obj.mk (Value.type "type") none (Data.cls (ClassData.mk (Str.ofString "InRing") [Value.ref 24] [Value.ref 61, Value.ref 24, Value.type "ValueError", Value.type "Exception", Value.type "BaseException", Value.type "object"] 60 (Str.ofString "InRing") true [] [] false none false)) #[some (Value.ref 52), none, some (Value.str (Str.ofString "InRing") 239), some (Value.str (Str.ofString "InRing") 247), some (Value.builtin "ValueError.__new__"), some (Value.bool true)]),
 (64, Obj.mk (Value.type "tuple") none (Data.seq #[Value.ref 24]) #[]),
 (71, Obj.mk (Value.type "tuple") none (Data.seq #[]) #[]),
 (72, Obj.mk (Value.type "dict") none (Data.dict #[DictEntry.mk (PyData.keyHash P (Str.ofString "__module__")) (Value.str (Str.ofString "__module__") 262) (Value.str (Str.ofString "packdelta.errors") 187), DictEntry.mk (PyData.keyHash P (Str.ofString "__firstlineno__")) (Value.str (Str.ofString "__firstlineno__") 266) (Value.int 10 265), DictEntry.mk (PyData.keyHash P (Str.ofString "__static_attributes__")) (Value.str (Str.ofString "__static_attributes__") 267) (Value.ref 71), DictEntry.mk (PyData.keyHash P (Str.ofString "__doc__")) (Value.str (Str.ofString "__doc__") 268) Value.none] 2) #[]),
 (73, Obj.mk (Value.type "type") none (Data.cls (ClassData.mk (Str.ofString "NoFit") [Value.ref 24] [Value.ref 73, Value.ref 24, Value.type "ValueError", Value.type "Exception", Value.type "BaseException", Value.type "object"] 72 (Str.ofString "NoFit") true [] [] false none false)) #[some (Value.ref 64), none, some (Value.str (Str.ofString "NoFit") 255), some (Value.str (Str.ofString "NoFit") 263), some (Value.builtin "ValueError.__new__"), some (Value.bool true)]),
 (76, Obj.mk (Value.type "tuple") none (Data.seq #[Value.ref 24]) #[]),
 (83, Obj.mk (Value.type "tuple") none (Data.seq #[]) #[]),
 (84, Obj.mk (Value.type "dict") none (Data.dict #[DictEntry.mk (PyData.keyHash P (Str.ofString "__module__")) (Value.str (Str.ofString "__module__") 278) (Value.str (Str.ofString "packdelta.errors") 187), DictEntry.mk (PyData.keyHash P (Str.ofString "__firstlineno__")) (Value.str (Str.ofString "__firstlineno__") 282) (Value.int 12 281), DictEntry.mk (PyData.keyHash P (Str.ofString "__static_attributes__")) (Value.str (Str.ofString "__static_attributes__") 283) (Value.ref 83), DictEntry.mk (PyData.keyHash P (Str.ofString "__doc__")) (Value.str (Str.ofString "__doc__") 284) Value.none] 2) #[]),
 (85, Obj.mk (Value.type "type") none (Data.cls (ClassData.mk (Str.ofString "NoVersion") [Value.ref 24] [Value.ref 85, Value.ref 24, Value.type "ValueError", Value.type "Exception", Value.type "BaseException", Value.type "object"] 84 (Str.ofString "NoVersion") true [] [] false none false)) #[some (Value.ref 76), none, some (Value.str (Str.ofString "NoVersion") 271), some (Value.str (Str.ofString "NoVersion") 279), some (Value.builtin "ValueError.__new__"), some (Value.bool true)]),
 (88, Obj.mk (Value.type "tuple") none (Data.seq #[Value.ref 24]) #[]),
 (95, Obj.mk (Value.type "tuple") none (Data.seq #[]) #[]),
 (96, Obj.mk (Value.type "dict") none (Data.dict #[DictEntry.mk (PyData.keyHash P (Str.ofString "__module__")) (Value.str (Str.ofString "__module__") 294) (Value.str (Str.ofString "packdelta.errors") 187), DictEntry.mk (PyData.keyHash P (Str.ofString "__firstlineno__")) (Value.str (Str.ofString "__firstlineno__") 298) (Value.int 14 297), DictEntry.mk (PyData.keyHash P (Str.ofString "__static_attributes__")) (Value.str (Str.ofString "__static_attributes__") 299) (Value.ref 95), DictEntry.mk (PyData.keyHash P (Str.ofString "__doc__")) (Value.str (Str.ofString "__doc__") 300) Value.none] 2) #[]),
 (97, Obj.mk (Value.type "type") none (Data.cls (ClassData.mk (Str.ofString "TooFar") [Value.ref 24] [Value.ref 97, Value.ref 24, Value.type "ValueError", Value.type "Exception", Value.type "BaseException", Value.type "object"] 96 (Str.ofString "TooFar") true [] [] false none false)) #[some (Value.ref 88), none, some (Value.str (Str.ofString "TooFar") 287), some (Value.str (Str.ofString "TooFar") 295), some (Value.builtin "ValueError.__new__"), some (Value.bool true)]),
 (100, Obj.mk (Value.type "tuple") none (Data.seq #[]) #[]),
 (102, Obj.mk (Value.type "tuple") none (Data.seq #[Value.str (Str.ofString "text") 308, Value.str (Str.ofString "change") 309, Value.str (Str.ofString "at") 310, Value.str (Str.ofString "gone") 311]) #[]),
 (103, Obj.mk (Value.type "tuple") none (Data.seq #[]) #[]),
 (105, Obj.mk (Value.type "code") none (Data.fields #[Value.str (Str.ofString "done") 305, Value.str (Str.ofString "done") 306, Value.str (Str.ofString "/claim/cut.py") 307, Value.int 17 0, Value.int 2 0, Value.int 0 0, Value.int 0 0, Value.int 3 0, Value.ref 100, Value.bool true, Value.int 181 0, Value.ref 101, Value.none, Value.ref 102, Value.ref 103, Value.ref 104, Value.int 312 0, Value.int 17 0, Value.str (Str.ofString "/claim/cut.py") 313]) #[]),
 (106, Obj.mk (Value.type "function") none (Data.func (fdAt (top 9) (Str.ofString "done") Value.none (Value.str (Str.ofString "packdelta.changes") 303) (Value.ref 105))) #[]),
 (107, Obj.mk (Value.type "tuple") none (Data.seq #[]) #[]),
 (109, Obj.mk (Value.type "tuple") none (Data.seq #[Value.str (Str.ofString "change") 318]) #[]),
 (110, Obj.mk (Value.type "tuple") none (Data.seq #[]) #[]),
 (112, Obj.mk (Value.type "code") none (Data.fields #[Value.str (Str.ofString "turned") 315, Value.str (Str.ofString "turned") 316, Value.str (Str.ofString "/claim/cut.py") 317, Value.int 23 0, Value.int 1 0, Value.int 0 0, Value.int 0 0, Value.int 3 0, Value.ref 107, Value.bool true, Value.int 181 0, Value.ref 108, Value.none, Value.ref 109, Value.ref 110, Value.ref 111, Value.int 319 0, Value.int 23 0, Value.str (Str.ofString "/claim/cut.py") 320]) #[]),
 (113, Obj.mk (Value.type "function") none (Data.func (fdAt (top 10) (Str.ofString "turned") Value.none (Value.str (Str.ofString "packdelta.changes") 303) (Value.ref 112))) #[]),
 (114, Obj.mk (Value.type "tuple") none (Data.seq #[]) #[]),
 (116, Obj.mk (Value.type "tuple") none (Data.seq #[Value.str (Str.ofString "old") 325, Value.str (Str.ofString "new") 326, Value.str (Str.ofString "most") 327, Value.str (Str.ofString "at") 328, Value.str (Str.ofString "end") 329]) #[]),
 (117, Obj.mk (Value.type "tuple") none (Data.seq #[]) #[]),
 (119, Obj.mk (Value.type "code") none (Data.fields #[Value.str (Str.ofString "change_of") 322, Value.str (Str.ofString "change_of") 323, Value.str (Str.ofString "/claim/cut.py") 324, Value.int 25 0, Value.int 2 0, Value.int 0 0, Value.int 0 0, Value.int 3 0, Value.ref 114, Value.bool true, Value.int 181 0, Value.ref 115, Value.none, Value.ref 116, Value.ref 117, Value.ref 118, Value.int 330 0, Value.int 25 0, Value.str (Str.ofString "/claim/cut.py") 331]) #[]),
 (120, Obj.mk (Value.type "function") none (Data.func (fdAt (top 11) (Str.ofString "change_of") Value.none (Value.str (Str.ofString "packdelta.changes") 303) (Value.ref 119))) #[]),
 (121, Obj.mk (Value.type "tuple") none (Data.seq #[]) #[]),
 (123, Obj.mk (Value.type "tuple") none (Data.seq #[Value.str (Str.ofString "bases") 338, Value.str (Str.ofString "number") 339, Value.str (Str.ofString "chain") 340]) #[]),
 (124, Obj.mk (Value.type "tuple") none (Data.seq #[]) #[]),
 (126, Obj.mk (Value.type "code") none (Data.fields #[Value.str (Str.ofString "chain_of") 335, Value.str (Str.ofString "chain_of") 336, Value.str (Str.ofString "/claim/cut.py") 337, Value.int 35 0, Value.int 2 0, Value.int 0 0, Value.int 0 0, Value.int 3 0, Value.ref 121, Value.bool true, Value.int 181 0, Value.ref 122, Value.none, Value.ref 123, Value.ref 124, Value.ref 125, Value.int 341 0, Value.int 35 0, Value.str (Str.ofString "/claim/cut.py") 342]) #[]),
 (127, Obj.mk (Value.type "function") none (Data.func (fdAt (top 13) (Str.ofString "chain_of") Value.none (Value.str (Str.ofString "packdelta.trees") 333) (Value.ref 126))) #[]),
 (128, Obj.mk (Value.type "tuple") none (Data.seq #[]) #[]),
 (130, Obj.mk (Value.type "tuple") none (Data.seq #[Value.str (Str.ofString "bases") 347, Value.str (Str.ofString "near") 348, Value.str (Str.ofString "number") 349, Value.str (Str.ofString "base") 350]) #[]),
 (131, Obj.mk (Value.type "tuple") none (Data.seq #[]) #[]),
 (133, Obj.mk (Value.type "code") none (Data.fields #[Value.str (Str.ofString "neighbours") 344, Value.str (Str.ofString "neighbours") 345, Value.str (Str.ofString "/claim/cut.py") 346, Value.int 40 0, Value.int 1 0, Value.int 0 0, Value.int 0 0, Value.int 3 0, Value.ref 128, Value.bool true, Value.int 181 0, Value.ref 129, Value.none, Value.ref 130, Value.ref 131, Value.ref 132, Value.int 351 0, Value.int 40 0, Value.str (Str.ofString "/claim/cut.py") 352]) #[]),
 (134, Obj.mk (Value.type "function") none (Data.func (fdAt (top 14) (Str.ofString "neighbours") Value.none (Value.str (Str.ofString "packdelta.trees") 333) (Value.ref 133))) #[]),
 (135, Obj.mk (Value.type "tuple") none (Data.seq #[]) #[]),
 (137, Obj.mk (Value.type "tuple") none (Data.seq #[Value.str (Str.ofString "near") 357, Value.str (Str.ofString "start") 358, Value.str (Str.ofString "far") 359, Value.str (Str.ofString "layer") 360, Value.str (Str.ofString "steps") 361, Value.str (Str.ofString "behind") 362, Value.str (Str.ofString "one") 363, Value.str (Str.ofString "other") 364]) #[]),
 (138, Obj.mk (Value.type "tuple") none (Data.seq #[]) #[]),
 (140, Obj.mk (Value.type "code") none (Data.fields #[Value.str (Str.ofString "distances") 354, Value.str (Str.ofString "distances") 355, Value.str (Str.ofString "/claim/cut.py") 356, Value.int 50 0, Value.int 2 0, Value.int 0 0, Value.int 0 0, Value.int 3 0, Value.ref 135, Value.bool true, Value.int 181 0, Value.ref 136, Value.none, Value.ref 137, Value.ref 138, Value.ref 139, Value.int 365 0, Value.int 50 0, Value.str (Str.ofString "/claim/cut.py") 366]) #[]),
 (141, Obj.mk (Value.type "function") none (Data.func (fdAt (top 15) (Str.ofString "distances") Value.none (Value.str (Str.ofString "packdelta.trees") 333) (Value.ref 140))) #[]),
 (142, Obj.mk (Value.type "tuple") none (Data.seq #[]) #[]),
 (144, Obj.mk (Value.type "tuple") none (Data.seq #[Value.str (Str.ofString "far") 371, Value.str (Str.ofString "best") 372, Value.str (Str.ofString "number") 373]) #[]),
 (145, Obj.mk (Value.type "tuple") none (Data.seq #[]) #[]),
 (147, Obj.mk (Value.type "code") none (Data.fields #[Value.str (Str.ofString "farthest") 368, Value.str (Str.ofString "farthest") 369, Value.str (Str.ofString "/claim/cut.py") 370, Value.int 64 0, Value.int 1 0, Value.int 0 0, Value.int 0 0, Value.int 3 0, Value.ref 142, Value.bool true, Value.int 181 0, Value.ref 143, Value.none, Value.ref 144, Value.ref 145, Value.ref 146, Value.int 374 0, Value.int 64 0, Value.str (Str.ofString "/claim/cut.py") 375]) #[]),
 (148, Obj.mk (Value.type "function") none (Data.func (fdAt (top 16) (Str.ofString "farthest") Value.none (Value.str (Str.ofString "packdelta.trees") 333) (Value.ref 147))) #[]),
 (149, Obj.mk (Value.type "tuple") none (Data.seq #[]) #[]),
 (151, Obj.mk (Value.type "tuple") none (Data.seq #[Value.str (Str.ofString "bases") 380, Value.str (Str.ofString "number") 381, Value.str (Str.ofString "far") 382]) #[]),
 (152, Obj.mk (Value.type "tuple") none (Data.seq #[]) #[]),
 (154, Obj.mk (Value.type "code") none (Data.fields #[Value.str (Str.ofString "reach") 377, Value.str (Str.ofString "reach") 378, Value.str (Str.ofString "/claim/cut.py") 379, Value.int 70 0, Value.int 2 0, Value.int 0 0, Value.int 0 0, Value.int 3 0, Value.ref 149, Value.bool true, Value.int 181 0, Value.ref 150, Value.none, Value.ref 151, Value.ref 152, Value.ref 153, Value.int 383 0, Value.int 70 0, Value.str (Str.ofString "/claim/cut.py") 384]) #[]),
 (155, Obj.mk (Value.type "function") none (Data.func (fdAt (top 17) (Str.ofString "reach") Value.none (Value.str (Str.ofString "packdelta.trees") 333) (Value.ref 154))) #[]),
 (156, Obj.mk (Value.type "tuple") none (Data.seq #[]) #[]),
 (158, Obj.mk (Value.type "tuple") none (Data.seq #[Value.str (Str.ofString "bases") 389, Value.str (Str.ofString "number") 390, Value.str (Str.ofString "near") 391, Value.str (Str.ofString "one") 392, Value.str (Str.ofString "left") 393, Value.str (Str.ofString "right") 394, Value.str (Str.ofString "best") 395, Value.str (Str.ofString "other") 396]) #[]),
 (159, Obj.mk (Value.type "tuple") none (Data.seq #[]) #[]),
 (161, Obj.mk (Value.type "code") none (Data.fields #[Value.str (Str.ofString "middle") 386, Value.str (Str.ofString "middle") 387, Value.str (Str.ofString "/claim/cut.py") 388, Value.int 73 0, Value.int 2 0, Value.int 0 0, Value.int 0 0, Value.int 3 0, Value.ref 156, Value.bool true, Value.int 181 0, Value.ref 157, Value.none, Value.ref 158, Value.ref 159, Value.ref 160, Value.int 397 0, Value.int 73 0, Value.str (Str.ofString "/claim/cut.py") 398]) #[]),
 (162, Obj.mk (Value.type "function") none (Data.func (fdAt (top 18) (Str.ofString "middle") Value.none (Value.str (Str.ofString "packdelta.trees") 333) (Value.ref 161))) #[]),
 (163, Obj.mk (Value.type "tuple") none (Data.seq #[]) #[]),
 (165, Obj.mk (Value.type "tuple") none (Data.seq #[Value.str (Str.ofString "thing") 407]) #[]),
 (166, Obj.mk (Value.type "tuple") none (Data.seq #[]) #[]),
 (168, Obj.mk (Value.type "code") none (Data.fields #[Value.str (Str.ofString "whole") 404, Value.str (Str.ofString "whole") 405, Value.str (Str.ofString "/claim/cut.py") 406, Value.int 85 0, Value.int 1 0, Value.int 0 0, Value.int 0 0, Value.int 3 0, Value.ref 163, Value.bool true, Value.int 181 0, Value.ref 164, Value.none, Value.ref 165, Value.ref 166, Value.ref 167, Value.int 408 0, Value.int 85 0, Value.str (Str.ofString "/claim/cut.py") 409]) #[]),
 (169, Obj.mk (Value.type "function") none (Data.func (fdAt (top 21) (Str.ofString "whole") Value.none (Value.str (Str.ofString "packdelta.packs") 400) (Value.ref 168))) #[]),
 (170, Obj.mk (Value.type "tuple") none (Data.seq #[]) #[]),
 (172, Obj.mk (Value.type "tuple") none (Data.seq #[Value.str (Str.ofString "held") 414, Value.str (Str.ofString "number") 415, Value.str (Str.ofString "changes") 416, Value.str (Str.ofString "text") 417, Value.str (Str.ofString "change") 418]) #[]),
 (173, Obj.mk (Value.type "tuple") none (Data.seq #[]) #[]),
 (175, Obj.mk (Value.type "code") none (Data.fields #[Value.str (Str.ofString "text_at") 411, Value.str (Str.ofString "text_at") 412, Value.str (Str.ofString "/claim/cut.py") 413, Value.int 87 0, Value.int 2 0, Value.int 0 0, Value.int 0 0, Value.int 3 0, Value.ref 170, Value.bool true, Value.int 181 0, Value.ref 171, Value.none, Value.ref 172, Value.ref 173, Value.ref 174, Value.int 419 0, Value.int 87 0, Value.str (Str.ofString "/claim/cut.py") 420]) #[]),
 (176, Obj.mk (Value.type "function") none (Data.func (fdAt (top 22) (Str.ofString "text_at") Value.none (Value.str (Str.ofString "packdelta.packs") 400) (Value.ref 175))) #[]),
 (184, Obj.mk (Value.type "tuple") none (Data.seq #[]) #[]),
 (186, Obj.mk (Value.type "tuple") none (Data.seq #[Value.str (Str.ofString "self") 437, Value.str (Str.ofString "bound") 438]) #[]),
 (187, Obj.mk (Value.type "tuple") none (Data.seq #[]) #[]),
 (189, Obj.mk (Value.type "code") none (Data.fields #[Value.str (Str.ofString "__init__") 434, Value.str (Str.ofString "Pack.__init__") 435, Value.str (Str.ofString "/claim/cut.py") 436, Value.int 98 0, Value.int 2 0, Value.int 0 0, Value.int 0 0, Value.int 3 0, Value.ref 184, Value.bool true, Value.int 181 0, Value.ref 185, Value.none, Value.ref 186, Value.ref 187, Value.ref 188, Value.int 439 0, Value.int 98 0, Value.str (Str.ofString "/claim/cut.py") 440]) #[]),
 (190, Obj.mk (Value.type "function") none (Data.func (fdAt (inCls (top 23) 0) (Str.ofString "Pack.__init__") Value.none (Value.str (Str.ofString "packdelta.packs") 400) (Value.ref 189))) #[]),
 (191, Obj.mk (Value.type "tuple") none (Data.seq #[]) #[]),
 (193, Obj.mk (Value.type "tuple") none (Data.seq #[Value.str (Str.ofString "self") 445, Value.str (Str.ofString "number") 446]) #[]),
 (194, Obj.mk (Value.type "tuple") none (Data.seq #[]) #[]),
 (196, Obj.mk (Value.type "code") none (Data.fields #[Value.str (Str.ofString "need") 442, Value.str (Str.ofString "Pack.need") 443, Value.str (Str.ofString "/claim/cut.py") 444, Value.int 105 0, Value.int 2 0, Value.int 0 0, Value.int 0 0, Value.int 3 0, Value.ref 191, Value.bool true, Value.int 181 0, Value.ref 192, Value.none, Value.ref 193, Value.ref 194, Value.ref 195, Value.int 447 0, Value.int 105 0, Value.str (Str.ofString "/claim/cut.py") 448]) #[]),
 (197, Obj.mk (Value.type "function") none (Data.func (fdAt (inCls (top 23) 1) (Str.ofString "Pack.need") Value.none (Value.str (Str.ofString "packdelta.packs") 400) (Value.ref 196))) #[]),
 (198, Obj.mk (Value.type "tuple") none (Data.seq #[]) #[]),
 (200, Obj.mk (Value.type "tuple") none (Data.seq #[Value.str (Str.ofString "self") 453, Value.str (Str.ofString "text") 454, Value.str (Str.ofString "beside") 455, Value.str (Str.ofString "entry") 456, Value.str (Str.ofString "number") 457, Value.str (Str.ofString "bases") 458, Value.str (Str.ofString "best") 459]) #[]),
 (201, Obj.mk (Value.type "tuple") none (Data.seq #[]) #[]),
 (203, Obj.mk (Value.type "code") none (Data.fields #[Value.str (Str.ofString "store") 450, Value.str (Str.ofString "Pack.store") 451, Value.str (Str.ofString "/claim/cut.py") 452, Value.int 109 0, Value.int 3 0, Value.int 0 0, Value.int 0 0, Value.int 3 0, Value.ref 198, Value.bool true, Value.int 181 0, Value.ref 199, Value.none, Value.ref 200, Value.ref 201, Value.ref 202, Value.int 460 0, Value.int 109 0, Value.str (Str.ofString "/claim/cut.py") 461]) #[]),
 (204, Obj.mk (Value.type "function") none (Data.func (fdAt (inCls (top 23) 2) (Str.ofString "Pack.store") Value.none (Value.str (Str.ofString "packdelta.packs") 400) (Value.ref 203))) #[]),
 (205, Obj.mk (Value.type "tuple") none (Data.seq #[]) #[]),
 (207, Obj.mk (Value.type "tuple") none (Data.seq #[Value.str (Str.ofString "self") 466, Value.str (Str.ofString "number") 467]) #[]),
 (208, Obj.mk (Value.type "tuple") none (Data.seq #[]) #[]),
 (210, Obj.mk (Value.type "code") none (Data.fields #[Value.str (Str.ofString "read") 463, Value.str (Str.ofString "Pack.read") 464, Value.str (Str.ofString "/claim/cut.py") 465, Value.int 129 0, Value.int 2 0, Value.int 0 0, Value.int 0 0, Value.int 3 0, Value.ref 205, Value.bool true, Value.int 181 0, Value.ref 206, Value.none, Value.ref 207, Value.ref 208, Value.ref 209, Value.int 468 0, Value.int 129 0, Value.str (Str.ofString "/claim/cut.py") 469]) #[]),
 (211, Obj.mk (Value.type "function") none (Data.func (fdAt (inCls (top 23) 3) (Str.ofString "Pack.read") Value.none (Value.str (Str.ofString "packdelta.packs") 400) (Value.ref 210))) #[]),
 (212, Obj.mk (Value.type "tuple") none (Data.seq #[]) #[]),
 (214, Obj.mk (Value.type "tuple") none (Data.seq #[Value.str (Str.ofString "self") 474, Value.str (Str.ofString "number") 475]) #[]),
 (215, Obj.mk (Value.type "tuple") none (Data.seq #[]) #[]),
 (217, Obj.mk (Value.type "code") none (Data.fields #[Value.str (Str.ofString "base") 471, Value.str (Str.ofString "Pack.base") 472, Value.str (Str.ofString "/claim/cut.py") 473, Value.int 133 0, Value.int 2 0, Value.int 0 0, Value.int 0 0, Value.int 3 0, Value.ref 212, Value.bool true, Value.int 181 0, Value.ref 213, Value.none, Value.ref 214, Value.ref 215, Value.ref 216, Value.int 476 0, Value.int 133 0, Value.str (Str.ofString "/claim/cut.py") 477]) #[]),
 (218, Obj.mk (Value.type "function") none (Data.func (fdAt (inCls (top 23) 4) (Str.ofString "Pack.base") Value.none (Value.str (Str.ofString "packdelta.packs") 400) (Value.ref 217))) #[]),
 (219, Obj.mk (Value.type "tuple") none (Data.seq #[]) #[]),
 (221, Obj.mk (Value.type "tuple") none (Data.seq #[Value.str (Str.ofString "self") 482, Value.str (Str.ofString "number") 483]) #[]),
 (222, Obj.mk (Value.type "tuple") none (Data.seq #[]) #[]),
 (224, Obj.mk (Value.type "code") none (Data.fields #[Value.str (Str.ofString "chain") 479, Value.str (Str.ofString "Pack.chain") 480, Value.str (Str.ofString "/claim/cut.py") 481, Value.int 137 0, Value.int 2 0, Value.int 0 0, Value.int 0 0, Value.int 3 0, Value.ref 219, Value.bool true, Value.int 181 0, Value.ref 220, Value.none, Value.ref 221, Value.ref 222, Value.ref 223, Value.int 484 0, Value.int 137 0, Value.str (Str.ofString "/claim/cut.py") 485]) #[]),
 (225, Obj.mk (Value.type "function") none (Data.func (fdAt (inCls (top 23) 5) (Str.ofString "Pack.chain") Value.none (Value.str (Str.ofString "packdelta.packs") 400) (Value.ref 224))) #[]),
 (226, Obj.mk (Value.type "tuple") none (Data.seq #[]) #[]),
 (228, Obj.mk (Value.type "tuple") none (Data.seq #[Value.str (Str.ofString "self") 490]) #[]),
 (229, Obj.mk (Value.type "tuple") none (Data.seq #[]) #[]),
 (231, Obj.mk (Value.type "code") none (Data.fields #[Value.str (Str.ofString "numbers") 487, Value.str (Str.ofString "Pack.numbers") 488, Value.str (Str.ofString "/claim/cut.py") 489, Value.int 141 0, Value.int 1 0, Value.int 0 0, Value.int 0 0, Value.int 3 0, Value.ref 226, Value.bool true, Value.int 181 0, Value.ref 227, Value.none, Value.ref 228, Value.ref 229, Value.ref 230, Value.int 491 0, Value.int 141 0, Value.str (Str.ofString "/claim/cut.py") 492]) #[]),
 (232, Obj.mk (Value.type "function") none (Data.func (fdAt (inCls (top 23) 6) (Str.ofString "Pack.numbers") Value.none (Value.str (Str.ofString "packdelta.packs") 400) (Value.ref 231))) #[]),
 (233, Obj.mk (Value.type "tuple") none (Data.seq #[]) #[]),
 (235, Obj.mk (Value.type "tuple") none (Data.seq #[Value.str (Str.ofString "self") 497, Value.str (Str.ofString "found") 498, Value.str (Str.ofString "number") 499]) #[]),
 (236, Obj.mk (Value.type "tuple") none (Data.seq #[]) #[]),
 (238, Obj.mk (Value.type "code") none (Data.fields #[Value.str (Str.ofString "bases") 494, Value.str (Str.ofString "Pack.bases") 495, Value.str (Str.ofString "/claim/cut.py") 496, Value.int 144 0, Value.int 1 0, Value.int 0 0, Value.int 0 0, Value.int 3 0, Value.ref 233, Value.bool true, Value.int 181 0, Value.ref 234, Value.none, Value.ref 235, Value.ref 236, Value.ref 237, Value.int 500 0, Value.int 144 0, Value.str (Str.ofString "/claim/cut.py") 501]) #[]),
 (239, Obj.mk (Value.type "function") none (Data.func (fdAt (inCls (top 23) 7) (Str.ofString "Pack.bases") Value.none (Value.str (Str.ofString "packdelta.packs") 400) (Value.ref 238))) #[]),
 (240, Obj.mk (Value.type "tuple") none (Data.seq #[]) #[]),
 (243, Obj.mk (Value.type "code") none (Data.fields #[Value.str (Str.ofString "rows") 503, Value.str (Str.ofString "Pack.rows") 504, Value.str (Str.ofString "/claim/cut.py") 505, Value.int 150 0, Value.int 1 0, Value.int 0 0, Value.int 0 0, Value.int 3 0, Value.ref 240, Value.bool true, Value.int 181 0, Value.ref 241, Value.none, Value.none, Value.none, Value.ref 242, Value.int 506 0, Value.int 150 0, Value.str (Str.ofString "/claim/cut.py") 507]) #[]),
 (244, Obj.mk (Value.type "function") none (Data.func (fdAt (inCls (top 23) 8) (Str.ofString "Pack.rows") Value.none (Value.str (Str.ofString "packdelta.packs") 400) (Value.ref 243))) #[]),
 (245, Obj.mk (Value.type "tuple") none (Data.seq #[]) #[]),
 (247, Obj.mk (Value.type "tuple") none (Data.seq #[Value.str (Str.ofString "self") 512, Value.str (Str.ofString "total") 513, Value.str (Str.ofString "row") 514]) #[]),
 (248, Obj.mk (Value.type "tuple") none (Data.seq #[]) #[]),
 (250, Obj.mk (Value.type "code") none (Data.fields #[Value.str (Str.ofString "weight") 509, Value.str (Str.ofString "Pack.weight") 510, Value.str (Str.ofString "/claim/cut.py") 511, Value.int 153 0, Value.int 1 0, Value.int 0 0, Value.int 0 0, Value.int 3 0, Value.ref 245, Value.bool true, Value.int 181 0, Value.ref 246, Value.none, Value.ref 247, Value.ref 248, Value.ref 249, Value.int 515 0, Value.int 153 0, Value.str (Str.ofString "/claim/cut.py") 516]) #[]),
 (251, Obj.mk (Value.type "function") none (Data.func (fdAt (inCls (top 23) 9) (Str.ofString "Pack.weight") Value.none (Value.str (Str.ofString "packdelta.packs") 400) (Value.ref 250))) #[]),
 (252, Obj.mk (Value.type "tuple") none (Data.seq #[]) #[]),
 (254, Obj.mk (Value.type "tuple") none (Data.seq #[Value.str (Str.ofString "self") 521, Value.str (Str.ofString "number") 522, Value.str (Str.ofString "entry") 523, Value.str (Str.ofString "one") 524, Value.str (Str.ofString "kept") 525]) #[]),
 (255, Obj.mk (Value.type "tuple") none (Data.seq #[]) #[]),
 (257, Obj.mk (Value.type "code") none (Data.fields #[Value.str (Str.ofString "turn") 518, Value.str (Str.ofString "Pack.turn") 519, Value.str (Str.ofString "/claim/cut.py") 520, Value.int 162 0, Value.int 2 0, Value.int 0 0, Value.int 0 0, Value.int 3 0, Value.ref 252, Value.bool true, Value.int 181 0, Value.ref 253, Value.none, Value.ref 254, Value.ref 255, Value.ref 256, Value.int 526 0, Value.int 162 0, Value.str (Str.ofString "/claim/cut.py") 527]) #[]),
 (258, Obj.mk (Value.type "function") none (Data.func (fdAt (inCls (top 23) 10) (Str.ofString "Pack.turn") Value.none (Value.str (Str.ofString "packdelta.packs") 400) (Value.ref 257))) #[]),
 (259, Obj.mk (Value.type "tuple") none (Data.seq #[]) #[]),
 (261, Obj.mk (Value.type "tuple") none (Data.seq #[Value.str (Str.ofString "self") 532, Value.str (Str.ofString "number") 533]) #[]),
 (262, Obj.mk (Value.type "tuple") none (Data.seq #[]) #[]),
 (264, Obj.mk (Value.type "code") none (Data.fields #[Value.str (Str.ofString "root") 529, Value.str (Str.ofString "Pack.root") 530, Value.str (Str.ofString "/claim/cut.py") 531, Value.int 170 0, Value.int 2 0, Value.int 0 0, Value.int 0 0, Value.int 3 0, Value.ref 259, Value.bool true, Value.int 181 0, Value.ref 260, Value.none, Value.ref 261, Value.ref 262, Value.ref 263, Value.int 534 0, Value.int 170 0, Value.str (Str.ofString "/claim/cut.py") 535]) #[]),
 (265, Obj.mk (Value.type "function") none (Data.func (fdAt (inCls (top 23) 11) (Str.ofString "Pack.root") Value.none (Value.str (Str.ofString "packdelta.packs") 400) (Value.ref 264))) #[]),
 (266, Obj.mk (Value.type "tuple") none (Data.seq #[]) #[]),
 (268, Obj.mk (Value.type "tuple") none (Data.seq #[Value.str (Str.ofString "self") 540, Value.str (Str.ofString "number") 541, Value.str (Str.ofString "most") 542, Value.str (Str.ofString "other") 543, Value.str (Str.ofString "chain") 544]) #[]),
 (269, Obj.mk (Value.type "tuple") none (Data.seq #[]) #[]),
 (271, Obj.mk (Value.type "code") none (Data.fields #[Value.str (Str.ofString "below") 537, Value.str (Str.ofString "Pack.below") 538, Value.str (Str.ofString "/claim/cut.py") 539, Value.int 176 0, Value.int 2 0, Value.int 0 0, Value.int 0 0, Value.int 3 0, Value.ref 266, Value.bool true, Value.int 181 0, Value.ref 267, Value.none, Value.ref 268, Value.ref 269, Value.ref 270, Value.int 545 0, Value.int 176 0, Value.str (Str.ofString "/claim/cut.py") 546]) #[]),
 (272, Obj.mk (Value.type "function") none (Data.func (fdAt (inCls (top 23) 12) (Str.ofString "Pack.below") Value.none (Value.str (Str.ofString "packdelta.packs") 400) (Value.ref 271))) #[]),
 (273, Obj.mk (Value.type "tuple") none (Data.seq #[]) #[]),
 (275, Obj.mk (Value.type "tuple") none (Data.seq #[Value.str (Str.ofString "self") 551, Value.str (Str.ofString "number") 552, Value.str (Str.ofString "other") 553, Value.str (Str.ofString "chain") 554]) #[]),
 (276, Obj.mk (Value.type "tuple") none (Data.seq #[]) #[]),
 (278, Obj.mk (Value.type "code") none (Data.fields #[Value.str (Str.ofString "lean") 548, Value.str (Str.ofString "Pack.lean") 549, Value.str (Str.ofString "/claim/cut.py") 550, Value.int 184 0, Value.int 3 0, Value.int 0 0, Value.int 0 0, Value.int 3 0, Value.ref 273, Value.bool true, Value.int 181 0, Value.ref 274, Value.none, Value.ref 275, Value.ref 276, Value.ref 277, Value.int 555 0, Value.int 184 0, Value.str (Str.ofString "/claim/cut.py") 556]) #[]),
 (279, Obj.mk (Value.type "function") none (Data.func (fdAt (inCls (top 23) 13) (Str.ofString "Pack.lean") Value.none (Value.str (Str.ofString "packdelta.packs") 400) (Value.ref 278))) #[]),
 (280, Obj.mk (Value.type "tuple") none (Data.seq #[]) #[]),
 (283, Obj.mk (Value.type "code") none (Data.fields #[Value.str (Str.ofString "forget") 558, Value.str (Str.ofString "Pack.forget") 559, Value.str (Str.ofString "/claim/cut.py") 560, Value.int 194 0, Value.int 2 0, Value.int 0 0, Value.int 0 0, Value.int 3 0, Value.ref 280, Value.bool true, Value.int 181 0, Value.ref 281, Value.none, Value.none, Value.none, Value.ref 282, Value.int 561 0, Value.int 194 0, Value.str (Str.ofString "/claim/cut.py") 562]) #[]),
 (284, Obj.mk (Value.type "function") none (Data.func (fdAt (inCls (top 23) 14) (Str.ofString "Pack.forget") Value.none (Value.str (Str.ofString "packdelta.packs") 400) (Value.ref 283))) #[]),
 (285, Obj.mk (Value.type "tuple") none (Data.seq #[Value.str (Str.ofString "bound") 564, Value.str (Str.ofString "coming") 565, Value.str (Str.ofString "held") 566]) #[]),
 (286, Obj.mk (Value.type "dict") none (Data.dict #[DictEntry.mk (PyData.keyHash P (Str.ofString "__module__")) (Value.str (Str.ofString "__module__") 429) (Value.str (Str.ofString "packdelta.packs") 400), DictEntry.mk (PyData.keyHash P (Str.ofString "__firstlineno__")) (Value.str (Str.ofString "__firstlineno__") 433) (Value.int 96 432), DictEntry.mk (PyData.keyHash P (Str.ofString "__init__")) (Value.str (Str.ofString "__init__") 441) (Value.ref 190), DictEntry.mk (PyData.keyHash P (Str.ofString "need")) (Value.str (Str.ofString "need") 449) (Value.ref 197), DictEntry.mk (PyData.keyHash P (Str.ofString "store")) (Value.str (Str.ofString "store") 462) (Value.ref 204), DictEntry.mk (PyData.keyHash P (Str.ofString "read")) (Value.str (Str.ofString "read") 470) (Value.ref 211), DictEntry.mk (PyData.keyHash P (Str.ofString "base")) (Value.str (Str.ofString "base") 478) (Value.ref 218), DictEntry.mk (PyData.keyHash P (Str.ofString "chain")) (Value.str (Str.ofString "chain") 486) (Value.ref 225), DictEntry.mk (PyData.keyHash P (Str.ofString "numbers")) (Value.str (Str.ofString "numbers") 493) (Value.ref 232), DictEntry.mk (PyData.keyHash P (Str.ofString "bases")) (Value.str (Str.ofString "bases") 502) (Value.ref 239), DictEntry.mk (PyData.keyHash P (Str.ofString "rows")) (Value.str (Str.ofString "rows") 508) (Value.ref 244), DictEntry.mk (PyData.keyHash P (Str.ofString "weight")) (Value.str (Str.ofString "weight") 517) (Value.ref 251), DictEntry.mk (PyData.keyHash P (Str.ofString "turn")) (Value.str (Str.ofString "turn") 528) (Value.ref 258), DictEntry.mk (PyData.keyHash P (Str.ofString "root")) (Value.str (Str.ofString "root") 536) (Value.ref 265), DictEntry.mk (PyData.keyHash P (Str.ofString "below")) (Value.str (Str.ofString "below") 547) (Value.ref 272), DictEntry.mk (PyData.keyHash P (Str.ofString "lean")) (Value.str (Str.ofString "lean") 557) (Value.ref 279), DictEntry.mk (PyData.keyHash P (Str.ofString "forget")) (Value.str (Str.ofString "forget") 563) (Value.ref 284), DictEntry.mk (PyData.keyHash P (Str.ofString "__static_attributes__")) (Value.str (Str.ofString "__static_attributes__") 567) (Value.ref 285), DictEntry.mk (PyData.keyHash P (Str.ofString "__dict__")) (Value.str (Str.ofString "__dict__") 569) (Value.ref 288), DictEntry.mk (PyData.keyHash P (Str.ofString "__weakref__")) (Value.str (Str.ofString "__weakref__") 571) (Value.ref 289), DictEntry.mk (PyData.keyHash P (Str.ofString "__doc__")) (Value.str (Str.ofString "__doc__") 572) Value.none] 4) #[]),
 (287, Obj.mk (Value.type "type") none (Data.cls (ClassData.mk (Str.ofString "Pack") [Value.type "object"] [Value.ref 287, Value.type "object"] 286 (Str.ofString "Pack") true [] [] false none false)) #[none, none, some (Value.str (Str.ofString "Pack") 422), some (Value.str (Str.ofString "Pack") 430), some (Value.builtin "object.__new__"), some (Value.bool true)]),
 (288, Obj.mk (Value.type "getset_descriptor") none (Data.fields #[Value.str (Str.ofString "__dict__") 568, Value.ref 287, Value.builtin "function.__dict__", Value.builtin "function.__dict__#set"]) #[]),
 (289, Obj.mk (Value.type "getset_descriptor") none (Data.fields #[Value.str (Str.ofString "__weakref__") 570, Value.ref 287, Value.builtin "ExceptionGroup.__weakref__", Value.none]) #[]),
 (292, Obj.mk (Value.type "tuple") none (Data.seq #[]) #[]),
 (294, Obj.mk (Value.type "tuple") none (Data.seq #[Value.str (Str.ofString "held") 580, Value.str (Str.ofString "bound") 581, Value.str (Str.ofString "number") 582, Value.str (Str.ofString "steps") 583, Value.str (Str.ofString "one") 584]) #[]),
 (295, Obj.mk (Value.type "tuple") none (Data.seq #[]) #[]),
 (297, Obj.mk (Value.type "code") none (Data.fields #[Value.str (Str.ofString "check_chains") 577, Value.str (Str.ofString "check_chains") 578, Value.str (Str.ofString "/claim/cut.py") 579, Value.int 211 0, Value.int 2 0, Value.int 0 0, Value.int 0 0, Value.int 3 0, Value.ref 292, Value.bool true, Value.int 181 0, Value.ref 293, Value.none, Value.ref 294, Value.ref 295, Value.ref 296, Value.int 585 0, Value.int 211 0, Value.str (Str.ofString "/claim/cut.py") 586]) #[]),
 (298, Obj.mk (Value.type "function") none (Data.func (fdAt (top 25) (Str.ofString "check_chains") Value.none (Value.str (Str.ofString "packdelta.opening") 575) (Value.ref 297))) #[]),
 (299, Obj.mk (Value.type "tuple") none (Data.seq #[]) #[]),
 (301, Obj.mk (Value.type "tuple") none (Data.seq #[Value.str (Str.ofString "held") 591, Value.str (Str.ofString "number") 592]) #[]),
 (302, Obj.mk (Value.type "tuple") none (Data.seq #[]) #[]),
 (304, Obj.mk (Value.type "code") none (Data.fields #[Value.str (Str.ofString "check_changes") 588, Value.str (Str.ofString "check_changes") 589, Value.str (Str.ofString "/claim/cut.py") 590, Value.int 222 0, Value.int 1 0, Value.int 0 0, Value.int 0 0, Value.int 3 0, Value.ref 299, Value.bool true, Value.int 181 0, Value.ref 300, Value.none, Value.ref 301, Value.ref 302, Value.ref 303, Value.int 593 0, Value.int 222 0, Value.str (Str.ofString "/claim/cut.py") 594]) #[]),
 (305, Obj.mk (Value.type "function") none (Data.func (fdAt (top 26) (Str.ofString "check_changes") Value.none (Value.str (Str.ofString "packdelta.opening") 575) (Value.ref 304))) #[]),
 (306, Obj.mk (Value.type "tuple") none (Data.seq #[]) #[]),
 (308, Obj.mk (Value.type "tuple") none (Data.seq #[Value.str (Str.ofString "rows") 599, Value.str (Str.ofString "bound") 600, Value.str (Str.ofString "pack") 601, Value.str (Str.ofString "held") 602, Value.str (Str.ofString "last") 603, Value.str (Str.ofString "row") 604]) #[]),
 (309, Obj.mk (Value.type "tuple") none (Data.seq #[]) #[]),
 (311, Obj.mk (Value.type "code") none (Data.fields #[Value.str (Str.ofString "opened") 596, Value.str (Str.ofString "opened") 597, Value.str (Str.ofString "/claim/cut.py") 598, Value.int 228 0, Value.int 2 0, Value.int 0 0, Value.int 0 0, Value.int 3 0, Value.ref 306, Value.bool true, Value.int 181 0, Value.ref 307, Value.none, Value.ref 308, Value.ref 309, Value.ref 310, Value.int 605 0, Value.int 228 0, Value.str (Str.ofString "/claim/cut.py") 606]) #[]),
 (312, Obj.mk (Value.type "function") none (Data.func (fdAt (top 27) (Str.ofString "opened") Value.none (Value.str (Str.ofString "packdelta.opening") 575) (Value.ref 311))) #[]),
 (313, Obj.mk (Value.type "tuple") none (Data.seq #[]) #[]),
 (315, Obj.mk (Value.type "tuple") none (Data.seq #[Value.str (Str.ofString "_law_script") 613, Value.str (Str.ofString "_law_k") 614]) #[]),
 (316, Obj.mk (Value.type "tuple") none (Data.seq #[]) #[]),
 (318, Obj.mk (Value.type "code") none (Data.fields #[Value.str (Str.ofString "_law_cell_at") 610, Value.str (Str.ofString "_law_cell_at") 611, Value.str (Str.ofString "/claim/cut.py") 612, Value.int 243 0, Value.int 2 0, Value.int 0 0, Value.int 0 0, Value.int 3 0, Value.ref 313, Value.bool true, Value.int 181 0, Value.ref 314, Value.none, Value.ref 315, Value.ref 316, Value.ref 317, Value.int 615 0, Value.int 243 0, Value.str (Str.ofString "/claim/cut.py") 616]) #[]),
 (319, Obj.mk (Value.type "function") none (Data.func (fdAt (top 29) (Str.ofString "_law_cell_at") Value.none (Value.str (Str.ofString "law_uf040024_14") 608) (Value.ref 318))) #[]),
 (320, Obj.mk (Value.type "tuple") none (Data.seq #[]) #[]),
 (322, Obj.mk (Value.type "tuple") none (Data.seq #[Value.str (Str.ofString "_law_found") 621]) #[]),
 (323, Obj.mk (Value.type "tuple") none (Data.seq #[]) #[]),
 (325, Obj.mk (Value.type "code") none (Data.fields #[Value.str (Str.ofString "_law_whole") 618, Value.str (Str.ofString "_law_whole") 619, Value.str (Str.ofString "/claim/cut.py") 620, Value.int 247 0, Value.int 1 0, Value.int 0 0, Value.int 0 0, Value.int 3 0, Value.ref 320, Value.bool true, Value.int 181 0, Value.ref 321, Value.none, Value.ref 322, Value.ref 323, Value.ref 324, Value.int 622 0, Value.int 247 0, Value.str (Str.ofString "/claim/cut.py") 623]) #[]),
 (326, Obj.mk (Value.type "function") none (Data.func (fdAt (top 30) (Str.ofString "_law_whole") Value.none (Value.str (Str.ofString "law_uf040024_14") 608) (Value.ref 325))) #[]),
 (327, Obj.mk (Value.type "tuple") none (Data.seq #[]) #[]),
 (329, Obj.mk (Value.type "tuple") none (Data.seq #[Value.str (Str.ofString "_law_cell") 628, Value.str (Str.ofString "_law_some") 629]) #[]),
 (330, Obj.mk (Value.type "tuple") none (Data.seq #[]) #[]),
 (332, Obj.mk (Value.type "code") none (Data.fields #[Value.str (Str.ofString "_law_sign_by") 625, Value.str (Str.ofString "_law_sign_by") 626, Value.str (Str.ofString "/claim/cut.py") 627, Value.int 249 0, Value.int 1 0, Value.int 0 0, Value.int 0 0, Value.int 3 0, Value.ref 327, Value.bool true, Value.int 181 0, Value.ref 328, Value.none, Value.ref 329, Value.ref 330, Value.ref 331, Value.int 630 0, Value.int 249 0, Value.str (Str.ofString "/claim/cut.py") 631]) #[]),
 (333, Obj.mk (Value.type "function") none (Data.func (fdAt (top 31) (Str.ofString "_law_sign_by") Value.none (Value.str (Str.ofString "law_uf040024_14") 608) (Value.ref 332))) #[]),
 (334, Obj.mk (Value.type "tuple") none (Data.seq #[]) #[]),
 (337, Obj.mk (Value.type "code") none (Data.fields #[Value.str (Str.ofString "_law_text_by") 633, Value.str (Str.ofString "_law_text_by") 634, Value.str (Str.ofString "/claim/cut.py") 635, Value.int 253 0, Value.int 2 0, Value.int 0 0, Value.int 0 0, Value.int 3 0, Value.ref 334, Value.bool true, Value.int 181 0, Value.ref 335, Value.none, Value.none, Value.none, Value.ref 336, Value.int 636 0, Value.int 253 0, Value.str (Str.ofString "/claim/cut.py") 637]) #[]),
 (338, Obj.mk (Value.type "function") none (Data.func (fdAt (top 32) (Str.ofString "_law_text_by") Value.none (Value.str (Str.ofString "law_uf040024_14") 608) (Value.ref 337))) #[]),
 (339, Obj.mk (Value.type "tuple") none (Data.seq #[]) #[]),
 (341, Obj.mk (Value.type "tuple") none (Data.seq #[Value.str (Str.ofString "_law_old") 642, Value.str (Str.ofString "_law_cell") 643, Value.str (Str.ofString "_law_way_here") 644, Value.str (Str.ofString "_law_at") 645, Value.str (Str.ofString "_law_left") 646]) #[]),
 (342, Obj.mk (Value.type "tuple") none (Data.seq #[]) #[]),
 (344, Obj.mk (Value.type "code") none (Data.fields #[Value.str (Str.ofString "_law_next_text") 639, Value.str (Str.ofString "_law_next_text") 640, Value.str (Str.ofString "/claim/cut.py") 641, Value.int 255 0, Value.int 2 0, Value.int 0 0, Value.int 0 0, Value.int 3 0, Value.ref 339, Value.bool true, Value.int 181 0, Value.ref 340, Value.none, Value.ref 341, Value.ref 342, Value.ref 343, Value.int 647 0, Value.int 255 0, Value.str (Str.ofString "/claim/cut.py") 648]) #[]),
 (345, Obj.mk (Value.type "function") none (Data.func (fdAt (top 33) (Str.ofString "_law_next_text") Value.none (Value.str (Str.ofString "law_uf040024_14") 608) (Value.ref 344))) #[]),
 (346, Obj.mk (Value.type "tuple") none (Data.seq #[]) #[]),
 (348, Obj.mk (Value.type "tuple") none (Data.seq #[Value.str (Str.ofString "_law_cell") 653, Value.str (Str.ofString "_law_numbers") 654]) #[]),
 (349, Obj.mk (Value.type "tuple") none (Data.seq #[]) #[]),
 (351, Obj.mk (Value.type "code") none (Data.fields #[Value.str (Str.ofString "_law_beside") 650, Value.str (Str.ofString "_law_beside") 651, Value.str (Str.ofString "/claim/cut.py") 652, Value.int 268 0, Value.int 2 0, Value.int 0 0, Value.int 0 0, Value.int 3 0, Value.ref 346, Value.bool true, Value.int 181 0, Value.ref 347, Value.none, Value.ref 348, Value.ref 349, Value.ref 350, Value.int 655 0, Value.int 268 0, Value.str (Str.ofString "/claim/cut.py") 656]) #[]),
 (352, Obj.mk (Value.type "function") none (Data.func (fdAt (top 34) (Str.ofString "_law_beside") Value.none (Value.str (Str.ofString "law_uf040024_14") 608) (Value.ref 351))) #[]),
 (353, Obj.mk (Value.type "tuple") none (Data.seq #[]) #[]),
 (355, Obj.mk (Value.type "tuple") none (Data.seq #[Value.str (Str.ofString "_law_cell") 661]) #[]),
 (356, Obj.mk (Value.type "tuple") none (Data.seq #[]) #[]),
 (358, Obj.mk (Value.type "code") none (Data.fields #[Value.str (Str.ofString "_law_bound_by") 658, Value.str (Str.ofString "_law_bound_by") 659, Value.str (Str.ofString "/claim/cut.py") 660, Value.int 276 0, Value.int 1 0, Value.int 0 0, Value.int 0 0, Value.int 3 0, Value.ref 353, Value.bool true, Value.int 181 0, Value.ref 354, Value.none, Value.ref 355, Value.ref 356, Value.ref 357, Value.int 662 0, Value.int 276 0, Value.str (Str.ofString "/claim/cut.py") 663]) #[]),
 (359, Obj.mk (Value.type "function") none (Data.func (fdAt (top 35) (Str.ofString "_law_bound_by") Value.none (Value.str (Str.ofString "law_uf040024_14") 608) (Value.ref 358))) #[]),
 (360, Obj.mk (Value.type "tuple") none (Data.seq #[]) #[]),
 (362, Obj.mk (Value.type "tuple") none (Data.seq #[Value.str (Str.ofString "_law_found") 668]) #[]),
 (363, Obj.mk (Value.type "tuple") none (Data.seq #[]) #[]),
 (365, Obj.mk (Value.type "code") none (Data.fields #[Value.str (Str.ofString "_law_change") 665, Value.str (Str.ofString "_law_change") 666, Value.str (Str.ofString "/claim/cut.py") 667, Value.int 282 0, Value.int 1 0, Value.int 0 0, Value.int 0 0, Value.int 3 0, Value.ref 360, Value.bool true, Value.int 181 0, Value.ref 361, Value.none, Value.ref 362, Value.ref 363, Value.ref 364, Value.int 669 0, Value.int 282 0, Value.str (Str.ofString "/claim/cut.py") 670]) #[]),
 (366, Obj.mk (Value.type "function") none (Data.func (fdAt (top 36) (Str.ofString "_law_change") Value.none (Value.str (Str.ofString "law_uf040024_14") 608) (Value.ref 365))) #[]),
 (367, Obj.mk (Value.type "tuple") none (Data.seq #[]) #[]),
 (369, Obj.mk (Value.type "tuple") none (Data.seq #[Value.str (Str.ofString "_law_kept") 675, Value.str (Str.ofString "_law_number") 676, Value.str (Str.ofString "_law_bound") 677, Value.str (Str.ofString "_law_way_here") 678]) #[]),
 (370, Obj.mk (Value.type "tuple") none (Data.seq #[]) #[]),
 (372, Obj.mk (Value.type "code") none (Data.fields #[Value.str (Str.ofString "_law_way") 672, Value.str (Str.ofString "_law_way") 673, Value.str (Str.ofString "/claim/cut.py") 674, Value.int 286 0, Value.int 3 0, Value.int 0 0, Value.int 0 0, Value.int 3 0, Value.ref 367, Value.bool true, Value.int 181 0, Value.ref 368, Value.none, Value.ref 369, Value.ref 370, Value.ref 371, Value.int 679 0, Value.int 286 0, Value.str (Str.ofString "/claim/cut.py") 680]) #[]),
 (373, Obj.mk (Value.type "function") none (Data.func (fdAt (top 37) (Str.ofString "_law_way") Value.none (Value.str (Str.ofString "law_uf040024_14") 608) (Value.ref 372))) #[]),
 (374, Obj.mk (Value.type "tuple") none (Data.seq #[]) #[]),
 (376, Obj.mk (Value.type "tuple") none (Data.seq #[Value.str (Str.ofString "_law_kept") 685, Value.str (Str.ofString "_law_way_here") 686, Value.str (Str.ofString "_law_signs") 687, Value.str (Str.ofString "_law_one") 688, Value.str (Str.ofString "_law_change_here") 689, Value.str (Str.ofString "_law_end") 690]) #[]),
 (377, Obj.mk (Value.type "tuple") none (Data.seq #[]) #[]),
 (379, Obj.mk (Value.type "code") none (Data.fields #[Value.str (Str.ofString "_law_text_of") 682, Value.str (Str.ofString "_law_text_of") 683, Value.str (Str.ofString "/claim/cut.py") 684, Value.int 293 0, Value.int 2 0, Value.int 0 0, Value.int 0 0, Value.int 3 0, Value.ref 374, Value.bool true, Value.int 181 0, Value.ref 375, Value.none, Value.ref 376, Value.ref 377, Value.ref 378, Value.int 691 0, Value.int 293 0, Value.str (Str.ofString "/claim/cut.py") 692]) #[]),
 (380, Obj.mk (Value.type "function") none (Data.func (fdAt (top 38) (Str.ofString "_law_text_of") Value.none (Value.str (Str.ofString "law_uf040024_14") 608) (Value.ref 379))) #[]),
 (381, Obj.mk (Value.type "tuple") none (Data.seq #[]) #[]),
 (383, Obj.mk (Value.type "tuple") none (Data.seq #[Value.str (Str.ofString "_law_rows") 697, Value.str (Str.ofString "_law_texts") 698, Value.str (Str.ofString "_law_kept") 699, Value.str (Str.ofString "_law_last") 700, Value.str (Str.ofString "_law_row") 701]) #[]),
 (384, Obj.mk (Value.type "tuple") none (Data.seq #[]) #[]),
 (386, Obj.mk (Value.type "code") none (Data.fields #[Value.str (Str.ofString "_law_kept_rows") 694, Value.str (Str.ofString "_law_kept_rows") 695, Value.str (Str.ofString "/claim/cut.py") 696, Value.int 306 0, Value.int 2 0, Value.int 0 0, Value.int 0 0, Value.int 3 0, Value.ref 381, Value.bool true, Value.int 181 0, Value.ref 382, Value.none, Value.ref 383, Value.ref 384, Value.ref 385, Value.int 702 0, Value.int 306 0, Value.str (Str.ofString "/claim/cut.py") 703]) #[]),
 (387, Obj.mk (Value.type "function") none (Data.func (fdAt (top 39) (Str.ofString "_law_kept_rows") Value.none (Value.str (Str.ofString "law_uf040024_14") 608) (Value.ref 386))) #[]),
 (388, Obj.mk (Value.type "tuple") none (Data.seq #[]) #[]),
 (390, Obj.mk (Value.type "tuple") none (Data.seq #[Value.str (Str.ofString "_law_pack") 708, Value.str (Str.ofString "_law_kept") 709, Value.str (Str.ofString "_law_due") 710, Value.str (Str.ofString "_law_many") 711, Value.str (Str.ofString "_law_one") 712, Value.str (Str.ofString "_law_found") 713, Value.str (Str.ofString "_law_names") 714]) #[]),
 (391, Obj.mk (Value.type "tuple") none (Data.seq #[]) #[]),
 (393, Obj.mk (Value.type "code") none (Data.fields #[Value.str (Str.ofString "_law_faces") 705, Value.str (Str.ofString "_law_faces") 706, Value.str (Str.ofString "/claim/cut.py") 707, Value.int 319 0, Value.int 2 0, Value.int 0 0, Value.int 0 0, Value.int 3 0, Value.ref 388, Value.bool true, Value.int 181 0, Value.ref 389, Value.none, Value.ref 390, Value.ref 391, Value.ref 392, Value.int 715 0, Value.int 319 0, Value.str (Str.ofString "/claim/cut.py") 716]) #[]),
 (394, Obj.mk (Value.type "function") none (Data.func (fdAt (top 40) (Str.ofString "_law_faces") Value.none (Value.str (Str.ofString "law_uf040024_14") 608) (Value.ref 393))) #[]),
 (395, Obj.mk (Value.type "tuple") none (Data.seq #[]) #[]),
 (398, Obj.mk (Value.type "code") none (Data.fields #[Value.str (Str.ofString "_law_sound") 718, Value.str (Str.ofString "_law_sound") 719, Value.str (Str.ofString "/claim/cut.py") 720, Value.int 335 0, Value.int 4 0, Value.int 0 0, Value.int 0 0, Value.int 3 0, Value.ref 395, Value.bool true, Value.int 181 0, Value.ref 396, Value.none, Value.none, Value.none, Value.ref 397, Value.int 721 0, Value.int 335 0, Value.str (Str.ofString "/claim/cut.py") 722]) #[]),
 (399, Obj.mk (Value.type "function") none (Data.func (fdAt (top 41) (Str.ofString "_law_sound") Value.none (Value.str (Str.ofString "law_uf040024_14") 608) (Value.ref 398))) #[]),
 (400, Obj.mk (Value.type "tuple") none (Data.seq #[]) #[]),
 (402, Obj.mk (Value.type "tuple") none (Data.seq #[Value.str (Str.ofString "_law_pack") 727, Value.str (Str.ofString "_law_kind") 728, Value.str (Str.ofString "_law_one") 729, Value.str (Str.ofString "_law_other") 730]) #[]),
 (403, Obj.mk (Value.type "tuple") none (Data.seq #[]) #[]),
 (405, Obj.mk (Value.type "code") none (Data.fields #[Value.str (Str.ofString "_law_tried") 724, Value.str (Str.ofString "_law_tried") 725, Value.str (Str.ofString "/claim/cut.py") 726, Value.int 354 0, Value.int 4 0, Value.int 0 0, Value.int 0 0, Value.int 3 0, Value.ref 400, Value.bool true, Value.int 181 0, Value.ref 401, Value.none, Value.ref 402, Value.ref 403, Value.ref 404, Value.int 731 0, Value.int 354 0, Value.str (Str.ofString "/claim/cut.py") 732]) #[]),
 (406, Obj.mk (Value.type "function") none (Data.func (fdAt (top 42) (Str.ofString "_law_tried") Value.none (Value.str (Str.ofString "law_uf040024_14") 608) (Value.ref 405))) #[]),
 (407, Obj.mk (Value.type "tuple") none (Data.seq #[]) #[]),
 (409, Obj.mk (Value.type "tuple") none (Data.seq #[Value.str (Str.ofString "_law_pack") 737, Value.str (Str.ofString "_law_texts") 738, Value.str (Str.ofString "_law_last") 739, Value.str (Str.ofString "_law_one") 740, Value.str (Str.ofString "_law_two") 741, Value.str (Str.ofString "_law_beside_here") 742, Value.str (Str.ofString "_law_old") 743, Value.str (Str.ofString "_law_signs") 744, Value.str (Str.ofString "_law_number") 745]) #[]),
 (410, Obj.mk (Value.type "tuple") none (Data.seq #[]) #[]),
 (412, Obj.mk (Value.type "code") none (Data.fields #[Value.str (Str.ofString "_law_put") 734, Value.str (Str.ofString "_law_put") 735, Value.str (Str.ofString "/claim/cut.py") 736, Value.int 365 0, Value.int 5 0, Value.int 0 0, Value.int 0 0, Value.int 3 0, Value.ref 407, Value.bool true, Value.int 181 0, Value.ref 408, Value.none, Value.ref 409, Value.ref 410, Value.ref 411, Value.int 746 0, Value.int 365 0, Value.str (Str.ofString "/claim/cut.py") 747]) #[]),
 (413, Obj.mk (Value.type "function") none (Data.func (fdAt (top 43) (Str.ofString "_law_put") Value.none (Value.str (Str.ofString "law_uf040024_14") 608) (Value.ref 412))) #[]),
 (414, Obj.mk (Value.type "tuple") none (Data.seq #[]) #[]),
 (416, Obj.mk (Value.type "tuple") none (Data.seq #[Value.str (Str.ofString "_law_pack") 752, Value.str (Str.ofString "_law_texts") 753, Value.str (Str.ofString "_law_last") 754, Value.str (Str.ofString "_law_one") 755, Value.str (Str.ofString "_law_two") 756, Value.str (Str.ofString "_law_kind") 757, Value.str (Str.ofString "_law_names") 758, Value.str (Str.ofString "_law_number") 759]) #[]),
 (417, Obj.mk (Value.type "tuple") none (Data.seq #[]) #[]),
 (419, Obj.mk (Value.type "code") none (Data.fields #[Value.str (Str.ofString "_law_deed") 749, Value.str (Str.ofString "_law_deed") 750, Value.str (Str.ofString "/claim/cut.py") 751, Value.int 378 0, Value.int 5 0, Value.int 0 0, Value.int 0 0, Value.int 3 0, Value.ref 414, Value.bool true, Value.int 181 0, Value.ref 415, Value.none, Value.ref 416, Value.ref 417, Value.ref 418, Value.int 760 0, Value.int 378 0, Value.str (Str.ofString "/claim/cut.py") 761]) #[]),
 (420, Obj.mk (Value.type "function") none (Data.func (fdAt (top 44) (Str.ofString "_law_deed") Value.none (Value.str (Str.ofString "law_uf040024_14") 608) (Value.ref 419))) #[]),
 (421, Obj.mk (Value.type "tuple") none (Data.seq #[]) #[]),
 (424, Obj.mk (Value.type "code") none (Data.fields #[Value.str (Str.ofString "law") 763, Value.str (Str.ofString "law") 764, Value.str (Str.ofString "/claim/cut.py") 765, Value.int 390 0, Value.int 1 0, Value.int 0 0, Value.int 0 0, Value.int 3 0, Value.ref 421, Value.bool true, Value.int 181 0, Value.ref 422, Value.none, Value.none, Value.none, Value.ref 423, Value.int 766 0, Value.int 390 0, Value.str (Str.ofString "/claim/cut.py") 767]) #[]),
 (425, Obj.mk (Value.type "function") none (Data.func (fdAt (top 45) (Str.ofString "law") Value.none (Value.str (Str.ofString "law_uf040024_14") 608) (Value.ref 424))) #[])]
def adr : List Addr := [2, 3, 15, 22, 23, 24, 25, 28, 35, 36, 37, 40, 47, 48, 49, 52, 59, 60, 61, 64, 71, 72, 73, 76, 83, 84, 85, 88, 95, 96, 97, 100, 102, 103, 105, 106, 107, 109, 110, 112, 113, 114, 116, 117, 119, 120, 121, 123, 124, 126, 127, 128, 130, 131, 133, 134, 135, 137, 138, 140, 141, 142, 144, 145, 147, 148, 149, 151, 152, 154, 155, 156, 158, 159, 161, 162, 163, 165, 166, 168, 169, 170, 172, 173, 175, 176, 184, 186, 187, 189, 190, 191, 193, 194, 196, 197, 198, 200, 201, 203, 204, 205, 207, 208, 210, 211, 212, 214, 215, 217, 218, 219, 221, 222, 224, 225, 226, 228, 229, 231, 232, 233, 235, 236, 238, 239, 240, 243, 244, 245, 247, 248, 250, 251, 252, 254, 255, 257, 258, 259, 261, 262, 264, 265, 266, 268, 269, 271, 272, 273, 275, 276, 278, 279, 280, 283, 284, 285, 286, 287, 288, 289, 292, 294, 295, 297, 298, 299, 301, 302, 304, 305, 306, 308, 309, 311, 312, 313, 315, 316, 318, 319, 320, 322, 323, 325, 326, 327, 329, 330, 332, 333, 334, 337, 338, 339, 341, 342, 344, 345, 346, 348, 349, 351, 352, 353, 355, 356, 358, 359, 360, 362, 363, 365, 366, 367, 369, 370, 372, 373, 374, 376, 377, 379, 380, 381, 383, 384, 386, 387, 388, 390, 391, 393, 394, 395, 398, 399, 400, 402, 403, 405, 406, 407, 409, 410, 412, 413, 414, 416, 417, 419, 420, 421, 424, 425]
end Mine
namespace Mine
open PySem PySem.W PyProof.Rows PySem.F
section
variable {c : Cx} {P : Params} {sc : Addr} {ns : List Int}
theorem not_dec {p : Prop} [Decidable p] : (!decide p) = true ↔ ¬ p := by simp
theorem gb_len (W : Lw c (KK P) sc ns) : GN c (Str.ofString "len") (.builtin "len") := W.blt rfl (by decide) bt_len
theorem Fn.gen {n : Nat} {v : Value} {ds : List V} {H : AH} {Q : V → AH → Prop} {X : Value → AH → Prop} (h : ∀ Q' : V → AH → Prop, (∀ d H', Q d H' → Q' d H') → Fn c n v ds H Q' X) : Fn c n v ds H Q X := h Q fun _ _ q => q
theorem gb_isinstance (W : Lw c (KK P) sc ns) : GN c (Str.ofString "isinstance") (.builtin "isinstance") := W.blt rfl (by decide) bt_isinstance
theorem gb_int (W : Lw c (KK P) sc ns) : GN c (Str.ofString "int") (.type "int") := W.blt rfl (by decide) bt_int
theorem gb_bool (W : Lw c (KK P) sc ns) : GN c (Str.ofString "bool") (.type "bool") := W.blt rfl (by decide) bt_bool
theorem gb_str (W : Lw c (KK P) sc ns) : GN c (Str.ofString "str") (.type "str") := W.blt rfl (by decide) bt_str
theorem gb_tuple (W : Lw c (KK P) sc ns) : GN c (Str.ofString "tuple") (.type "tuple") := W.blt rfl (by decide) bt_tuple
theorem gb_list (W : Lw c (KK P) sc ns) : GN c (Str.ofString "list") (.type "list") := W.blt rfl (by decide) bt_list
theorem gb_range (W : Lw c (KK P) sc ns) : GN c (Str.ofString "range") (.type "range") := W.blt rfl (by decide) bt_range
theorem gb_min (W : Lw c (KK P) sc ns) : GN c (Str.ofString "min") (.builtin "min") := W.blt rfl (by decide) bt_min
theorem gb_max (W : Lw c (KK P) sc ns) : GN c (Str.ofString "max") (.builtin "max") := W.blt rfl (by decide) bt_max
theorem gb_dict (W : Lw c (KK P) sc ns) : GN c (Str.ofString "dict") (.type "dict") := W.blt rfl (by decide) bt_dict
theorem sp_cell_at (W : Lw c (KK P) sc ns) (H : AH) (k : Int) (h0 : 0 ≤ k) : Fn c 1 (.ref 319) [.ref sc, .int k] H (fun d H' => d = .int (cellAt ns k) ∧ H' = H) (fun _ _ => False) := by
  refine Fn_def W.ok.lim (W.kx 319 _ rfl) rfl rfl (codeRec_of W.kx rfl) rfl (names := ["_law_script", "_law_k"]) (bind2 rfl fun _ _ => rfl) rfl (by decide) (fun n => mem2 (.inl rfl) (.inl rfl)) rfl rfl rfl fun A L frs hE R O => ?_
  refine Ex_ifp (P := k < ns.length) (Tp_cmp (Pe_var rfl) (Pe_B1 W.ok (gb_len W) (Pe_var rfl) (L_base W)) B_lt (by simp)) (fun h => ?_) (fun h => ?_)
  · refine Ex_ret (Pe.ev (Pe_sub (Pe_var rfl) (Pe_var rfl) (G_base W h0 h)) ⟨by rw [cellAt, if_pos h], rfl⟩)
  · refine Ex_ret (Ev_int ⟨by rw [cellAt, if_neg h], rfl⟩)
theorem Pe_cellE (W : Lw c (KK P) sc ns) {f : Fx} {m : Loc} {H : AH} {k : Int} {e : Expr} {p₁ p₂ p : Pos} (R : Room 1 f.A) (hf : f.A.frames = some f.frs) (hm : m (Str.ofString "_law_script") = some (.ref sc)) (he : Pe c f e m H (.int k)) (h0 : 0 ≤ k)
    (hg : f.env.globals = mainGlobals := by rfl) (hb : f.env.builtins = builtinsNs := by rfl) (hk : f.env.scope.kind = .function := by rfl) (hn : f.env.kindOf (Str.ofString "_law_cell_at") = some .globalImplicit := by rfl) (hst : starEach [e] f.env = (false, eval e f.env) :: starEach [] f.env := by rfl) :
    Pe c f (.Call (.Name (Str.ofString "_law_cell_at") p₁) [.Name (Str.ofString "_law_script") p₂, e] [] p) m H (.int (cellAt ns k)) :=
  Pe_F2 W.ok (W.glob rfl) (W.kx 319 _ rfl) rfl R hf (Pe_var hm hk) he (sp_cell_at W H k h0) hg hb hk hn (by decide) rfl hst
theorem Pe_cell (W : Lw c (KK P) sc ns) {f : Fx} {m : Loc} {H : AH} {k : Int} {n : Nat} {p₁ p₂ p₃ p : Pos} (R : Room 1 f.A) (hf : f.A.frames = some f.frs) (hm : m (Str.ofString "_law_script") = some (.ref sc)) (h0 : 0 ≤ k := by decide)
    (hg : f.env.globals = mainGlobals := by rfl) (hb : f.env.builtins = builtinsNs := by rfl) (hk : f.env.scope.kind = .function := by rfl) (hn : f.env.kindOf (Str.ofString "_law_cell_at") = some .globalImplicit := by rfl) :
    Pe c f (.Call (.Name (Str.ofString "_law_cell_at") p₁) [.Name (Str.ofString "_law_script") p₂, .Constant (.int k) n p₃] [] p) m H (.int (cellAt ns k)) :=
  Pe_F2 W.ok (W.glob rfl) (W.kx 319 _ rfl) rfl R hf (Pe_var hm hk) Pe_int (sp_cell_at W H k h0) hg hb hk hn
theorem sp_whole (W : Lw c (KK P) sc ns) (H : AH) (i : Int) : Fn c 1 (.ref 326) [.int i] H (fun d' H' => d' = .bool true ∧ H' = H) (fun _ _ => False) := by
  refine Fn_def W.ok.lim (W.kx 326 _ rfl) rfl rfl (codeRec_of W.kx rfl) rfl (names := ["_law_found"]) (bind1 rfl fun _ => rfl) rfl (by decide) (fun n => mem1 (.inl rfl)) rfl rfl rfl fun A L frs hE R O => ?_
  exact Ex_ret (Pe.ev (Pb.pe (Pb_and (Pb_isi W.ok (gb_isinstance W) (gb_int W) (Pe_var rfl) I_int) fun _ => Pb_and1 (Pb_not (Pb_isi W.ok (gb_isinstance W) (gb_bool W) (Pe_var rfl) I_int_bool))) (by simp)) ⟨rfl, rfl⟩)
theorem sp_change (W : Lw c (KK P) sc ns) (H : AH) (i : Int) (x y : Str) : Fn c 2 (.ref 366) [.tup [.int i, .str x, .str y]] H (fun d' H' => d' = .bool true ∧ H' = H) (fun _ _ => False) := by
  refine Fn_def W.ok.lim (W.kx 366 _ rfl) rfl rfl (codeRec_of W.kx rfl) rfl (names := ["_law_found"]) (bind1 rfl fun _ => rfl) rfl (by decide) (fun n => mem1 (.inl rfl)) rfl rfl rfl fun A L frs hE R O => ?_
  refine Ex_ifp (Tp_or (Tpo_cons (Tp_not (Tp_pb (Pb_isi W.ok (gb_isinstance W) (gb_tuple W) (Pe_var rfl) I_tup))) fun _ => Tpo_cons (Tp_cmp (Pe_B1 W.ok (gb_len W) (Pe_var rfl) (L_tup (three_fits _ _ _))) Pe_int B_ne (P := False) (by simp)) fun _ => Tpo_nil)) (fun g => ?_) (fun g => ?_)
  · simp at g
  refine Ex_ret (Pe.ev (Pb.pe (P := True ∧ true = true ∧ true = true) (Pb_and ?_ fun _ => Pb_and ?_ fun _ => Pb_and1 ?_) (by simp)) ⟨rfl, rfl⟩)
  · exact (Pe_F1 W.ok (W.glob rfl) (W.kx 326 _ rfl) rfl R O.frames (Pe_sub (Pe_var rfl) Pe_int (G_tup (j := 0) rfl rfl (by decide))) (sp_whole W H i)).pb (by simp)
  · exact Pb_isi W.ok (gb_isinstance W) (gb_str W) (Pe_sub (Pe_var rfl) Pe_int (G_tup (j := 1) rfl rfl (by decide))) I_str
  · exact Pb_isi W.ok (gb_isinstance W) (gb_str W) (Pe_sub (Pe_var rfl) Pe_int (G_tup (j := 2) rfl rfl (by decide))) I_str
theorem sp_done_ok (W : Lw c (KK P) sc ns) (H : AH) (l gone come : List Nat) (at_ : Int) (h0 : 0 ≤ at_) (h1 : at_ ≤ l.length) (h2 : (l.take (at_ + gone.length).toNat).drop at_.toNat = gone) (hsz : l.length ≤ 100000) (hsz2 : come.length ≤ 100000) (hsz3 : gone.length ≤ 100000) :
    Fn c 1 (.ref 106) [.s l, .tup [.int at_, .s gone, .s come]] H (fun d H' => d = .s (l.take at_.toNat ++ come ++ l.drop (at_ + gone.length).toNat) ∧ H' = H) (fun _ _ => False) := by
  have hs : 1000000 ≤ sizeLine := by decide
  refine Fn_def W.ok.lim (W.kx 106 _ rfl) rfl rfl (codeRec_of W.kx rfl) rfl (names := ["text", "change"]) (bind2 rfl fun _ _ => rfl) rfl (by decide) (fun n => mem2 (.inl rfl) (.inl rfl)) rfl rfl rfl fun A L frs hE R O => ?_
  refine Ex_assign (Pe.ev (Pe_sub (Pe_var rfl) Pe_int (G_tup (j := 0) rfl rfl (by decide))) ?_) (.inl rfl)
  refine Ex_assign (Pe.ev (Pe_sub (Pe_var rfl) Pe_int (G_tup (j := 1) rfl rfl (by decide))) ?_) (.inl rfl)
  refine Ex_ifp (Tp_or (Tpo_cons (Tp_cmp (Pe_var rfl) Pe_int B_lt decide_eq_true_iff) fun g1 => Tpo_cons (Tp_cmp (Pe_var rfl) (Pe_B1 W.ok (gb_len W) (Pe_var rfl) (L_str (by exact om165 hsz hs))) B_gt decide_eq_true_iff) fun g2 => Tpo_cons (Tp_cmp (Pe_slice_ss (Pe_var rfl) (Pe_var rfl) (Pe_bin (Pe_var rfl) (Pe_B1 W.ok (gb_len W) (Pe_var rfl) (L_str (by exact om165 hsz3 hs))) B_add) (by exact om166 h0) (by exact om167 h0) (by exact om165 hsz hs)) (Pe_var rfl) B_ness not_dec) fun _ => Tpo_nil)) (fun g => ?_) (fun g => ?_)
  · exfalso
    rcases g with g | g | g | g
    · exact om168 h0 g
    · exact om169 h1 g
    · exact g h2
    · exact g
  · refine Ex_ret (Pe.ev (Pe_bin (Pe_bin (Pe_slice_ns (Pe_var rfl) (Pe_var rfl) h0 (by exact om165 hsz hs)) (Pe_sub (Pe_var rfl) Pe_int (G_tup (j := 2) rfl rfl (by decide))) (B_cats ?_)) (Pe_slice_sn (Pe_var rfl) (Pe_bin (Pe_var rfl) (Pe_B1 W.ok (gb_len W) (Pe_var rfl) (L_str (by exact om165 hsz3 hs))) B_add) (by exact om167 h0) (by exact om165 hsz hs)) (B_cats ?_)) ⟨rfl, rfl⟩)
    · rw [List.length_take]; exact om170 hsz hsz2 hs
    · rw [List.length_append, List.length_take, List.length_drop]; exact Nat.le_trans (Nat.add_le_add (Nat.add_le_add_right (Nat.min_le_right _ _) _) (Nat.sub_le _ _)) (by exact om171 hsz hsz2 hs)
theorem sp_turned (W : Lw c (KK P) sc ns) (H : AH) (a b d : V) : Fn c 1 (.ref 113) [.tup [a, b, d]] H (fun d' H' => d' = .tup [a, d, b] ∧ H' = H) (fun _ _ => False) := by
  refine Fn_def W.ok.lim (W.kx 113 _ rfl) rfl rfl (codeRec_of W.kx rfl) rfl (names := ["change"]) (bind1 rfl fun _ => rfl) rfl (by decide) (fun n => mem1 (.inl rfl)) rfl rfl rfl fun A L frs hE R O => ?_
  exact Ex_ret (Pe.ev (Pe_tuple (Pes_cons (Pe_sub (Pe_var rfl) Pe_int (G_tup (j := 0) rfl rfl (by decide))) (Pes_cons (Pe_sub (Pe_var rfl) Pe_int (G_tup (j := 2) rfl rfl (by decide))) (Pes_cons (Pe_sub (Pe_var rfl) Pe_int (G_tup (j := 1) rfl rfl (by decide))) Pes_nil))) (three_fits _ _ _)) ⟨rfl, rfl⟩)
theorem sp_chain_of (W : Lw c (KK P) sc ns) (H : AH) (b : Addr) (kvs : List (Int × V)) (rk : Int → Nat) (n : Int) (d0 : V) (hb : DictIs H b kvs) (hw : Wood kvs rk) (hn : dget kvs n = some d0) :
    Fn c 1 (.ref 127) [.ref b, .int n] H (fun d H' => ∃ a o xs, d = .ref a ∧ H a = none ∧ H' = H.set a ⟨o, .list (xs.map V.int)⟩ ∧ IsChain kvs n xs ∧ xs.length ≤ 50) (fun _ _ => False) := by
  have hs : 1000000 ≤ sizeLine := by decide
  refine Fn.gen fun QQ hQQ => ?_
  refine Fn_def W.ok.lim (W.kx 127 _ rfl) rfl rfl (codeRec_of W.kx rfl) rfl (names := ["bases", "number"]) (bind2 rfl fun _ _ => rfl) rfl (by decide) (fun n => mem2 (.inl rfl) (.inl rfl)) rfl rfl rfl fun A L frs hE R O => ?_
  refine Ex_assign (Ev_list W.ok (Pes.evs (Pes_cons (Pe_var rfl) Pes_nil) ⟨by show 1 ≤ sizeLine; exact om172 hs, fun a o ha => ?_⟩)) (.inl rfl)
  have hba : b ≠ a := hb.ne_new ha
  refine Ex_while O (fun k m' H' => ∃ (o : Obj) (pre : List Int) (x : Int) (dx : V), H' = H.set a ⟨o, .list ((pre ++ [x]).map V.int)⟩ ∧ k = rk x ∧ dget kvs x = some dx ∧ pre.length + rk x ≤ rk n ∧ (∀ xs, IsChain kvs x xs → IsChain kvs n (pre ++ xs)) ∧ m' (Str.ofString "bases") = some (.ref b) ∧ m' (Str.ofString "chain") = some (.ref a)) (rk n) ⟨o, [], n, d0, rfl, rfl, hn, by simp, fun xs h => by simpa using h, rfl, rfl⟩ ?_
  rintro k m' H' rz2; refine e4a7 rz2 fun o pre x dx rq206 rq207 hx hlen hpre mb mc => ?_; clear rz2; obtain rfl := rq206; obtain rfl := rq207
  have hl : ListAt (H.set a ⟨o, .list ((pre ++ [x]).map V.int)⟩) a ((pre ++ [x]).map V.int) := ListAt.same _ _ _ _
  have hb' : DictIs (H.set a ⟨o, .list ((pre ++ [x]).map V.int)⟩) b kvs := hb.ne hba
  have low := hw.low n
  have hlen1 : ((pre ++ [x]).map V.int).length = pre.length + 1 := by simp
  have s1 : seqIndex? (-1) ((pre ++ [x]).map V.int).length = some pre.length := by rw [hlen1]; exact (seqIndex_neg (by exact om173) (by exact om174)).trans (congrArg some (by exact om175))
  have g1 : ((pre ++ [x]).map V.int)[pre.length]? = some (.int x) := by simp
  refine Ts.mono (Tp_isNotNone (Pe_sub (Pe_var mb) (Pe_sub (Pe_var mc) (Pe_neg Pe_int) (G_list hl s1 g1 (by exact om176))) (G_dict hb' hx))) (fun t H' ⟨e, q⟩ => ?_) fun _ _ z => z.elim
  subst e
  refine ⟨fun ht => ?_, fun ht => ?_⟩
  · rcases hw.down x dx hx with h0 | ⟨y, dy, rfl, hy, hlt⟩
    · exact (q.mp ht h0).elim
    refine Ex_appendS (Pe_var mc) (Pe_sub (Pe_var mb) (Pe_sub (Pe_var mc) (Pe_neg Pe_int) (G_list hl s1 g1 (by exact om176))) (G_dict hb' hx)) hl (by exact om177 hs hlen low hlen1) (fun o' => Ex_nil ⟨rk y, hlt, o', pre ++ [x], y, dy, ?_, rfl, hy, by simp; exact om178 hlen hlt, fun xs h => ?_, mb, mc⟩)
    · rw [AH.set_set]; simp
    · simpa using hpre _ (.step hx h)
  · have h0 : dx = .none := by
      apply Classical.byContradiction; intro z
      rw [q.mpr z] at ht; cases ht
    subst h0
    exact Ex_ret (Pe.ev (Pe_var mc) (hQQ _ _ ⟨a, o, pre ++ [x], rfl, ha, rfl, hpre _ (.stop hx), by simp; exact om179 hlen low⟩))
theorem dset_new {kvs : List (Int × V)} {k : Int} {d : V} (h : k ∉ kvs.map (·.1)) : dset kvs k d = kvs ++ [(k, d)] := by
  unfold dset
  rw [if_neg]
  rw [List.any_eq_true]
  rintro rz3; refine e1a2 rz3 fun x hx e => ?_; clear rz3
  exact h (List.mem_map.mpr ⟨x, hx, by simpa using e⟩)
theorem nd_take {l : List Int} {i : Nat} {k : Int} (nd : l.Nodup) (h : l[i]? = some k) : k ∉ l.take i := by
  intro hm
  obtain ⟨j, hj, e⟩ := List.getElem_of_mem hm
  rw [List.getElem_take] at e
  rw [List.length_take] at hj
  obtain ⟨hi, e2⟩ := List.getElem?_eq_some_iff.mp h
  have := (List.getElem_inj (h₀ := by exact om180 hj) (h₁ := hi) nd).mp (e.trans e2.symm)
  exact om181 hj this
theorem keys_of (ks : List Int) (g : Int → V) : (ks.map fun k => (k, g k)).map (·.1) = ks := by rw [List.map_map]; simp [Function.comp_def]
theorem gb_sorted (W : Lw c (KK P) sc ns) : GN c (Str.ofString "sorted") (.builtin "sorted") := W.blt rfl (by decide) bt_sorted
theorem sp_farthest (W : Lw c (KK P) sc ns) (H : AH) (a : Addr) (kvs : List (Int × V)) (hd : DictIs H a kvs) (nd : (kvs.map (·.1)).Nodup) (hne : kvs ≠ []) (hv : ∀ k d, (k, d) ∈ kvs → ∃ n : Int, d = .int n) :
    Fn c 1 (.ref 148) [.ref a] H (fun d H' => H' = H ∧ ∃ b n : Int, d = .int b ∧ dget kvs b = some (.int n) ∧ ∀ k n' : Int, dget kvs k = some (.int n') → n' ≤ n) (fun _ _ => False) := by
  refine Fn.gen fun QQ hQQ => ?_
  refine Fn_def W.ok.lim (W.kx 148 _ rfl) rfl rfl (codeRec_of W.kx rfl) rfl (names := ["far"]) (bind1 rfl fun _ => rfl) rfl (by decide) (fun n => mem1 (.inl rfl)) rfl rfl rfl fun A L frs hE R O => ?_
  refine Ex_assign (Pe.ev Pe_none ?_) (.inl rfl)
  refine Ex_for O (EvIt_dict R.handled (Pe.ev (Pe_var rfl) ⟨a, kvs, rfl, hd, fun i m' H' => H' = H ∧ m' (Str.ofString "far") = some (.ref a) ∧ ((i = 0 ∧ m' (Str.ofString "best") = some .none) ∨ (0 < i ∧ ∃ b n : Int, m' (Str.ofString "best") = some (.int b) ∧ dget kvs b = some (.int n) ∧ ∀ (j : Nat) (k n' : Int), j < i → kvs[j]? = some (k, .int n') → n' ≤ n)), ⟨rfl, rfl, .inl ⟨rfl, rfl⟩⟩, ?_, ?_⟩)) (.inl rfl)
  · rintro i d m' H' kp hdd rz4 _; refine e0a3 rz4 fun rq208 mf J => ?_; clear rz4; obtain rfl := rq208
    refine e1a2 (map_item hdd) fun rq209 hk rq210 => ?_; obtain ⟨k, dk⟩ := rq209; obtain rfl := rq210
    obtain ⟨nk, rfl⟩ := hv k dk (List.mem_of_getElem? hk)
    have gk : dget kvs k = some (.int nk) := dget_of_mem nd (List.mem_of_getElem? hk)
    have upto : ∀ (N : Int), nk ≤ N → (∀ (j : Nat) (k' n' : Int), j < i → kvs[j]? = some (k', .int n') → n' ≤ N) → ∀ (j : Nat) (k' n' : Int), j < i + 1 → kvs[j]? = some (k', .int n') → n' ≤ N := fun N h1 h2 j k' n' hj e => by
      by_cases q : j = i
      · subst q; rw [hk] at e; injection e with e; injection e with e1 e2; injection e2 with e2; exact om182 h1 e2
      · exact h2 j k' n' (by exact om183 hj q) e
    rcases J with ⟨rfl, mb⟩ | ⟨hi, b, n, mb, hb, all⟩
    · refine Ex_ifp (Tp_or (Tpo_cons (R := False) (Tp_isNone (Pe_var mb)) fun g => (g rfl).elim)) (fun _ => ?_) (fun g => (g (.inl rfl)).elim)
      exact Ex_assign (Pe.ev (Pe_var rfl) (Ex_nil ⟨⟨rfl, mf, .inr ⟨by exact om184, k, nk, rfl, gk, upto nk (Int.le_refl _) fun j k' n' hj => absurd hj (by exact om185)⟩⟩, fun _ _ => rfl⟩)) (.inl rfl)
    · refine Ex_ifp (Tp_or (Tpo_cons (Tp_isNone (Pe_var mb)) fun _ => Tpo_cons (Tp_cmp (Pe_sub (Pe_var mf) (Pe_var rfl) (G_dict hd gk)) (Pe_sub (Pe_var mf) (Pe_var mb) (G_dict hd hb)) B_gt decide_eq_true_iff) fun _ => Tpo_nil)) (fun g => ?_) (fun g => ?_)
      · have hlt : n < nk := by
          rcases g with g | g | g
          · cases g
          · exact g
          · exact g.elim
        exact Ex_assign (Pe.ev (Pe_var rfl) (Ex_nil ⟨⟨rfl, mf, .inr ⟨by exact om186, k, nk, rfl, gk, upto nk (Int.le_refl _) fun j k' n' hj e => by have := all j k' n' hj e; exact om187 hlt this⟩⟩, fun _ _ => rfl⟩)) (.inl rfl)
      · have hle : nk ≤ n := by
          apply Classical.byContradiction; intro z
          exact g (.inr (.inl (by omega)))
        exact Ex_nil ⟨⟨rfl, mf, .inr ⟨by exact om186, b, n, mb, hb, upto n hle all⟩⟩, fun _ _ => rfl⟩
  · rintro m' H' rz5 _; refine e0a3 rz5 fun rq211 mf J => ?_; clear rz5; obtain rfl := rq211
    have hlen : 0 < kvs.length := List.length_pos_iff.mpr hne
    rw [List.length_map] at J
    rcases J with ⟨z, _⟩ | ⟨_, b, n, mb, hb, all⟩
    · exact (om188 hlen z).elim
    · refine Ex_ret (Pe.ev (Pe_var mb) (hQQ _ _ ⟨rfl, b, n, rfl, hb, fun k n' e => ?_⟩))
      obtain ⟨j, hj, e1⟩ := List.getElem_of_mem (dget_mem e)
      exact all j k n' hj (by rw [List.getElem?_eq_getElem hj, e1])
theorem mem_app {L : Int → List Int} {k w v x : Int} : x ∈ (if v = k then L v ++ [w] else L v) ↔ x ∈ L v ∨ (v = k ∧ x = w) := by
  by_cases e : v = k
  · rw [if_pos e]; simp [e]
  · rw [if_neg e]; simp [e]
theorem ex_succ {i : Nat} {p : Nat → Prop} : (∃ j, j < i + 1 ∧ p j) ↔ (∃ j, j < i ∧ p j) ∨ p i := by
  constructor
  · rintro rz6; refine e1a2 rz6 fun j hj h => ?_; clear rz6
    by_cases e : j = i
    · exact .inr (e ▸ h)
    · exact .inl ⟨j, by exact om183 hj e, h⟩
  · rintro (⟨j, hj, h⟩ | h)
    · exact ⟨j, by exact om189 hj, h⟩
    · exact ⟨i, by exact om59, h⟩
theorem sp_neighbours (W : Lw c (KK P) sc ns) (H : AH) (b : Addr) (kvs : List (Int × V)) (pt : Int → List Int) (hb : DictIs H b kvs) (PT : Paths kvs pt) (nd : (kvs.map (·.1)).Nodup) (few : kvs.length ≤ 40) :
    Fn c 1 (.ref 134) [.ref b] H (fun d H' => ∃ an ad L, d = .ref an ∧ Ext H H' ∧ NearAt H' kvs an ad L) (fun _ _ => False) := by
  have hs : 1000000 ≤ sizeLine := by decide
  have hbn : H b ≠ none := by obtain ⟨o, e⟩ := hb; rw [e]; exact fun z => nomatch z
  refine Fn.gen fun QQ hQQ => ?_
  refine Fn_def W.ok.lim (W.kx 134 _ rfl) rfl rfl (codeRec_of W.kx rfl) rfl (names := ["bases"]) (bind1 rfl fun _ => rfl) rfl (by decide) (fun n => mem1 (.inl rfl)) rfl rfl rfl fun A L frs hE R O => ?_
  refine Ex_assign (Ev_dict0 W.ok fun an on hn => ?_) (.inl rfl)
  have hba : b ≠ an := hb.ne_new hn
  refine Ex_for O (EvIt_dict R.handled (Pe.ev (Pe_var rfl) ⟨b, kvs, rfl, hb.ne hba, fun i m' H' => (∃ ad, Near H H' an ((kvs.map (·.1)).take i) ad (fun _ => [])) ∧ m' (Str.ofString "bases") = some (.ref b) ∧ m' (Str.ofString "near") = some (.ref an), ⟨⟨fun _ => an, Ext.set (Ext.refl _) hn, hn, DictIs.same _ _ _ _, (fun _ h => nomatch h), (fun _ h => nomatch h), (fun _ h => nomatch h)⟩, rfl, rfl⟩, ?_, ?_⟩)) (.inl rfl)
  · rintro i d m' H' kp hd hJJ _
    refine Ex.gen fun QhQ hQ => ?_
    refine e0a3 hJJ fun rq212 mb mn => ?_; clear hJJ; obtain ⟨ad, N⟩ := rq212
    refine e1a2 (map_item hd) fun rq213 hk rq214 => ?_; obtain ⟨k, dk⟩ := rq213; obtain rfl := rq214
    have hk1 : (kvs.map (·.1))[i]? = some k := map_item' hk
    have hnk := nd_take nd hk1
    refine Ex_store (Ev_list W.ok (Evs_nil ⟨Nat.zero_le _, fun a o ha => Pe.ev (Pe_var mn) (Pe.ev (Pe_var rfl) ⟨an, _, k, rfl, rfl, N.d.fresh ha, by simp; exact om190 few hs, fun o' => ?_⟩)⟩))
    have N' := N.put (o := o) (o' := o') hnk ha
    rw [dset_new (by rw [keys_of]; exact hnk)]
    exact Ex_nil (hQ _ _ _ ⟨⟨⟨_, by rw [List.take_add_one, hk1]; exact N'⟩, mb, mn⟩, fun x hx => by rw [List.mem_singleton] at hx; subst hx; exact (N'.ext _ hbn).trans (set_ne _ _ hba).symm⟩)
  rintro m' H' rz7 _; refine e0a3 rz7 fun rq215 mb mn => ?_; clear rz7; obtain ⟨ad, N⟩ := rq215
  rw [List.take_of_length_le (by simp)] at N
  refine Ex_for O (EvIt_dict R.handled (Pe.ev (Pe_var mb) ⟨b, kvs, rfl, N.ext.dict hb, fun i m2 H2 => (∃ L, Near H H2 an (kvs.map (·.1)) ad L ∧ (∀ v w, w ∈ L v ↔ ∃ j, j < i ∧ (kvs[j]? = some (v, .int w) ∨ kvs[j]? = some (w, .int v))) ∧ ∀ v, (L v).length ≤ 2 * i) ∧ m2 (Str.ofString "bases") = some (.ref b) ∧ m2 (Str.ofString "near") = some (.ref an), ⟨⟨_, N, fun v w => ⟨(fun h => nomatch h), fun ⟨j, hj, _⟩ => absurd hj (by omega)⟩, fun v => Nat.zero_le _⟩, mb, mn⟩, ?_, ?_⟩)) (.inl rfl)
  · rintro i d m2 H2 kp hd hJJ _
    refine Ex.gen fun QhQ hQ => ?_
    refine e0a3 hJJ fun rq216 mb mn => ?_; clear hJJ; obtain ⟨L, N2, hL, hlen⟩ := rq216
    refine e1a2 (map_item hd) fun rq217 hk rq218 => ?_; obtain ⟨k, dk⟩ := rq217; obtain rfl := rq218
    have gk : dget kvs k = some dk := dget_of_mem nd (List.mem_of_getElem? hk)
    have hi : i < kvs.length := (List.getElem?_eq_some_iff.mp hk).1
    refine Ex_assign (Pe.ev (Pe_sub (Pe_var mb) (Pe_var rfl) (G_dict (N2.ext.dict hb) gk)) ?_) (.inl rfl)
    refine Ex_ifp (Tp_isNotNone (Pe_var rfl)) (fun g => ?_) (fun g => ?_)
    · rcases PT.key k dk gk with h0 | ⟨w, dw, rfl, hw⟩
      · exact (g h0).elim
      have kk : k ∈ kvs.map (·.1) := key_iff.mp ⟨_, gk⟩
      have kw : w ∈ kvs.map (·.1) := key_iff.mp ⟨_, hw⟩
      refine Ex_appendS (Pe_sub (Pe_var mn) (Pe_var rfl) (G_dict N2.d (dget_map kk))) (Pe_var rfl) (N2.l k kk) (by have := hlen k; simp; exact om191 few hs hi this) fun o1 => ?_
      have N3 := N2.app (o := o1) (w := w) kk
      refine Ex_appendS (Pe_sub (Pe_var mn) (Pe_var rfl) (G_dict N3.d (dget_map kw))) (Pe_var rfl) (N3.l w kw) (by have := hlen w; rw [List.length_map]; split <;> simp <;> omega) fun o2 => ?_
      have N4 := N3.app (o := o2) (w := k) kw
      refine Ex_nil (hQ _ _ _ ⟨⟨⟨_, N4, fun v x => ?_, fun v => ?_⟩, mb, mn⟩, fun x hx => ?_⟩)
      · rw [mem_app (L := fun x => if x = k then L x ++ [w] else L x), mem_app, hL, ex_succ, hk]
        have e1 : (some (k, V.int w) = some (v, V.int x)) ↔ (v = k ∧ x = w) := by simp; exact ⟨fun ⟨a, b⟩ => ⟨a.symm, b.symm⟩, fun ⟨a, b⟩ => ⟨a.symm, b.symm⟩⟩
        have e2 : (some (k, V.int w) = some (x, V.int v)) ↔ (v = w ∧ x = k) := by simp; exact ⟨fun ⟨a, b⟩ => ⟨b.symm, a.symm⟩, fun ⟨a, b⟩ => ⟨b.symm, a.symm⟩⟩
        rw [e1, e2, or_assoc]
      · have := hlen v
        split <;> split <;> simp <;> omega
      · rw [List.mem_singleton] at hx; subst hx; rw [N4.ext _ hbn, N.ext _ hbn]
    · have h0 : dk = .none := Classical.byContradiction g
      subst h0
      refine Ex_nil (hQ _ _ _ ⟨⟨⟨L, N2, fun v x => ?_, fun v => by have := hlen v; exact om192 this⟩, mb, mn⟩, fun x hx => ?_⟩)
      · rw [hL, ex_succ, hk]; simp
      · rw [List.mem_singleton] at hx; subst hx; rw [N2.ext _ hbn, N.ext _ hbn]
  rintro m2 H2 rz8 _; refine e0a3 rz8 fun rq219 mb mn => ?_; clear rz8; obtain ⟨L, N2, hL, _⟩ := rq219
  refine Ex_ret (Pe.ev (Pe_var mn) (hQQ _ _ ⟨an, ad, L, rfl, N2.ext, N2.d, fun v hv => N2.l v (key_iff.mp hv), fun v w => (hL v w).trans ⟨?_, ?_⟩⟩))
  · rintro ⟨j, _, h | h⟩
    · exact .inl (dget_of_mem nd (List.mem_of_getElem? h))
    · exact .inr (dget_of_mem nd (List.mem_of_getElem? h))
  · rintro (h | h)
    · obtain ⟨j, e⟩ := List.getElem?_of_mem (dget_mem h)
      exact ⟨j, by rw [List.length_map]; exact (List.getElem?_eq_some_iff.mp e).1, .inl e⟩
    · obtain ⟨j, e⟩ := List.getElem?_of_mem (dget_mem h)
      exact ⟨j, by rw [List.length_map]; exact (List.getElem?_eq_some_iff.mp e).1, .inr e⟩
inductive DsW (kvs : List (Int × V)) (pt : Int → List Int) (u : Int) (H : AH) (an af : Addr) (n : Nat) (m : Loc) (H' : AH) : Prop
  | mk (s : Nat) (far : List (Int × V)) (lay : List Int) (al : Addr) : n = 100 - s → Ext H H' → DictIs H' af far → ListAt H' al (lay.map V.int) → FarTo kvs pt u s far → (∀ v, v ∈ lay ↔ (Key kvs v ∧ Same pt u v ∧ ds pt u v = s)) → m (Str.ofString "near") = some (.ref an) → m (Str.ofString "far") = some (.ref af) → m (Str.ofString "layer") = some (.ref al) → m (Str.ofString "steps") = some (.int (s : Int)) → DsW kvs pt u H an af n m H'
inductive DsF (kvs : List (Int × V)) (pt : Int → List Int) (u : Int) (H : AH) (an af ab al : Addr) (s : Nat) (lay : List Int) (cl : Option Cell) (i : Nat) (m : Loc) (H2 : AH) : Prop
  | mk (far2 : List (Int × V)) (beh : List Int) : Ext H H2 → DictIs H2 af far2 → ListAt H2 ab (beh.map V.int) → H2 al = cl → FarMid kvs pt u s far2 beh → (∀ (j : Nat) (v : Int), j < i → lay[j]? = some v → ∀ w, Nb kvs v w → dget far2 w ≠ none) → m (Str.ofString "near") = some (.ref an) → m (Str.ofString "far") = some (.ref af) → m (Str.ofString "steps") = some (.int ((s : Int) + 1)) → m (Str.ofString "behind") = some (.ref ab) → DsF kvs pt u H an af ab al s lay cl i m H2
inductive DsG (kvs : List (Int × V)) (pt : Int → List Int) (u : Int) (H : AH) (an af ab al : Addr) (s : Nat) (lay : List Int) (cl : Option Cell) (i : Nat) (nb : List Int) (i2 : Nat) (m : Loc) (H3 : AH) : Prop
  | mk (far3 : List (Int × V)) (beh3 : List Int) : Ext H H3 → DictIs H3 af far3 → ListAt H3 ab (beh3.map V.int) → H3 al = cl → FarMid kvs pt u s far3 beh3 → (∀ (j : Nat) (v : Int), j < i → lay[j]? = some v → ∀ w, Nb kvs v w → dget far3 w ≠ none) → (∀ (j : Nat) (w : Int), j < i2 → nb[j]? = some w → dget far3 w ≠ none) → m (Str.ofString "near") = some (.ref an) → m (Str.ofString "far") = some (.ref af) → m (Str.ofString "steps") = some (.int ((s : Int) + 1)) → m (Str.ofString "behind") = some (.ref ab) → DsG kvs pt u H an af ab al s lay cl i nb i2 m H3
theorem sp_distances (W : Lw c (KK P) sc ns) (H : AH) (an : Addr) (ad : Int → Addr) (Ln : Int → List Int) (kvs : List (Int × V)) (pt : Int → List Int) (u : Int) (N : NearAt H kvs an ad Ln) (PT : Paths kvs pt) (few : kvs.length ≤ 40) (hu : Key kvs u) :
    Fn c 1 (.ref 141) [.ref an, .int u] H (fun d H' => ∃ af far, d = .ref af ∧ Ext H H' ∧ DictIs H' af far ∧ Far kvs pt u far) (fun _ _ => False) := by
  have hs : 1000000 ≤ sizeLine := by decide
  refine Fn.gen fun QQ hQQ => ?_
  refine Fn_def W.ok.lim (W.kx 141 _ rfl) rfl rfl (codeRec_of W.kx rfl) rfl (names := ["near", "start"]) (bind2 rfl fun _ _ => rfl) rfl (by decide) (fun n => mem2 (.inl rfl) (.inl rfl)) rfl rfl rfl fun A L frs hE R O => ?_
  have hun : A.units + 4 < cLine := by have := R.units; exact om193 this
  refine Ex_assign (Ev_dict1 W.ok (fun H' _ => Pe_var rfl) (fun H' _ => Pe_int) fun af oa ha => ?_) (.inl rfl)
  refine Ex_assign (Ev_list W.ok (Pes.evs (Pes_cons (Pe_var rfl) Pes_nil) ⟨by show 1 ≤ sizeLine; exact om172 hs, fun al ol hl => ?_⟩)) (.inl rfl)
  refine Ex_assign (Pe.ev Pe_int ?_) (.inl rfl)
  refine Ex_while O (DsW kvs pt u H an af) 100
    ⟨0, [(u, .int 0)], [u], al, rfl, Ext.set (Ext.set (Ext.refl _) ha) hl, (DictIs.same _ _ _ _).fresh hl, ListAt.same _ _ _ _, FarTo.zero PT hu, fun v => ?_, rfl, rfl, rfl, rfl⟩ ?_
  · rw [List.mem_singleton]
    constructor
    · rintro rfl; exact ⟨hu, PT.self hu, ds_self _ _⟩
    · rintro rz9; refine e0a3 rz9 fun h1 h2 h3 => ?_; clear rz9
      apply Classical.byContradiction; intro hne
      refine e1a2 (PT.closer hu h1 h2 (fun e => hne e.symm)) fun w _ q => ?_
      exact om194 h3 q
  clear hl ol al
  rintro n m' H' rz10; obtain ⟨s, far, lay, al, rfl, ex, df, ll, F, hl, mn, mf, ml, ms⟩ := rz10
  refine Ts.mono (Tp.of_ext (P := lay ≠ []) (Ts_cmp ((Pe_var ml).ev (Ev_list W.ok (Evs_nil ⟨Nat.zero_le _, fun b2 o2 h2 => (B_nel_ints (l' := []) (ll.fresh h2) (ListAt.same _ _ _ _) hun).op ⟨_, rfl, Ext.set (Ext.refl _) h2, by simp⟩⟩))))) (fun t H'' ⟨e, q⟩ => ?_) fun _ _ z => z.elim
  subst e
  refine ⟨fun ht => ?_, fun ht => ?_⟩
  · refine Ex.gen fun QhQ1 hQ1 => ?_
    obtain ⟨v0, hv0⟩ := List.exists_mem_of_ne_nil _ (q.mp ht)
    have hs82 : s ≤ 82 := by refine e0a3 ((hl v0).mp hv0) fun k1 _ k3 => ?_; have := PT.ds_le hu k1; exact om195 k3 this
    refine Ex_assign (Pe.ev (Pe_bin (Pe_var ms) Pe_int B_add) ?_) (.inl rfl)
    refine Ex_assign (Ev_list W.ok (Evs_nil ⟨Nat.zero_le _, fun ab ob hab => ?_⟩)) (.inl rfl)
    have alaf : al ≠ af := ll.ne_dict df
    have alab : al ≠ ab := ll.ne_new hab
    have afab : af ≠ ab := df.ne_new hab
    have hab0 : H ab = none := ex.none hab
    refine Ex_for O (EvIt_list R.handled (Pe.ev (Pe_var ml) ⟨al, _, rfl, ll.fresh hab, DsF kvs pt u H an af ab al s lay ((H''.set ab ⟨ob, .list []⟩) al),
      ⟨far, [], Ext.set ex hab, df.fresh hab, ListAt.same _ _ _ _, rfl, F.mid, fun j v hj => absurd hj (by exact om185), mn, mf, rfl, rfl⟩, ?_, ?_⟩)) (.inl rfl)
    · rintro i d m2 H2 kp hd rz11 _; obtain ⟨far2, beh, ex2, df2, lb2, eal, F2, cov, mn2, mf2, ms2, mb2⟩ := rz11
      refine Ex.gen fun QhQ2 hQ2 => ?_
      refine e1a2 (map_item hd) fun v hv rq220 => ?_; obtain rfl := rq220
      have kv := (hl v).mp (List.mem_of_getElem? hv)
      have lv := N.l v kv.1
      have hvn : H (ad v) ≠ none := by obtain ⟨o, e⟩ := lv; rw [e]; exact fun z => nomatch z
      refine Ex_for (O.kept kp) (EvIt_list R.handled (Pe.ev (Pe_sub (Pe_var mn2) (Pe_var rfl) (G_dict (ex2.dict N.d) (dget_map (key_iff.mp kv.1)))) ⟨ad v, _, rfl, ex2.list lv, DsG kvs pt u H an af ab al s lay ((H''.set ab ⟨ob, .list []⟩) al) i (Ln v),
        ⟨far2, beh, ex2, df2, lb2, eal, F2, cov, fun j w hj => absurd hj (by exact om185), mn2, mf2, ms2, mb2⟩, ?_, ?_⟩)) (.inl rfl)
      · rintro i2 d3 m3 H3 kp3 hd3 hJJ _
        refine Ex.gen fun QhQ3 hQ3 => ?_
        obtain ⟨far3, beh3, ex3, df3, lb3, eal3, F3, cov3, cov4, mn3, mf3, ms3, mb3⟩ := hJJ
        refine e1a2 (map_item hd3) fun w hw rq221 => ?_; obtain rfl := rq221
        have nb := (N.nb v w).mp (List.mem_of_getElem? hw)
        refine Ex_ifp (Tp_cmp (P := dget far3 w = none) (Pe_var rfl) (Pe_var mf3) (B_notIn df3) (by simp)) (fun g => ?_) (fun g => ?_)
        · have F4 := F3.put PT kv nb g
          have sz := F3.size
          have sz2 := F3.few
          refine Ex_store (Pe.ev (Pe_var ms3) (Pe.ev (Pe_var mf3) (Pe.ev (Pe_var rfl) ⟨af, far3, w, rfl, rfl, df3, by exact om196 few hs sz, fun o1 => ?_⟩)))
          rw [dset_new (dget_none.mp g)]
          refine Ex_appendS (Pe_var mb3) (Pe_var rfl) (lb3.ne afab.symm) (by rw [List.length_map]; exact om197 few hs sz sz2) fun o2 => ?_
          have grow : ∀ x, dget far3 x ≠ none → dget (far3 ++ [(w, V.int ((s : Int) + 1))]) x ≠ none := fun x hx => by
            rw [dget_snoc (dget_none.mp g)]
            split
            · exact fun z => nomatch z
            · exact hx
          have e4 : Ext H ((H3.set af ⟨o1, .dict (far3 ++ [(w, V.int ((s : Int) + 1))])⟩).set ab ⟨o2, .list (beh3.map V.int ++ [V.int w])⟩) := Ext.upd (Ext.upd ex3 ha) hab0
          refine Ex_nil (hQ3 _ _ _ ⟨⟨far3 ++ [(w, V.int ((s : Int) + 1))], beh3 ++ [w], e4, (DictIs.same _ _ _ _).ne afab, ?_, ?_, F4, fun j v' hj hv' w' hn => grow _ (cov3 j v' hj hv' w' hn), fun j w' hj hw' => ?_, mn3, mf3, ms3, mb3⟩, fun x hx => ?_⟩)
          · rw [List.map_append]; exact ListAt.same _ _ _ _
          · rw [set_ne _ _ alab, set_ne _ _ alaf]; exact eal3
          · by_cases e : j = i2
            · subst e
              rw [hw] at hw'; injection hw' with hw'; subst hw'
              rw [dget_snoc (dget_none.mp g), if_pos rfl]; exact fun z => nomatch z
            · exact grow _ (cov4 j w' (by exact om183 hj e) hw')
          · rw [List.mem_singleton] at hx; subst hx; rw [e4 _ hvn, ex2 _ hvn]
        · refine Ex_nil (hQ3 _ _ _ ⟨⟨far3, beh3, ex3, df3, lb3, eal3, F3, cov3, fun j w' hj hw' => ?_, mn3, mf3, ms3, mb3⟩, fun x hx => ?_⟩)
          · by_cases e : j = i2
            · subst e
              rw [hw] at hw'; injection hw' with hw'; subst hw'
              exact g
            · exact cov4 j w' (by exact om183 hj e) hw'
          · rw [List.mem_singleton] at hx; subst hx; rw [ex3 _ hvn, ex2 _ hvn]
      · rintro m3 H3 rz12 _; obtain ⟨far3, beh3, ex3, df3, lb3, eal3, F3, cov3, cov4, mn3, mf3, ms3, mb3⟩ := rz12
        refine Ex_nil (hQ2 _ _ _ ⟨⟨far3, beh3, ex3, df3, lb3, eal3, F3, fun j v' hj hv' w hn => ?_, mn3, mf3, ms3, mb3⟩, fun x hx => ?_⟩)
        · by_cases e : j = i
          · subst e
            rw [hv] at hv'; injection hv' with hv'; subst hv'
            obtain ⟨j2, e2⟩ := List.getElem?_of_mem ((N.nb v w).mpr hn)
            exact cov4 j2 w (by rw [List.length_map]; exact (List.getElem?_eq_some_iff.mp e2).1) e2
          · exact cov3 j v' (by exact om183 hj e) hv' w hn
        · rw [List.mem_singleton] at hx; subst hx; exact eal3
    · rintro m2 H2 rz13 _; obtain ⟨far2, beh, ex2, df2, lb2, eal, F2, cov, mn2, mf2, ms2, mb2⟩ := rz13
      obtain ⟨F3, hl3⟩ := F2.done PT hu hl fun v hv w hn => by
        obtain ⟨j, e⟩ := List.getElem?_of_mem hv
        exact cov j v (by rw [List.length_map]; exact (List.getElem?_eq_some_iff.mp e).1) e w hn
      refine Ex_assign (Pe.ev (Pe_var mb2) (Ex_nil (hQ1 _ _ _ ⟨100 - (s + 1), by exact om198 hs82, s + 1, far2, beh, ab, rfl, ex2, df2, lb2, F3, hl3, mn2, mf2, rfl, ?_⟩))) (.inl rfl)
      rw [show ((s + 1 : Nat) : Int) = (s : Int) + 1 by exact om199]; exact ms2
  · have he : lay = [] := by
      apply Classical.byContradiction; intro z
      rw [q.mpr z] at ht; cases ht
    exact Ex_ret (Pe.ev (Pe_var mf) (hQQ _ _ ⟨af, far, rfl, ex, df, F.all PT hu fun v h => by have := (hl v).mpr h; rw [he] at this; cases this⟩))
theorem Far.vals {kvs : List (Int × V)} {pt : Int → List Int} {u : Int} {far : List (Int × V)} (F : Far kvs pt u far) : far.map (·.2) = (far.map fun p => (ds pt u p.1 : Int)).map V.int := by
  rw [List.map_map]
  refine List.map_congr_left fun p hp => ?_
  exact ((F.at_ p.1 p.2).mp (dget_of_mem F.nd hp)).2.2
theorem sp_reach (W : Lw c (KK P) sc ns) (H : AH) (b : Addr) (kvs : List (Int × V)) (pt : Int → List Int) (u : Int) (hb : DictIs H b kvs) (PT : Paths kvs pt) (nd : (kvs.map (·.1)).Nodup) (few : kvs.length ≤ 40) (hu : Key kvs u) :
    Fn c 2 (.ref 155) [.ref b, .int u] H (fun d H' => ∃ M : Int, d = .int M ∧ Ext H H' ∧ (∃ v, Key kvs v ∧ Same pt u v ∧ M = ds pt u v) ∧ ∀ v, Key kvs v → Same pt u v → (ds pt u v : Int) ≤ M) (fun _ _ => False) := by
  refine Fn_def W.ok.lim (W.kx 155 _ rfl) rfl rfl (codeRec_of W.kx rfl) rfl (names := ["bases", "number"]) (bind2 rfl fun _ _ => rfl) rfl (by decide) (fun n => mem2 (.inl rfl) (.inl rfl)) rfl rfl rfl fun A L frs hE R O => ?_
  refine Ex_assign (Ev_F2e W.ok (W.glob rfl) (W.kx 141 _ rfl) rfl R O.frames (Ev_F1 W.ok (W.glob rfl) (W.kx 134 _ rfl) rfl R O.frames (Pe_var rfl) (Fn.mono (sp_neighbours W H b kvs pt hb PT nd few) (fun d H' z => ?_) fun _ _ z => z.elim))) (.inl rfl)
  refine e3a3 z fun an ad L rq222 e1 N => ?_; clear z; obtain rfl := rq222
  refine (Pe_var rfl).ev (Fn.mono (sp_distances W H' an ad L kvs pt u N PT few hu) (fun d H2 z => ?_) fun _ _ z => z.elim)
  refine e2a4 z fun af far rq223 e2 df F => ?_; clear z; obtain rfl := rq223
  have hin : ∀ v, Key kvs v → Same pt u v → (ds pt u v : Int) ∈ far.map fun p => (ds pt u p.1 : Int) := fun v k1 k2 => List.mem_map.mpr ⟨_, dget_mem ((F.at_ v _).mpr ⟨k1, k2, rfl⟩), rfl⟩
  refine e1a2 (exists_max (far.map fun p => (ds pt u p.1 : Int)) (List.ne_nil_of_mem (hin u hu (PT.self hu)))) fun M h1 h2 => ?_
  refine Ex_ret (Pe.ev (Pe_maxV W.ok (gb_max W) R.handled (Pe_var rfl) df F.vals h1 h2) ⟨M, rfl, e1.trans e2, ?_, fun v k1 k2 => h2 _ (hin v k1 k2)⟩)
  refine e1a2 (List.mem_map.mp h1) fun p hp rq224 => ?_; obtain rfl := rq224
  have := (F.at_ p.1 p.2).mp (dget_of_mem F.nd hp)
  exact ⟨p.1, this.1, this.2.1, rfl⟩
theorem sp_middle (W : Lw c (KK P) sc ns) (H : AH) (b : Addr) (kvs : List (Int × V)) (pt : Int → List Int) (u : Int) (hb : DictIs H b kvs) (PT : Paths kvs pt) (nd : (kvs.map (·.1)).Nodup) (few : kvs.length ≤ 40) (hu : Key kvs u) :
    Fn c 2 (.ref 162) [.ref b, .int u] H (fun d H' => ∃ (x : Int) (E : Int → Nat), d = .int x ∧ Ext H H' ∧ Key kvs x ∧ Same pt u x ∧
      (∀ v, Key kvs v → Same pt u v → (∃ w, Key kvs w ∧ Same pt u w ∧ E v = ds pt v w) ∧ ∀ w, Key kvs w → Same pt u w → ds pt v w ≤ E v) ∧
      ∀ v, Key kvs v → Same pt u v → E x ≤ E v ∧ (E v = E x → v ≤ x)) (fun _ _ => False) := by
  refine Fn.gen fun QQ hQQ => ?_
  refine Fn_def W.ok.lim (W.kx 162 _ rfl) rfl rfl (codeRec_of W.kx rfl) rfl (names := ["bases", "number"]) (bind2 rfl fun _ _ => rfl) rfl (by decide) (fun n => mem2 (.inl rfl) (.inl rfl)) rfl rfl rfl fun A L frs hE R O => ?_
  refine Ex_assign (Ev_F1 W.ok (W.glob rfl) (W.kx 134 _ rfl) rfl R O.frames (Pe_var rfl) (Fn.mono (sp_neighbours W H b kvs pt hb PT nd few) (fun d H1 z => ?_) fun _ _ z => z.elim)) (.inl rfl)
  refine e3a3 z fun an ad L rq225 e1 N1 => ?_; clear z; obtain rfl := rq225
  have farOk : ∀ {u' : Int} {far : List (Int × V)}, Key kvs u' → Far kvs pt u' far → far ≠ [] ∧ (∀ k d, (k, d) ∈ far → ∃ n : Int, d = .int n) := fun {u' far} k F => by
    refine ⟨fun e => ?_, fun x d hm => ⟨_, ((F.at_ x d).mp (dget_of_mem F.nd hm)).2.2⟩⟩
    have := (F.at_ u' _).mpr ⟨k, PT.self k, rfl⟩
    rw [e] at this; cases this
  have best : ∀ {u' : Int} {far : List (Int × V)} {x n : Int}, Far kvs pt u' far → dget far x = some (.int n) → (∀ k n' : Int, dget far k = some (.int n') → n' ≤ n) → Key kvs x ∧ Same pt u' x ∧ ∀ v, Key kvs v → Same pt u' v → ds pt u' v ≤ ds pt u' x := fun {u' far x n} F hx hm => by
    refine e0a3 ((F.at_ x _).mp hx) fun k1 k2 k3 => ?_
    injection k3 with k3
    refine ⟨k1, k2, fun v v1 v2 => ?_⟩
    have := hm v _ ((F.at_ v _).mpr ⟨v1, v2, rfl⟩)
    exact om200 k3 this
  refine Ex_assign (Ev_F1e W.ok (W.glob rfl) (W.kx 148 _ rfl) rfl R O.frames (Ev_F2 W.ok (W.glob rfl) (W.kx 141 _ rfl) rfl R O.frames (Pe_var rfl) (Pe_var rfl) (Fn.mono (sp_distances W H1 an ad L kvs pt u N1 PT few hu) (fun d H2 z => ?_) fun _ _ z => z.elim))) (.inl rfl)
  refine e2a4 z fun af far rq226 e2 df F => ?_; clear z; obtain rfl := rq226
  refine Fn.mono (sp_farthest W H2 af far df F.nd (farOk hu F).1 (farOk hu F).2) (fun d H3 z => ?_) fun _ _ z => z.elim
  obtain ⟨rfl, a, na, rfl, ga, hamax⟩ := z
  refine e0a3 (best F ga hamax) fun ka sa amax => ?_
  have N2 := N1.ext e2
  refine Ex_assign (Ev_F2 W.ok (W.glob rfl) (W.kx 141 _ rfl) rfl R O.frames (Pe_var rfl) (Pe_var rfl) (Fn.mono (sp_distances W H3 an ad L kvs pt a N2 PT few ka) (fun d H4 z => ?_) fun _ _ z => z.elim)) (.inl rfl)
  refine e2a4 z fun afL left rq227 e4 dL FL => ?_; clear z; obtain rfl := rq227
  refine Ex_assign (Ev_F2e W.ok (W.glob rfl) (W.kx 141 _ rfl) rfl R O.frames ((Pe_var rfl).ev (Ev_F1 W.ok (W.glob rfl) (W.kx 148 _ rfl) rfl R O.frames (Pe_var rfl) (Fn.mono (sp_farthest W H4 afL left dL FL.nd (farOk ka FL).1 (farOk ka FL).2) (fun d H5 z => ?_) fun _ _ z => z.elim)))) (.inl rfl)
  obtain ⟨rfl, bb, nb, rfl, gb, hbmax⟩ := z
  refine e0a3 (best FL gb hbmax) fun kb sb bmax => ?_
  refine Fn.mono (sp_distances W H5 an ad L kvs pt bb (N2.ext e4) PT few kb) (fun d H6 z => ?_) fun _ _ z => z.elim
  refine e2a4 z fun afR right rq228 e6 dR FR => ?_; clear z; obtain rfl := rq228
  have dL6 := e6.dict dL
  refine Ex_assign (Pe.ev (Pe_var rfl) ?_) (.inl rfl)
  have hT : ∀ v, Same pt a v ↔ Same pt u v := fun v => ⟨fun h => sa.trans h, fun h => sa.symm.trans h⟩
  have hT2 : ∀ v, Same pt bb v ↔ Same pt u v := fun v => ⟨fun h => (sa.trans sb).trans h, fun h => (sa.trans sb).symm.trans h⟩
  have gL : ∀ v, Key kvs v → Same pt u v → dget left v = some (.int (ds pt v a)) := fun v k1 k2 => (FL.at_ v _).mpr ⟨k1, (hT v).mpr k2, by rw [ds_comm]⟩
  have gR : ∀ v, Key kvs v → Same pt u v → dget right v = some (.int (ds pt v bb)) := fun v k1 k2 => (FR.at_ v _).mpr ⟨k1, (hT2 v).mpr k2, by rw [ds_comm]⟩
  have szL := FL.size
  refine Ex_for O (EvIt_list R.handled (Ev_B1e W.ok (gb_sorted W) (Pe.ev (Pe_var rfl) (O_sorted W.ok R.handled dL6 (by exact om201 few szL) fun asr osr srt hsr pm pw => ⟨asr, _, rfl, ListAt.same _ _ _ _, fun i m' H' => H' = H6.set asr ⟨osr, .list (srt.map V.int)⟩ ∧ m' (Str.ofString "left") = some (.ref afL) ∧ m' (Str.ofString "right") = some (.ref afR) ∧ ∃ x : Int, m' (Str.ofString "best") = some (.int x) ∧ Key kvs x ∧ Same pt u x ∧ (∀ (j : Nat) (v : Int), j < i → srt[j]? = some v → max (ds pt x a) (ds pt x bb) ≤ max (ds pt v a) (ds pt v bb)) ∧ ∀ (j : Nat) (v : Int), j < i → srt[j]? = some v → max (ds pt v a) (ds pt v bb) = max (ds pt x a) (ds pt x bb) → v ≤ x, ⟨rfl, rfl, rfl, a, rfl, ka, sa, fun j v hj => absurd hj (by exact om185), fun j v hj => absurd hj (by exact om185)⟩, ?_, ?_⟩)))) (.inl rfl)
  · rintro i d m' H' kp hd rz14 _; refine e0a4 rz14 fun rq229 ml mr rq230 => ?_; clear rz14; obtain rfl := rq229; refine e1a5 rq230 fun x mx kx sx h1 h2 => ?_; clear rq230
    refine e1a2 (map_item hd) fun v hv rq231 => ?_; obtain rfl := rq231
    have hvk : v ∈ left.map (·.1) := pm.mem_iff.mp (List.mem_of_getElem? hv)
    obtain ⟨dv, gv⟩ := dget_key hvk
    refine e0a3 ((FL.at_ v dv).mp gv) fun kv sv' _ => ?_
    have sv := (hT v).mp sv'
    have dL7 := dL6.fresh (x := ⟨osr, .list (srt.map V.int)⟩) hsr
    have dR7 := dR.fresh (x := ⟨osr, .list (srt.map V.int)⟩) hsr
    refine Ex_ifp (Tp_cmp (Pe_B2 W.ok (gb_max W) (Pe_sub (Pe_var ml) (Pe_var rfl) (G_dict dL7 (gL v kv sv))) (Pe_sub (Pe_var mr) (Pe_var rfl) (G_dict dR7 (gR v kv sv))) (M_max R.handled)) (Pe_B2 W.ok (gb_max W) (Pe_sub (Pe_var ml) (Pe_var mx) (G_dict dL7 (gL x kx sx))) (Pe_sub (Pe_var mr) (Pe_var mx) (G_dict dR7 (gR x kx sx))) (M_max R.handled)) B_le decide_eq_true_iff) (fun g => ?_) (fun g => ?_)
    · refine Ex_assign (Pe.ev (Pe_var rfl) (Ex_nil ⟨⟨rfl, ml, mr, v, rfl, kv, sv, fun j w hj hw => ?_, fun j w hj hw _ => ?_⟩, fun _ _ => rfl⟩)) (.inl rfl)
      · by_cases e : j = i
        · subst e; rw [hv] at hw; injection hw with hw; subst hw; exact Nat.le_refl _
        · have := h1 j w (by exact om183 hj e) hw; exact om202 g this
      · by_cases e : j = i
        · subst e; rw [hv] at hw; injection hw with hw; exact om203 hw
        · obtain ⟨l1, q1⟩ := List.getElem?_eq_some_iff.mp hw
          obtain ⟨l2, q2⟩ := List.getElem?_eq_some_iff.mp hv
          have := List.pairwise_iff_getElem.mp pw j i l1 l2 (by exact om183 hj e)
          exact om204 q1 q2 this
    · refine Ex_nil ⟨⟨rfl, ml, mr, x, mx, kx, sx, fun j w hj hw => ?_, fun j w hj hw q => ?_⟩, fun _ _ => rfl⟩
      · by_cases e : j = i
        · subst e; rw [hv] at hw; injection hw with hw; subst hw; exact om205 g
        · exact h1 j w (by exact om183 hj e) hw
      · by_cases e : j = i
        · subst e; rw [hv] at hw; injection hw with hw; subst hw; exact om206 g q
        · exact h2 j w (by exact om183 hj e) hw q
  · rintro m' H' rz15 _; refine e0a4 rz15 fun rq232 ml mr rq233 => ?_; clear rz15; obtain rfl := rq232; refine e1a5 rq233 fun x mx kx sx h1 h2 => ?_; clear rq233
    refine Ex_ret (Pe.ev (Pe_var mx) (hQQ _ _ ⟨x, fun v => max (ds pt v a) (ds pt v bb), rfl, Ext.set (e1.trans (e2.trans (e4.trans e6))) hsr, kx, sx, fun v kv sv => ⟨?_, fun w kw sw => ?_⟩, fun v kv sv => ?_⟩))
    · by_cases q : ds pt v a ≤ ds pt v bb
      · exact ⟨bb, kb, sa.trans sb, by dsimp only; exact om207 q⟩
      · exact ⟨a, ka, sa, by dsimp only; exact om208 q⟩
    · exact centre (T := fun z => Key kvs z ∧ Same pt u z) ⟨hu, PT.self hu⟩ ⟨ka, sa⟩ ⟨kb, sa.trans sb⟩ (fun z hz => amax z hz.1 hz.2) (fun z hz => bmax z hz.1 ((hT z).mpr hz.2)) ⟨kv, sv⟩ ⟨kw, sw⟩
    · have hm : v ∈ srt := pm.mem_iff.mpr (List.mem_map.mpr ⟨_, dget_mem (gL v kv sv), rfl⟩)
      obtain ⟨j, e⟩ := List.getElem?_of_mem hm
      have lt : j < (srt.map V.int).length := by rw [List.length_map]; exact (List.getElem?_eq_some_iff.mp e).1
      exact ⟨h1 j v lt e, h2 j v lt e⟩
theorem pc : Plain (KK P) 287 := ⟨by kernel_rfl, by kernel_rfl, by kernel_rfl, by kernel_rfl, by kernel_rfl⟩
theorem no_bound : findIn (KK P) (.ref 287) (Str.ofString "bound") = some none := by kernel_rfl
theorem no_held : findIn (KK P) (.ref 287) (Str.ofString "held") = some none := by kernel_rfl
theorem no_coming : findIn (KK P) (.ref 287) (Str.ofString "coming") = some none := by kernel_rfl
theorem tk_bound : takerIn (KK P) 287 (Str.ofString "bound") = some none := by kernel_rfl
theorem tk_held : takerIn (KK P) 287 (Str.ofString "held") = some none := by kernel_rfl
theorem tk_coming : takerIn (KK P) 287 (Str.ofString "coming") = some none := by kernel_rfl
def pk (b h n : V) : List (Str × V) := [(Str.ofString "bound", b), (Str.ofString "held", h), (Str.ofString "coming", n)]
theorem pk_bound (b h n : V) : (pk b h n).lookup (Str.ofString "bound") = some b := rfl
theorem pk_held (b h n : V) : (pk b h n).lookup (Str.ofString "held") = some h := rfl
theorem pk_coming (b h n : V) : (pk b h n).lookup (Str.ofString "coming") = some n := rfl
theorem lookup_snoc {fs : List (Str × V)} {n : Str} {d : V} (h : fs.lookup n = none) (y : Str) : (fs ++ [(n, d)]).lookup y = if y = n then some d else fs.lookup y := by
  induction fs with
  | nil =>
    by_cases e : y = n
    · subst e; simp
    · rw [if_neg e]; simp only [List.nil_append, List.lookup_cons, beq_false_of_ne e, List.lookup_nil]
  | cons p r ih =>
    rw [List.lookup_cons] at h
    by_cases q : n = p.1
    · rw [q] at h; simp at h
    rw [beq_false_of_ne q] at h
    rw [List.cons_append, List.lookup_cons, List.lookup_cons]
    by_cases e : y = p.1
    · have : ¬ y = n := fun z => q (z ▸ e)
      rw [if_neg this, e]; simp
    · rw [beq_false_of_ne e]; exact ih h
theorem pk_set_held (b h n h' : V) (y : Str) : (pk b h' n).lookup y = if y = Str.ofString "held" then some h' else (pk b h n).lookup y := by
  by_cases e1 : y = Str.ofString "bound"
  · subst e1; rfl
  · by_cases e2 : y = Str.ofString "held"
    · subst e2; rfl
    · rw [if_neg e2]; unfold pk; simp only [List.lookup_cons, beq_false_of_ne e1, beq_false_of_ne e2]
theorem pk_set_coming (b h n n' : V) (y : Str) : (pk b h n').lookup y = if y = Str.ofString "coming" then some n' else (pk b h n).lookup y := by
  by_cases e1 : y = Str.ofString "bound"
  · subst e1; rfl
  · by_cases e2 : y = Str.ofString "held"
    · subst e2; rfl
    · by_cases e3 : y = Str.ofString "coming"
      · subst e3; rfl
      · rw [if_neg e3]; unfold pk; simp only [List.lookup_cons, beq_false_of_ne e1, beq_false_of_ne e2, beq_false_of_ne e3]
structure PackAt (H : AH) (x dx hd : Addr) (b n : Int) (kvs : List (Int × V)) : Prop where
  i : InstIs H x 287 dx (pk (.int b) (.ref hd) (.int n))
  d : DictIs H hd kvs
theorem PackAt.ext {H H' : AH} {x dx hd : Addr} {b n : Int} {kvs : List (Int × V)} (p : PackAt H x dx hd b n kvs) (e : Ext H H') : PackAt H' x dx hd b n kvs := ⟨p.i.ext e, e.dict p.d⟩
theorem PackAt.some_x {H : AH} {x dx hd : Addr} {b n : Int} {kvs : List (Int × V)} (p : PackAt H x dx hd b n kvs) : H x ≠ none ∧ H dx ≠ none ∧ H hd ≠ none := by
  obtain ⟨⟨⟨o, a⟩, od, b⟩, oh, d⟩ := p
  exact ⟨by rw [a]; exact fun z => (nomatch z), by rw [b]; exact fun z => (nomatch z), by rw [d]; exact fun z => (nomatch z)⟩
theorem sp_pwhole (W : Lw c (KK P) sc ns) (H : AH) (i : Int) : Fn c 1 (.ref 169) [.int i] H (fun d' H' => d' = .bool true ∧ H' = H) (fun _ _ => False) := by
  refine Fn_def W.ok.lim (W.kx 169 _ rfl) rfl rfl (codeRec_of W.kx rfl) rfl (names := ["thing"]) (bind1 rfl fun _ => rfl) rfl (by decide) (fun n => mem1 (.inl rfl)) rfl rfl rfl fun A L frs hE R O => ?_
  exact Ex_ret (Pe.ev (Pb.pe (Pb_and (Pb_isi W.ok (gb_isinstance W) (gb_int W) (Pe_var rfl) I_int) fun _ => Pb_and1 (Pb_not (Pb_isi W.ok (gb_isinstance W) (gb_bool W) (Pe_var rfl) I_int_bool))) (by simp)) ⟨rfl, rfl⟩)
theorem sp_init (W : Lw c (KK P) sc ns) (H : AH) (x dx : Addr) (b : Int) (I : InstIs H x 287 dx []) (h0 : 0 ≤ b) (h1 : b ≤ 1000) :
    Fn c 2 (.ref 190) [.ref x, .int b] H (fun d H' => d = .none ∧ ∃ hd, H hd = none ∧ PackAt H' x dx hd b 0 [] ∧ ∀ a, a ≠ dx → H a ≠ none → H' a = H a) (fun _ _ => False) := by
  refine Fn_def W.ok.lim (W.kx 190 _ rfl) rfl rfl (codeRec_of W.kx rfl) rfl (names := ["self", "bound"]) (bind2 rfl fun _ _ => rfl) rfl (by decide) (fun n => mem2 (.inl rfl) (.inl rfl)) rfl rfl rfl fun A L frs hE R O => ?_
  refine Ex_ifp (Tp_or (Tpo_cons (Tp_not (Tp_val (P := True) (Pe_F1 W.ok (W.glob rfl) (W.kx 169 _ rfl) rfl R O.frames (Pe_var rfl) (sp_pwhole W _ _)) (by simp))) fun _ => Tpo_cons (Tp_cmp (Pe_var rfl) Pe_int B_lt decide_eq_true_iff) fun _ => Tpo_cons (Tp_cmp (Pe_var rfl) (Pe_globI W.ok (W.glob rfl)) B_gt decide_eq_true_iff) fun _ => Tpo_nil)) (fun g => ?_) (fun _ => ?_)
  · exfalso
    rcases g with g | g | g | g
    · exact g trivial
    · exact om168 h0 g
    · exact om209 h1 g
    · exact g
  have na := I.apart
  refine Ex_setattr W.kx pc (Pe.ev (Pe_var rfl) (Pe.ev (Pe_var rfl) ⟨x, dx, [], [(Str.ofString "bound", .int b)], rfl, I, by decide, fun y => lookup_snoc (fs := []) rfl y, fun od => ?_⟩)) tk_bound
  have I1 : InstIs (H.set dx ⟨od, .attrs [(Str.ofString "bound", .int b)]⟩) x 287 dx [(Str.ofString "bound", .int b)] := by
    obtain ⟨⟨o, a⟩, _⟩ := I
    exact ⟨⟨o, (set_ne _ _ na).trans a⟩, od, set_same _ _ _⟩
  have e1 : ∀ a, a ≠ dx → (H.set dx ⟨od, .attrs [(Str.ofString "bound", .int b)]⟩) a = H a := fun a ha => set_ne _ _ ha
  generalize H.set dx ⟨od, .attrs [(Str.ofString "bound", .int b)]⟩ = H1 at I1 e1 ⊢
  refine Ex_setattr W.kx pc (Ev_dict0 W.ok fun hd oh hh => Pe.ev (Pe_var rfl) ⟨x, dx, _, [(Str.ofString "bound", .int b)] ++ [(Str.ofString "held", .ref hd)], rfl, I1.ext (Ext.set (Ext.refl _) hh), (by show 1 ≤ 1000; decide), fun y => lookup_snoc rfl y, fun od2 => ?_⟩) tk_held
  have xh : x ≠ hd := fun e => by obtain ⟨⟨o, a⟩, _⟩ := I1; rw [e, hh] at a; cases a
  have dh : dx ≠ hd := fun e => by obtain ⟨_, o, a⟩ := I1; rw [e, hh] at a; cases a
  have I2 : InstIs ((H1.set hd ⟨oh, .dict []⟩).set dx ⟨od2, .attrs ([(Str.ofString "bound", .int b)] ++ [(Str.ofString "held", .ref hd)])⟩) x 287 dx ([(Str.ofString "bound", .int b)] ++ [(Str.ofString "held", .ref hd)]) := by
    obtain ⟨⟨o, a⟩, _⟩ := I1
    exact ⟨⟨o, (set_ne _ _ na).trans ((set_ne _ _ xh).trans a)⟩, od2, set_same _ _ _⟩
  have D2 : DictIs ((H1.set hd ⟨oh, .dict []⟩).set dx ⟨od2, .attrs ([(Str.ofString "bound", .int b)] ++ [(Str.ofString "held", .ref hd)])⟩) hd [] := (DictIs.same _ _ _ _).ne dh.symm
  have e2 : ∀ a, a ≠ dx → H1 a ≠ none → ((H1.set hd ⟨oh, .dict []⟩).set dx ⟨od2, .attrs ([(Str.ofString "bound", .int b)] ++ [(Str.ofString "held", .ref hd)])⟩) a = H1 a := fun a ha hn => (set_ne _ _ ha).trans (set_ne _ _ fun e => hn (e ▸ hh))
  generalize (H1.set hd ⟨oh, .dict []⟩).set dx ⟨od2, .attrs ([(Str.ofString "bound", .int b)] ++ [(Str.ofString "held", .ref hd)])⟩ = H2 at I2 D2 e2 ⊢
  refine Ex_setattr W.kx pc (Pe.ev Pe_int (Pe.ev (Pe_var rfl) ⟨x, dx, _, [(Str.ofString "bound", .int b)] ++ [(Str.ofString "held", .ref hd)] ++ [(Str.ofString "coming", .int 0)], rfl, I2, (by show 2 ≤ 1000; decide), fun y => lookup_snoc rfl y, fun od3 => ?_⟩)) tk_coming
  refine Ex_nil ⟨rfl, hd, ?_, ⟨?_, D2.ne dh.symm⟩, fun a ha hn => ?_⟩
  · by_cases q : H hd = none
    · exact q
    · exact absurd hh (by rw [e1 hd dh.symm]; exact q)
  · obtain ⟨⟨o, a⟩, _⟩ := I2
    exact ⟨⟨o, (set_ne _ _ na).trans a⟩, od3, set_same _ _ _⟩
  · rw [set_ne _ _ ha, e2 a ha (by rw [e1 a ha]; exact hn), e1 a ha]
theorem Ev_pack (W : Lw c (KK P) sc ns) {f : Fx} {m : Loc} {H : AH} {X : Value → AH → Prop} {Q : V → AH → Prop} {e : Expr} {b : Int} {p₁ p : Pos} (R : Room 3 f.A) (hfr : f.A.frames = some f.frs) (he : Pe c f e m H (.int b)) (h0 : 0 ≤ b) (h1 : b ≤ 1000)
    (q : ∀ x dx hd H', Ext H H' → H x = none → H dx = none → H hd = none → PackAt H' x dx hd b 0 [] → Q (.ref x) H')
    (hg : f.env.globals = mainGlobals := by rfl) (hb : f.env.builtins = builtinsNs := by rfl) (hk : f.env.scope.kind = .function := by rfl) (hn : f.env.kindOf (Str.ofString "Pack") = some .globalImplicit := by rfl) (hst : starEach [e] f.env = (false, eval e f.env) :: starEach [] f.env := by rfl) :
    Ev c f (.Call (.Name (Str.ofString "Pack") p₁) [e] [] p) m H Q X := by
  refine Ev_make W.kx (fI := 190) (k := 2) W.ok (W.glob rfl) R hfr (by kernel_rfl) (by kernel_rfl) (by kernel_rfl) (by kernel_rfl) he (fun x dx oi od hx hdx hne => ?_) hg hb hk hn (by decide) hst
  have I : InstIs ((H.set dx ⟨od, .attrs []⟩).set x ⟨oi, .inst 287 dx⟩) x 287 dx [] := ⟨⟨oi, set_same _ _ _⟩, od, (set_ne _ _ hne.symm).trans (set_same _ _ _)⟩
  have ex : Ext H ((H.set dx ⟨od, .attrs []⟩).set x ⟨oi, .inst 287 dx⟩) := Ext.upd (Ext.set (Ext.refl _) hdx) hx
  refine Fn.mono (sp_init W _ x dx b I h0 h1) (fun d H' z => ?_) fun _ _ z => z.elim
  obtain ⟨rfl, hd, hh, pa, kp⟩ := z
  refine ⟨rfl, q x dx hd H' (fun a ha => ?_) hx hdx (ex.none hh) pa⟩
  have hna : a ≠ dx := fun e => ha (e ▸ hdx)
  rw [kp a hna (by rw [ex a ha]; exact ha), ex a ha]
theorem fi_need : findIn (KK P) (.ref 287) (Str.ofString "need") = some (some (.ref 197)) := by kernel_rfl
theorem ft_need : typeIn (KK P) (.ref 197) = some (.type "function") := by kernel_rfl
theorem sp_need (W : Lw c (KK P) sc ns) (H : AH) (x dx hd : Addr) (b n k : Int) (kvs : List (Int × V)) (PA : PackAt H x dx hd b n kvs) (hk : Key kvs k) :
    Fn c 2 (.ref 197) [.ref x, .int k] H (fun d H' => d = .none ∧ H' = H) (fun _ _ => False) := by
  refine Fn_def W.ok.lim (W.kx 197 _ rfl) rfl rfl (codeRec_of W.kx rfl) rfl (names := ["self", "number"]) (bind2 rfl fun _ _ => rfl) rfl (by decide) (fun n => mem2 (.inl rfl) (.inl rfl)) rfl rfl rfl fun A L frs hE R O => ?_
  refine Ex_ifp (Tp_or (Tpo_cons (Tp_not (Tp_val (P := True) (Pe_F1 W.ok (W.glob rfl) (W.kx 169 _ rfl) rfl R O.frames (Pe_var rfl) (sp_pwhole W _ _)) (by simp))) fun _ => Tpo_cons (P := False) (Tp_cmp (Pe_var rfl) (Pe_attr W.kx pc (Pe_var rfl) PA.i (pk_held _ _ _) handy_ref no_held) (B_notIn PA.d) (by rw [dgetD_key hk]; simp)) fun _ => Tpo_nil)) (fun g => ?_) (fun _ => ?_)
  · simp at g
  · exact Ex_nil ⟨rfl, rfl⟩
theorem Ev_need (W : Lw c (KK P) sc ns) {f : Fx} {m : Loc} {H : AH} {X : Value → AH → Prop} {Q : V → AH → Prop} {o e : Expr} {ap p : Pos} {x dx hd : Addr} {b n k : Int} {kvs : List (Int × V)} (R : Room 2 f.A) (hfr : f.A.frames = some f.frs) (ho : Pe c f o m H (.ref x)) (he : Pe c f e m H (.int k)) (PA : PackAt H x dx hd b n kvs) (hk : Key kvs k) (q : Q .none H)
    (hbase : attributeBase o (Str.ofString "need") f.env (eval o f.env) = eval o f.env := by rfl)
    (hfew : methodCallForm ([e].length + ([] : List Keyword).length) (backTo p (starEach [e] f.env)) (backToKw p (keywordEach [] f.env)) = true := by rfl)
    (hline : (ap.endLine == p.line) = true := by rfl) (hst : starEach [e] f.env = (false, eval e f.env) :: starEach [] f.env := by rfl) : Ev c f (.Call (.Attribute o (Str.ofString "need") ap) [e] [] p) m H Q X :=
  Ev_M W.kx pc R hfr ho PA.i rfl fi_need ft_need (W.kx 197 _ rfl) rfl (Evs_cons (he.ev (Evs_nil (Fn.mono (sp_need W _ x dx hd b n k kvs PA hk) (fun d H' z => by obtain ⟨rfl, rfl⟩ := z; exact q) fun _ _ z => z.elim))) hst) hbase hfew hline hst
theorem gb_reversed (W : Lw c (KK P) sc ns) : GN c (Str.ofString "reversed") (.type "reversed") := W.blt rfl (by decide) bt_reversed
inductive TxW (kvs : List (Int × V)) (tx : Int → List Nat) (rk : Int → Nat) (H : AH) (a hd : Addr) (k : Int) (q : Nat) (m : Loc) (H' : AH) : Prop
  | mk (o : Obj) (pre : List V) (nd : Nat → Int) (x : Int) : H' = H.set a ⟨o, .list pre⟩ → q = rk x → Key kvs x → pre.length + rk x ≤ rk k → nd 0 = k → nd pre.length = x → (∀ j, j < pre.length → ∃ at_ gone come, pre[j]? = some (chg at_ gone come) ∧ Key kvs (nd (j + 1)) ∧ Key kvs (nd j) ∧ Step (tx (nd (j + 1))) (tx (nd j)) at_ gone come) → m (Str.ofString "held") = some (.ref hd) → m (Str.ofString "number") = some (.int x) → m (Str.ofString "changes") = some (.ref a) → TxW kvs tx rk H a hd k q m H'
theorem sp_text_at (W : Lw c (KK P) sc ns) (H : AH) (hd : Addr) (k : Int) (kvs : List (Int × V)) (tx : Int → List Nat) (rk : Int → Nat) (DD : DictIs H hd kvs) (E : Held kvs tx rk) (hk : Key kvs k) :
    Fn c 2 (.ref 176) [.ref hd, .int k] H (fun d H' => d = .s (tx k) ∧ H' = H) (fun _ _ => False) := by
  have hs : 1000000 ≤ sizeLine := by decide
  refine Fn.of_ext (Fn.mono (Q := fun d H' => Ext H H' ∧ d = .s (tx k)) (X := fun _ _ => False) ?_ (fun d H' z => ⟨z.1, z.2, rfl⟩) fun _ _ z => z.elim)
  refine Fn_def W.ok.lim (W.kx 176 _ rfl) rfl rfl (codeRec_of W.kx rfl) rfl (names := ["held", "number"]) (bind2 rfl fun _ _ => rfl) rfl (by decide) (fun n => mem2 (.inl rfl) (.inl rfl)) rfl rfl rfl fun A L frs hE R O => ?_
  refine Ex_assign (Ev_list W.ok (Evs_nil ⟨Nat.zero_le _, fun a o ha => ?_⟩)) (.inl rfl)
  have hda : hd ≠ a := DD.ne_new ha
  refine Ex_while O (TxW kvs tx rk H a hd k) (rk k)
    ⟨o, [], fun _ => k, k, rfl, rfl, hk, by simp, rfl, rfl, fun j hj => absurd hj (by simp), rfl, rfl, rfl⟩ ?_
  rintro q m' H' rz16; obtain ⟨o, pre, nd, x, rfl, rfl, kx, hlen, n0, nx, steps, mh, mn, mc⟩ := rz16
  have DD' : DictIs (H.set a ⟨o, .list pre⟩) hd kvs := DD.ne hda
  have la : ListAt (H.set a ⟨o, .list pre⟩) a pre := ListAt.same _ _ _ _
  have ex : Ext H (H.set a ⟨o, .list pre⟩) := Ext.set (Ext.refl _) ha
  have low := E.low k
  have ent := E.ent x _ (dgetD_key kx)
  have gp := dgetD_key kx
  have two : ∀ {u v : V}, dgetD kvs x = .tup [u, v] → dget kvs x = some (.tup [u, v]) := fun e => by rw [gp, e]
  have G0 : ∀ {u v : V} {f : Fx}, G2 c f (H.set a ⟨o, .list pre⟩) (.tup [u, v]) (.int 0) u := fun {u v f} => G_tup (j := 0) rfl rfl (by decide)
  have G1 : ∀ {u v : V} {f : Fx}, G2 c f (H.set a ⟨o, .list pre⟩) (.tup [u, v]) (.int 1) v := fun {u v f} => G_tup (j := 1) rfl rfl (by decide)
  generalize hd0 : dgetD kvs x = d0 at ent two
  cases ent with
  | root =>
    have gx := two rfl
    refine Ts.mono (Tp_isNotNone (Pe_sub (Pe_sub (Pe_var mh) (Pe_var mn) (G_dict DD' gx)) Pe_int G0)) (fun t H'' ⟨e, r⟩ => ?_) fun _ _ z => z.elim
    subst e
    refine ⟨fun ht => (r.mp ht rfl).elim, fun _ => ?_⟩
    refine Ex_assign (Pe.ev (Pe_sub (Pe_sub (Pe_var mh) (Pe_var mn) (G_dict DD' gx)) Pe_int G1) ?_) (.inl rfl)
    refine Ex_for O (EvIt_rev R.handled ((Pe_glob W.ok (gb_reversed W)).ev ⟨rfl, Pe.ev (Pe_var mc) ⟨a, pre, rfl, la, fun i m2 H2 => H2 = H.set a ⟨o, .list pre⟩ ∧ i ≤ pre.length ∧ m2 (Str.ofString "text") = some (.s (tx (nd (pre.length - i)))), ⟨rfl, Nat.zero_le _, by rw [Nat.sub_zero, nx]; rfl⟩, ?_, ?_⟩⟩)) (.inl rfl)
    · rintro i d m2 H2 kp hdd rz17 _; refine e0a3 rz17 fun rq234 hi mt => ?_; clear rz17; obtain rfl := rq234
      have hi2 := (List.getElem?_eq_some_iff.mp hdd).1
      rw [List.length_reverse] at hi2
      rw [List.getElem?_reverse hi2] at hdd
      obtain ⟨at_, gone, come, e1, k1, k2, st⟩ := steps (pre.length - 1 - i) (by exact om100 hi2)
      rw [e1] at hdd; injection hdd with hdd; subst hdd
      rw [show pre.length - 1 - i + 1 = pre.length - i by exact om210 hi2] at st k1
      have s1 := E.short _ k1
      have s2 := E.short _ k2
      have g1 := st.gone_le
      have g2 := st.come_le
      refine Ex_assign (Pe.ev (Pe_F2 W.ok (W.glob rfl) (W.kx 106 _ rfl) rfl R O.frames (Pe_var mt) (Pe_var rfl) (sp_done_ok W _ _ gone come at_ st.h0 st.h1 st.fit (by exact om211 s1) (by exact om212 s2 g2) (by exact om212 s1 g1))) (Ex_nil ⟨⟨rfl, by exact om72 hi2, ?_⟩, fun _ _ => rfl⟩)) (.inl rfl)
      rw [show pre.length - (i + 1) = pre.length - 1 - i by exact om213, st.new]; rfl
    · rintro m2 H2 rz18 _; refine e0a3 rz18 fun rq235 hi mt => ?_; clear rz18; obtain rfl := rq235
      rw [List.length_reverse, Nat.sub_self, n0] at mt
      exact Ex_ret (Pe.ev (Pe_var mt) ⟨ex, rfl⟩)
  | lean b at_ gone come hb hlt st =>
    have gx := two rfl
    refine Ts.mono (Tp_isNotNone (Pe_sub (Pe_sub (Pe_var mh) (Pe_var mn) (G_dict DD' gx)) Pe_int G0)) (fun t H'' ⟨e, r⟩ => ?_) fun _ _ z => z.elim
    subst e
    refine ⟨fun _ => ?_, fun ht => ?_⟩
    · refine Ex_appendS (Pe_var mc) (Pe_sub (Pe_sub (Pe_var mh) (Pe_var mn) (G_dict DD' gx)) Pe_int G1) la (by exact om214 hs hlen low) (fun o' => ?_)
      have DD2 : DictIs ((H.set a ⟨o, .list pre⟩).set a ⟨o', .list (pre ++ [chg at_ gone come])⟩) hd kvs := DD'.ne hda
      refine Ex_assign (Pe.ev (Pe_sub (Pe_sub (Pe_var mh) (Pe_var mn) (G_dict DD2 gx)) Pe_int (G_tup (j := 0) rfl rfl (by decide))) (Ex_nil ⟨rk b, hlt, o', pre ++ [chg at_ gone come], fun j => if j = pre.length + 1 then b else nd j, b, AH.set_set _ _ _ _, rfl, hb, by simp; exact om178 hlen hlt, ?_, ?_, fun j hj => ?_, mh, rfl, mc⟩)) (.inl rfl)
      · rw [if_neg (by exact om215)]; exact n0
      · rw [List.length_append]; simp
      · rw [List.length_append] at hj
        have hj : j < pre.length + 1 := by simpa using hj
        by_cases q : j = pre.length
        · subst q
          refine ⟨at_, gone, come, by simp, ?_⟩
          rw [if_pos rfl, if_neg (by exact om216), nx]
          exact ⟨hb, kx, st⟩
        · obtain ⟨at', gone', come', e1, k1, k2, st'⟩ := steps j (by exact om183 hj q)
          refine ⟨at', gone', come', by rw [List.getElem?_append_left (by exact om183 hj q)]; exact e1, ?_⟩
          rw [if_neg (by exact om217 q), if_neg (by exact om218 hj)]
          exact ⟨k1, k2, st'⟩
    · rw [r.mpr (fun z => nomatch z)] at ht; cases ht
theorem fi_read : findIn (KK P) (.ref 287) (Str.ofString "read") = some (some (.ref 211)) := by kernel_rfl
theorem ft_read : typeIn (KK P) (.ref 211) = some (.type "function") := by kernel_rfl
theorem fi_base : findIn (KK P) (.ref 287) (Str.ofString "base") = some (some (.ref 218)) := by kernel_rfl
theorem ft_base : typeIn (KK P) (.ref 218) = some (.type "function") := by kernel_rfl
theorem fi_chain : findIn (KK P) (.ref 287) (Str.ofString "chain") = some (some (.ref 225)) := by kernel_rfl
theorem ft_chain : typeIn (KK P) (.ref 225) = some (.type "function") := by kernel_rfl
theorem fi_numbers : findIn (KK P) (.ref 287) (Str.ofString "numbers") = some (some (.ref 232)) := by kernel_rfl
theorem ft_numbers : typeIn (KK P) (.ref 232) = some (.type "function") := by kernel_rfl
theorem fi_bases : findIn (KK P) (.ref 287) (Str.ofString "bases") = some (some (.ref 239)) := by kernel_rfl
theorem ft_bases : typeIn (KK P) (.ref 239) = some (.type "function") := by kernel_rfl
theorem fi_rows : findIn (KK P) (.ref 287) (Str.ofString "rows") = some (some (.ref 244)) := by kernel_rfl
theorem ft_rows : typeIn (KK P) (.ref 244) = some (.type "function") := by kernel_rfl
theorem fi_weight : findIn (KK P) (.ref 287) (Str.ofString "weight") = some (some (.ref 251)) := by kernel_rfl
theorem ft_weight : typeIn (KK P) (.ref 251) = some (.type "function") := by kernel_rfl
theorem no_ref {d : V} (h : d = .none) : ∀ h v, Is h d v → ∀ a, v ≠ .ref a := fun _ v i a e => by subst h; rw [is_raw i] at e; exact nomatch e
theorem sp_read (W : Lw c (KK P) sc ns) (H : AH) (x dx hd : Addr) (b n k : Int) (kvs : List (Int × V)) (tx : Int → List Nat) (rk : Int → Nat) (PA : PackAt H x dx hd b n kvs) (E : Held kvs tx rk) (hk : Key kvs k) :
    Fn c 3 (.ref 211) [.ref x, .int k] H (fun d H' => d = .s (tx k) ∧ H' = H) (fun _ _ => False) := by
  refine Fn_def W.ok.lim (W.kx 211 _ rfl) rfl rfl (codeRec_of W.kx rfl) rfl (names := ["self", "number"]) (bind2 rfl fun _ _ => rfl) rfl (by decide) (fun n => mem2 (.inl rfl) (.inl rfl)) rfl rfl rfl fun A L frs hE R O => ?_
  refine Ex_expr (Ev_need W R O.frames (Pe_var rfl) (Pe_var rfl) PA hk ⟨no_ref rfl, ?_⟩)
  exact Ex_ret (Pe.ev (Pe_F2 W.ok (W.glob rfl) (W.kx 176 _ rfl) rfl R O.frames (Pe_attr W.kx pc (Pe_var rfl) PA.i (pk_held _ _ _) handy_ref no_held) (Pe_var rfl) (sp_text_at W H hd k kvs tx rk PA.d E hk)) ⟨rfl, rfl⟩)
theorem G_held {c : Cx} {f : Fx} {H : AH} {kvs : List (Int × V)} {tx : Int → List Nat} {rk : Int → Nat} {k : Int} (E : Held kvs tx rk) (hk : Key kvs k) : G2 c f H (dgetD kvs k) (.int 0) (base0 (dgetD kvs k)) ∧ G2 c f H (dgetD kvs k) (.int 1) (body0 (dgetD kvs k)) := by
  have e := E.pair (dgetD_key hk)
  generalize dgetD kvs k = d at e ⊢
  constructor
  · have : G2 c f H (.tup [base0 d, body0 d]) (.int 0) (base0 d) := G_tup (j := 0) rfl rfl (by decide)
    rwa [← e] at this
  · have : G2 c f H (.tup [base0 d, body0 d]) (.int 1) (body0 d) := G_tup (j := 1) rfl rfl (by decide)
    rwa [← e] at this
theorem sp_base (W : Lw c (KK P) sc ns) (H : AH) (x dx hd : Addr) (b n k : Int) (kvs : List (Int × V)) (tx : Int → List Nat) (rk : Int → Nat) (PA : PackAt H x dx hd b n kvs) (E : Held kvs tx rk) (hk : Key kvs k) :
    Fn c 3 (.ref 218) [.ref x, .int k] H (fun d H' => d = base0 (dgetD kvs k) ∧ H' = H) (fun _ _ => False) := by
  refine Fn_def W.ok.lim (W.kx 218 _ rfl) rfl rfl (codeRec_of W.kx rfl) rfl (names := ["self", "number"]) (bind2 rfl fun _ _ => rfl) rfl (by decide) (fun n => mem2 (.inl rfl) (.inl rfl)) rfl rfl rfl fun A L frs hE R O => ?_
  refine Ex_expr (Ev_need W R O.frames (Pe_var rfl) (Pe_var rfl) PA hk ⟨no_ref rfl, ?_⟩)
  exact Ex_ret (Pe.ev (Pe_sub (Pe_sub (Pe_attr W.kx pc (Pe_var rfl) PA.i (pk_held _ _ _) handy_ref no_held) (Pe_var rfl) (G_dict PA.d (dgetD_key hk))) Pe_int (G_held E hk).1) ⟨rfl, rfl⟩)
theorem sp_numbers (W : Lw c (KK P) sc ns) (H : AH) (x dx hd : Addr) (b n : Int) (kvs : List (Int × V)) (PA : PackAt H x dx hd b n kvs) (few : kvs.length ≤ 40) :
    Fn c 1 (.ref 232) [.ref x] H (fun d H' => ∃ a srt, d = .ref a ∧ Ext H H' ∧ H a = none ∧ Srt kvs srt ∧ ListAt H' a (srt.map V.int)) (fun _ _ => False) := by
  refine Fn_def W.ok.lim (W.kx 232 _ rfl) rfl rfl (codeRec_of W.kx rfl) rfl (names := ["self"]) (bind1 rfl fun _ => rfl) rfl (by decide) (fun n => mem1 (.inl rfl)) rfl rfl rfl fun A L frs hE R O => ?_
  exact Ex_ret (Ev_B1e W.ok (gb_sorted W) (Pe.ev (Pe_attr W.kx pc (Pe_var rfl) PA.i (pk_held _ _ _) handy_ref no_held) (O_sorted W.ok R.handled PA.d (by exact om219 few) fun a o srt ha pm pw => ⟨a, srt, rfl, Ext.set (Ext.refl _) ha, ha, ⟨pm, pw⟩, ListAt.same _ _ _ _⟩)))
theorem bases_heldOf (kvs : List (Int × V)) (srt : List Int) : bases (heldOf kvs srt) = srt.map fun k => (k, base0 (dgetD kvs k)) := by unfold bases heldOf; rw [List.map_map]; rfl
theorem sp_bases (W : Lw c (KK P) sc ns) (H : AH) (x dx hd : Addr) (b n : Int) (kvs : List (Int × V)) (tx : Int → List Nat) (rk : Int → Nat) (PA : PackAt H x dx hd b n kvs) (E : Held kvs tx rk) :
    Fn c 1 (.ref 239) [.ref x] H (fun d H' => ∃ a srt, d = .ref a ∧ Ext H H' ∧ H a = none ∧ Srt kvs srt ∧ DictIs H' a (bases (heldOf kvs srt))) (fun _ _ => False) := by
  have hs : 1000000 ≤ sizeLine := by decide
  have few := E.few
  refine Fn.gen fun QQ hQQ => ?_
  refine Fn_def W.ok.lim (W.kx 239 _ rfl) rfl rfl (codeRec_of W.kx rfl) rfl (names := ["self"]) (bind1 rfl fun _ => rfl) rfl (by decide) (fun n => mem1 (.inl rfl)) rfl rfl rfl fun A L frs hE R O => ?_
  refine Ex_assign (Ev_dict0 W.ok fun af oa ha => ?_) (.inl rfl)
  have PA1 := PA.ext (Ext.set (x := ⟨oa, .dict []⟩) (Ext.refl _) ha)
  refine Ex_for O (EvIt_list R.handled (Ev_B1e W.ok (gb_sorted W) (Pe.ev (Pe_attr W.kx pc (Pe_var rfl) PA1.i (pk_held _ _ _) handy_ref no_held) (O_sorted W.ok R.handled PA1.d (by exact om219 few) fun asr osr srt hsr pm pw => ⟨asr, _, rfl, ListAt.same _ _ _ _, fun i m' H' => Ext H H' ∧ DictIs H' af ((srt.take i).map fun k => (k, base0 (dgetD kvs k))) ∧ m' (Str.ofString "self") = some (.ref x) ∧ m' (Str.ofString "found") = some (.ref af), ⟨Ext.set (Ext.set (Ext.refl _) ha) hsr, (DictIs.same _ _ _ _).fresh hsr, rfl, rfl⟩, ?_, ?_⟩)))) (.inl rfl)
  · rintro i d m' H' kp hdd rz19 tr; refine e0a4 rz19 fun ex df ms mf => ?_; clear rz19
    refine e1a2 (map_item hdd) fun k hk rq236 => ?_; obtain rfl := rq236
    have S : Srt kvs srt := ⟨pm, pw⟩
    have kk := S.mem.mp (List.mem_of_getElem? hk)
    have PA2 := PA.ext ex
    have afs : af ≠ asr := (DictIs.same H af oa []).ne_new hsr
    refine Ex_store (Pe.ev (Pe_sub (Pe_sub (Pe_attr W.kx pc (Pe_var ms) PA2.i (pk_held _ _ _) handy_ref no_held) (Pe_var rfl) (G_dict PA2.d (dgetD_key kk))) Pe_int (G_held E kk).1) (Pe.ev (Pe_var mf) (Pe.ev (Pe_var rfl) ⟨af, _, k, rfl, rfl, df, by have := S.len; simp; exact om220 hs few this, fun o' => ?_⟩)))
    rw [dset_new (by rw [keys_of]; exact nd_take (S.nd E.nd) hk)]
    refine Ex_nil ⟨⟨Ext.upd ex ha, by rw [List.take_add_one, hk, List.map_append]; exact DictIs.same _ _ _ _, ms, mf⟩, fun y hy => ?_⟩
    rw [List.mem_singleton] at hy; subst hy
    rw [set_ne _ _ afs.symm]; exact tr _ (.head _)
  · rintro m' H' rz20 _; refine e0a4 rz20 fun ex df ms mf => ?_; clear rz20
    rw [List.take_of_length_le (by simp)] at df
    exact Ex_ret (Pe.ev (Pe_var mf) (hQQ _ _ ⟨af, srt, rfl, ex, ha, ⟨pm, pw⟩, by rw [bases_heldOf]; exact df⟩))
theorem Held.heldOf {kvs : List (Int × V)} {tx : Int → List Nat} {rk : Int → Nat} (E : Held kvs tx rk) {srt : List Int} (S : Srt kvs srt) : Held (heldOf kvs srt) tx rk :=
  E.sim (fun k => (dget_heldOf S k).symm) (by rw [keys_heldOf]; exact S.nd E.nd) (by unfold Mine.heldOf; rw [List.length_map, S.len]; exact E.few)
theorem heldOf_sim {kvs : List (Int × V)} {srt : List Int} (S : Srt kvs srt) : Sim (heldOf kvs srt) kvs := dget_heldOf S
theorem sp_chain (W : Lw c (KK P) sc ns) (H : AH) (x dx hd : Addr) (b n k : Int) (kvs : List (Int × V)) (tx : Int → List Nat) (rk : Int → Nat) (PA : PackAt H x dx hd b n kvs) (E : Held kvs tx rk) (hk : Key kvs k) :
    Fn c 3 (.ref 225) [.ref x, .int k] H (fun d H' => ∃ a xs, d = .ref a ∧ Ext H H' ∧ H a = none ∧ ListAt H' a (xs.map V.int) ∧ IsChain (bases kvs) k xs ∧ xs.length ≤ 50) (fun _ _ => False) := by
  refine Fn_def W.ok.lim (W.kx 225 _ rfl) rfl rfl (codeRec_of W.kx rfl) rfl (names := ["self", "number"]) (bind2 rfl fun _ _ => rfl) rfl (by decide) (fun n => mem2 (.inl rfl) (.inl rfl)) rfl rfl rfl fun A L frs hE R O => ?_
  have R1 : Room 1 A := R.le (by exact om221)
  refine Ex_expr (Ev_need W R O.frames (Pe_var rfl) (Pe_var rfl) PA hk ⟨no_ref rfl, ?_⟩)
  refine Ex_ret (Ev_F2e W.ok (W.glob rfl) (W.kx 127 _ rfl) rfl R1 O.frames (Ev_M0 W.kx pc R1 O.frames (Pe_var rfl) PA.i rfl fi_bases ft_bases (W.kx 239 _ rfl) rfl (Fn.mono (sp_bases W H x dx hd b n kvs tx rk PA E) (fun d H1 z => ?_) fun _ _ z => z.elim)))
  refine e2a5 z fun a srt rq237 e1 ha S D => ?_; clear z; obtain rfl := rq237
  have hne : Mine.heldOf kvs srt ≠ [] := fun e => by
    have := (heldOf_sim S).key.mpr hk
    rw [e] at this; obtain ⟨d, q⟩ := this; cases q
  refine (Pe_var rfl).ev (Fn.mono (sp_chain_of W H1 a _ rk k (base0 (dgetD kvs k)) D ((E.heldOf S).wood hne) (by rw [dget_bases, dget_heldOf S, dgetD_key hk]; rfl)) (fun d H2 z => ?_) fun _ _ z => z.elim)
  refine e3a5 z fun a2 o xs rq238 h2 rq239 ch xl => ?_; clear z; obtain rfl := rq238; obtain rfl := rq239
  exact ⟨a2, xs, rfl, Ext.set e1 h2, e1.none h2, ListAt.same _ _ _ _, (heldOf_sim S).bases.chain ch, xl⟩
theorem sp_rows (W : Lw c (KK P) sc ns) (H : AH) (x dx hd : Addr) (b n : Int) (kvs : List (Int × V)) (tx : Int → List Nat) (rk : Int → Nat) (PA : PackAt H x dx hd b n kvs) (E : Held kvs tx rk) :
    Fn c 1 (.ref 244) [.ref x] H (fun d H' => ∃ a srt, d = .ref a ∧ Ext H H' ∧ H a = none ∧ Srt kvs srt ∧ ListAt H' a (rowsOf kvs srt)) (fun _ _ => False) := by
  have hs : 1000000 ≤ sizeLine := by decide
  have few := E.few
  refine Fn_def W.ok.lim (W.kx 244 _ rfl) rfl rfl (codeRec_of W.kx rfl) rfl (names := ["self"]) (bind1 rfl fun _ => rfl) rfl (by decide) (fun n => mem1 (.inr ⟨rfl, rfl⟩)) rfl rfl rfl fun A L frs hE R O => ?_
  refine Ex_ret (Ev_comp W.ok (EvIt_list R.handled (Ev_B1e W.ok (gb_sorted W) (Pe.ev (Pe_attr W.kx pc (Pe_var rfl) PA.i (pk_held _ _ _) handy_ref no_held) (O_sorted W.ok R.handled PA.d (by exact om219 few) fun asr osr srt hsr pm pw => ⟨asr, _, rfl, ListAt.same _ _ _ _, ?_⟩)))) rfl (by decide) rfl (by decide) rfl (clN ⟨rfl, rfl, rfl⟩ cl0))
  have S : Srt kvs srt := ⟨pm, pw⟩
  have PA1 := PA.ext (Ext.set (x := ⟨osr, .list (srt.map V.int)⟩) (Ext.refl _) hsr)
  refine CompOk_map (rowsOf kvs srt) (by unfold rowsOf; simp) (by have := S.len; simp; exact om222 hs few this) ?_ ?_
  · intro i d C hE hdd
    refine e1a2 (map_item hdd) fun k hk rq240 => ?_; obtain rfl := rq240
    have kk := S.mem.mp (List.mem_of_getElem? hk)
    refine ⟨_, map_item' hk, ?_⟩
    exact Pe_tuple (Pes_cons (Pe_var rfl) (Pes_cons (Pe_sub (Pe_sub (Pe_attr W.kx pc (Pe_var rfl) PA1.i (pk_held _ _ _) handy_ref no_held) (Pe_var rfl) (G_dict PA1.d (dgetD_key kk))) Pe_int (G_held E kk).1) (Pes_cons (Pe_sub (Pe_sub (Pe_attr W.kx pc (Pe_var rfl) PA1.i (pk_held _ _ _) handy_ref no_held) (Pe_var rfl) (G_dict PA1.d (dgetD_key kk))) Pe_int (G_held E kk).2) Pes_nil))) (three_fits _ _ _)
  · intro a o ha
    exact ⟨a, srt, rfl, Ext.set (Ext.set (Ext.refl _) hsr) ha, (Ext.set (x := ⟨osr, .list (srt.map V.int)⟩) (Ext.refl _) hsr).none ha, S, ListAt.same _ _ _ _⟩
theorem sp_weight (W : Lw c (KK P) sc ns) (H : AH) (x dx hd : Addr) (b n : Int) (kvs : List (Int × V)) (tx : Int → List Nat) (rk : Int → Nat) (PA : PackAt H x dx hd b n kvs) (E : Held kvs tx rk) :
    Fn c 2 (.ref 251) [.ref x] H (fun d H' => d = .int (sumE kvs (kvs.map (·.1))) ∧ H' = H) (fun _ _ => False) := by
  have hs : 1000000 ≤ sizeLine := by decide
  refine Fn.of_ext (Fn.mono (Q := fun d H' => Ext H H' ∧ d = .int (sumE kvs (kvs.map (·.1)))) (X := fun _ _ => False) ?_ (fun d H' z => ⟨z.1, z.2, rfl⟩) fun _ _ z => z.elim)
  refine Fn_def W.ok.lim (W.kx 251 _ rfl) rfl rfl (codeRec_of W.kx rfl) rfl (names := ["self"]) (bind1 rfl fun _ => rfl) rfl (by decide) (fun n => mem1 (.inl rfl)) rfl rfl rfl fun A L frs hE R O => ?_
  refine Ex_assign (Pe.ev Pe_int ?_) (.inl rfl)
  refine Ex_for O (EvIt_list R.handled (Ev_M0 W.kx pc R O.frames (Pe_var rfl) PA.i rfl fi_rows ft_rows (W.kx 244 _ rfl) rfl (Fn.mono (sp_rows W H x dx hd b n kvs tx rk PA E) (fun d H1 z => ?_) fun _ _ z => z.elim))) (.inl rfl)
  refine e2a5 z fun a srt rq241 e1 ha S l1 => ?_; clear z; obtain rfl := rq241
  refine ⟨a, _, rfl, l1, fun i m' H' => H' = H1 ∧ m' (Str.ofString "total") = some (.int (sumE kvs (srt.take i))), ⟨rfl, rfl⟩, ?_, ?_⟩
  · rintro i d m' H' kp hdd ⟨rfl, mt⟩ _
    refine e1a2 (map_item hdd) fun k hk rq242 => ?_; obtain rfl := rq242
    have kk := S.mem.mp (List.mem_of_getElem? hk)
    have ent := E.ent k _ (dgetD_key kk)
    have sk := E.short k kk
    have nxt : sumE kvs (srt.take (i + 1)) = sumE kvs (srt.take i) + lenE (dgetD kvs k) := by rw [List.take_add_one, hk]; exact sumE_snoc _ _
    unfold row
    generalize hd0 : dgetD kvs k = d0 at ent nxt
    cases ent with
    | root =>
      refine Ex_ifp (Tp_isNone (Pe_sub (Pe_var rfl) Pe_int (G_tup (d := .none) (j := 1) rfl rfl (by decide)))) (fun _ => ?_) (fun g => (g rfl).elim)
      refine Ex_assign (Pe.ev (Pe_bin (Pe_var mt) (Pe_B1 W.ok (gb_len W) (Pe_sub (Pe_var rfl) Pe_int (G_tup (d := .s (tx k)) (j := 2) rfl rfl (by decide))) (L_str (by exact om223 hs sk))) B_add) (Ex_nil ⟨⟨rfl, ?_⟩, fun _ _ => rfl⟩)) (.inl rfl)
      rw [nxt]; show some (V.int _) = some (V.int (_ + ((Str.length ⟨(tx k).toArray⟩ : Nat) : Int))); rw [mk_length]
    | lean bb at_ gone come hb hlt st =>
      have s1 := E.short _ hb
      have g1 := st.gone_le
      have g2 := st.come_le
      refine Ex_ifp (Tp_isNone (Pe_sub (Pe_var rfl) Pe_int (G_tup (d := .int bb) (j := 1) rfl rfl (by decide)))) (fun g => nomatch g) (fun _ => ?_)
      refine Ex_assign (Pe.ev (Pe_bin (Pe_bin (Pe_var mt) (Pe_B1 W.ok (gb_len W) (Pe_sub (Pe_sub (Pe_var rfl) Pe_int (G_tup (d := chg at_ gone come) (j := 2) rfl rfl (by decide))) Pe_int (G_tup (d := .s gone) (j := 1) rfl rfl (by decide))) (L_str (by exact om224 hs s1 g1))) B_add) (Pe_B1 W.ok (gb_len W) (Pe_sub (Pe_sub (Pe_var rfl) Pe_int (G_tup (d := chg at_ gone come) (j := 2) rfl rfl (by decide))) Pe_int (G_tup (d := .s come) (j := 2) rfl rfl (by decide))) (L_str (by exact om224 hs sk g2))) B_add) (Ex_nil ⟨⟨rfl, ?_⟩, fun _ _ => rfl⟩)) (.inl rfl)
      rw [nxt]; show some (V.int _) = some (V.int (_ + (((Str.length ⟨gone.toArray⟩ : Nat) : Int) + ((Str.length ⟨come.toArray⟩ : Nat) : Int)))); rw [mk_length, mk_length, Int.add_assoc]
  · rintro m' H' ⟨rfl, mt⟩ _
    rw [List.take_of_length_le (by unfold rowsOf; simp), sumE_perm S.pm] at mt
    exact Ex_ret (Pe.ev (Pe_var mt) ⟨e1, rfl⟩)
theorem fi_store : findIn (KK P) (.ref 287) (Str.ofString "store") = some (some (.ref 204)) := by kernel_rfl
theorem ft_store : typeIn (KK P) (.ref 204) = some (.type "function") := by kernel_rfl
def Keeps (H H' : AH) (dx hd : Addr) : Prop := ∀ a, H a ≠ none → a ≠ dx → a ≠ hd → H' a = H a
theorem sp_store_none (W : Lw c (KK P) sc ns) (H : AH) (x dx hd : Addr) (b n : Int) (kvs : List (Int × V)) (tx : Int → List Nat) (rk : Int → Nat) (l : List Nat) (PA : PackAt H x dx hd b n kvs) (E : Held kvs tx rk) (few : kvs.length < 40) (hl : l.length ≤ 20000) (hn : ¬ Key kvs n) (hb : 0 ≤ b) :
    Fn c 2 (.ref 204) [.ref x, .s l, .none] H (fun d H' => d = .int n ∧ PackAt H' x dx hd b (n + 1) (kvs ++ [(n, .tup [.none, .s l])]) ∧ Keeps H H' dx hd) (fun _ _ => False) := by
  have hs : 1000000 ≤ sizeLine := by decide
  refine Fn.gen fun QQ hQQ => ?_
  refine Fn_def W.ok.lim (W.kx 204 _ rfl) rfl rfl (codeRec_of W.kx rfl) rfl (names := ["self", "text", "beside"]) (bind3 rfl fun _ _ _ => rfl) rfl (by decide) (fun n => mem3 (.inl rfl) (.inl rfl) (.inl rfl)) rfl rfl rfl fun A L frs hE R O => ?_
  refine Ex_assign (Pe.ev (Pe_tuple (Pes_cons Pe_none (Pes_cons (Pe_var rfl) Pes_nil)) (by show 2 ≤ sizeLine; exact om225 hs)) ?_) (.inl rfl)
  refine Ex_ifp (Tp_isNotNone (Pe_var rfl)) (fun g => (g rfl).elim) (fun _ => ?_)
  refine Ex_assign (Pe.ev (Pe_attr W.kx pc (Pe_var rfl) PA.i (pk_coming _ _ _) handy_int no_coming) ?_) (.inl rfl)
  refine Ex_assign (Ev_M0 W.kx pc R O.frames (Pe_var rfl) PA.i rfl fi_bases ft_bases (W.kx 239 _ rfl) rfl (Fn.mono (sp_bases W H x dx hd b n kvs tx rk PA E) (fun d H1 z => ?_) fun _ _ z => z.elim)) (.inl rfl)
  refine e2a5 z fun a srt rq243 e1 ha S D => ?_; clear z; obtain rfl := rq243
  have hnk : n ∉ (bases (Mine.heldOf kvs srt)).map (·.1) := by rw [keys_bases, keys_heldOf]; exact fun q => hn (S.mem.mp q)
  have sl := S.len
  refine Ex_store (Pe.ev (Pe_var rfl) (Pe.ev (Pe_var rfl) (Pe.ev (Pe_var rfl) ⟨a, _, n, rfl, rfl, D, by unfold bases Mine.heldOf; rw [List.length_map, List.length_map]; exact om226 few hs sl, fun o1 => ?_⟩)))
  rw [dset_new hnk]
  have e2 : Ext H (H1.set a ⟨o1, .dict (bases (Mine.heldOf kvs srt) ++ [(n, .none)])⟩) := Ext.upd e1 ha
  have D2 : DictIs (H1.set a ⟨o1, .dict (bases (Mine.heldOf kvs srt) ++ [(n, .none)])⟩) a (bases (Mine.heldOf kvs srt) ++ [(n, .none)]) := DictIs.same _ _ _ _
  generalize H1.set a ⟨o1, .dict (bases (Mine.heldOf kvs srt) ++ [(n, .none)])⟩ = H2 at e2 D2 ⊢
  have PA2 := PA.ext e2
  refine Ex_assign (Pe.ev Pe_none ?_) (.inl rfl)
  have E2 : Held (Mine.heldOf kvs srt ++ [(n, .tup [.none, .s l])]) (fun y => if y = n then l else tx y) rk := (E.heldOf S).put (by rw [keys_heldOf]; exact fun q => hn (S.mem.mp q)) (by unfold Mine.heldOf; rw [List.length_map]; exact om227 few sl) hl (.inl rfl)
  have eb : bases (Mine.heldOf kvs srt ++ [(n, .tup [.none, .s l])]) = bases (Mine.heldOf kvs srt) ++ [(n, .none)] := by unfold bases; rw [List.map_append]; rfl
  have wd : Wood (bases (Mine.heldOf kvs srt) ++ [(n, .none)]) rk := by rw [← eb]; exact E2.wood (by simp)
  have g0 : dget (bases (Mine.heldOf kvs srt) ++ [(n, V.none)]) n = some .none := by rw [dget_snoc hnk, if_pos rfl]
  refine Ex_ifp (Tp_cmp (Pe_bin (Pe.of_ext (d := .int 1) (Ev_B1e W.ok (gb_len W) (Ev_F2 W.ok (W.glob rfl) (W.kx 127 _ rfl) rfl R O.frames (Pe_var rfl) (Pe_var rfl) (Fn.mono (sp_chain_of W H2 a _ rk n .none D2 wd g0) (fun d H3 z => ?_) fun _ _ z => z.elim)))) Pe_int B_sub) (Pe_attr W.kx pc (Pe_var rfl) PA2.i (pk_bound _ _ _) handy_int no_bound) B_gt decide_eq_true_iff) (fun g => absurd g (by exact om228 hb)) (fun _ => ?_)
  · refine e3a5 z fun a3 o3 xs rq244 h3 rq245 ch xl => ?_; clear z; obtain rfl := rq244; obtain rfl := rq245
    have hx : xs = [n] := by
      cases ch with
      | stop _ => rfl
      | step e _ => rw [g0] at e; cases e
    subst hx
    exact (L_list (ListAt.same _ _ _ _) (by show 1 ≤ sizeLine; exact om172 hs)).op ⟨rfl, Ext.set (Ext.refl _) h3⟩
  have hnk2 : n ∉ kvs.map (·.1) := fun q => hn (key_iff.mpr q)
  refine Ex_store (Pe.ev (Pe_var rfl) (Pe.ev (Pe_attr W.kx pc (Pe_var rfl) PA2.i (pk_held _ _ _) handy_ref no_held) (Pe.ev (Pe_var rfl) ⟨hd, kvs, n, rfl, rfl, PA2.d, by exact om229 few hs, fun o4 => ?_⟩)))
  rw [dset_new hnk2]
  obtain ⟨n1, n2⟩ := PA2.i.ne_dict PA2.d
  have I3 := PA2.i.ne (y := ⟨o4, .dict (kvs ++ [(n, .tup [.none, .s l])])⟩) n1 n2
  have D3 : DictIs (H2.set hd ⟨o4, .dict (kvs ++ [(n, .tup [.none, .s l])])⟩) hd (kvs ++ [(n, .tup [.none, .s l])]) := DictIs.same _ _ _ _
  have k3 : ∀ a, a ≠ hd → (H2.set hd ⟨o4, .dict (kvs ++ [(n, .tup [.none, .s l])])⟩) a = H2 a := fun a h => set_ne _ _ h
  generalize H2.set hd ⟨o4, .dict (kvs ++ [(n, .tup [.none, .s l])])⟩ = H3 at I3 D3 k3 ⊢
  refine Ex_setattr W.kx pc (Pe.ev (Pe_bin (Pe_var rfl) Pe_int B_add) (Pe.ev (Pe_var rfl) ⟨x, dx, _, pk (.int b) (.ref hd) (.int (n + 1)), rfl, I3, (by show 3 ≤ 1000; decide), pk_set_coming _ _ _ _, fun od => ?_⟩)) tk_coming
  refine Ex_ifp (Tp_isNotNone (Pe_var rfl)) (fun g => (g rfl).elim) (fun _ => ?_)
  refine Ex_ret (Pe.ev (Pe_var rfl) (hQQ _ _ ⟨rfl, ⟨?_, D3.ne n2.symm⟩, fun y hy hy1 hy2 => ?_⟩))
  · obtain ⟨⟨o, q⟩, _⟩ := id I3
    exact ⟨⟨o, (set_ne _ _ I3.apart).trans q⟩, od, set_same _ _ _⟩
  · rw [set_ne _ _ hy1, k3 y hy2, e2 y hy]
theorem sp_check_chains (W : Lw c (KK P) sc ns) (H : AH) (hd : Addr) (b : Int) (kvs : List (Int × V)) (tx : Int → List Nat) (rk : Int → Nat) (D : DictIs H hd kvs) (E : Held kvs tx rk) (hb : ∀ k xs, IsChain (bases kvs) k xs → (xs.length : Int) ≤ b + 1) :
    Fn c 1 (.ref 298) [.ref hd, .int b] H (fun d H' => d = .none ∧ H' = H) (fun _ _ => False) := by
  refine Fn_def W.ok.lim (W.kx 298 _ rfl) rfl rfl (codeRec_of W.kx rfl) rfl (names := ["held", "bound"]) (bind2 rfl fun _ _ => rfl) rfl (by decide) (fun n => mem2 (.inl rfl) (.inl rfl)) rfl rfl rfl fun A L frs hE R O => ?_
  refine Ex_for O (EvIt_dict R.handled (Pe.ev (Pe_var rfl) ⟨hd, kvs, rfl, D, fun i m' H' => H' = H ∧ m' (Str.ofString "held") = some (.ref hd) ∧ m' (Str.ofString "bound") = some (.int b), ⟨rfl, rfl, rfl⟩, ?_, ?_⟩)) (.inl rfl)
  · rintro i d m' H' kp hdd rz21 _; refine e0a3 rz21 fun rq246 mh mb => ?_; clear rz21; obtain rfl := rq246
    refine e1a2 (map_item hdd) fun rq247 hk rq248 => ?_; obtain ⟨k, dk⟩ := rq247; obtain rfl := rq248
    have kk : Key kvs k := ⟨dk, dget_of_mem E.nd (List.mem_of_getElem? hk)⟩
    refine Ex_assign (Pe.ev Pe_int ?_) (.inl rfl)
    refine Ex_assign (Pe.ev (Pe_var rfl) ?_) (.inl rfl)
    refine Ex_while (O.kept kp) (fun q m2 H2 => H2 = H' ∧ ∃ x st : Int, q = rk x ∧ Key kvs x ∧ (∀ xs, IsChain (bases kvs) x xs → st + (xs.length : Int) ≤ b + 1) ∧ m2 (Str.ofString "held") = some (.ref hd) ∧ m2 (Str.ofString "bound") = some (.int b) ∧ m2 (Str.ofString "one") = some (.int x) ∧ m2 (Str.ofString "steps") = some (.int st)) (rk k) ⟨rfl, k, 0, rfl, kk, fun xs h => by have := hb k xs h; exact om230 this, mh, mb, rfl, rfl⟩ ?_
    rintro q m2 H2 rz22; obtain ⟨rfl, x, st, rfl, kx, hc, mh, mb, mo, ms⟩ := rz22
    have ent := E.ent x _ (dgetD_key kx)
    have gp := dgetD_key kx
    generalize hd0 : dgetD kvs x = d0 at ent gp
    cases ent with
    | root =>
      refine Ts.mono (Tp_isNotNone (Pe_sub (Pe_sub (Pe_var mh) (Pe_var mo) (G_dict D gp)) Pe_int (G_tup (d := .none) (j := 0) rfl rfl (by decide)))) (fun t H3 ⟨e, r⟩ => ?_) fun _ _ z => z.elim
      subst e
      refine ⟨fun ht => (r.mp ht rfl).elim, fun _ => Ex_nil ⟨⟨rfl, mh, mb⟩, fun _ _ => rfl⟩⟩
    | lean bb at_ gone come hbb hlt stp =>
      refine Ts.mono (Tp_isNotNone (Pe_sub (Pe_sub (Pe_var mh) (Pe_var mo) (G_dict D gp)) Pe_int (G_tup (d := .int bb) (j := 0) rfl rfl (by decide)))) (fun t H3 ⟨e, r⟩ => ?_) fun _ _ z => z.elim
      subst e
      have up : ∀ xs, IsChain (bases kvs) bb xs → st + 1 + (xs.length : Int) ≤ b + 1 := fun xs h => by
        have := hc (x :: xs) (.step (by rw [dget_bases, gp]; rfl) h)
        rw [List.length_cons] at this; exact om231 this
      refine ⟨fun _ => ?_, fun ht => by rw [r.mpr (fun z => nomatch z)] at ht; cases ht⟩
      refine Ex_assign (Pe.ev (Pe_sub (Pe_sub (Pe_var mh) (Pe_var mo) (G_dict D gp)) Pe_int (G_tup (d := .int bb) (j := 0) rfl rfl (by decide))) ?_) (.inl rfl)
      refine Ex_assign (Pe.ev (Pe_bin (Pe_var ms) Pe_int B_add) ?_) (.inl rfl)
      refine Ex_ifp (Tp_cmp (P := False) (Pe_var rfl) (Pe_var mh) (B_notIn D) (by rw [dgetD_key hbb]; simp)) (fun g => g.elim) (fun _ => ?_)
      refine e1a2 (E.chain hbb) fun xs cx _ => ?_
      have := up xs cx
      obtain ⟨r', hx⟩ := cx.head
      have hpos : 1 ≤ xs.length := by rw [hx]; simp
      refine Ex_ifp (Tp_cmp (Pe_var rfl) (Pe_var mb) B_gt decide_eq_true_iff) (fun g => absurd g (by exact om232 this hpos)) (fun _ => ?_)
      exact Ex_nil ⟨rk bb, hlt, rfl, bb, st + 1, rfl, hbb, up, mh, mb, rfl, rfl⟩
  · rintro m' H' rz23 _; refine e0a3 rz23 fun rq249 mh mb => ?_; clear rz23; obtain rfl := rq249
    exact Ex_nil ⟨rfl, rfl⟩
theorem sp_check_changes (W : Lw c (KK P) sc ns) (H : AH) (hd : Addr) (kvs : List (Int × V)) (tx : Int → List Nat) (rk : Int → Nat) (D : DictIs H hd kvs) (E : Held kvs tx rk) :
    Fn c 3 (.ref 305) [.ref hd] H (fun d H' => d = .none ∧ H' = H) (fun _ _ => False) := by
  refine Fn_def W.ok.lim (W.kx 305 _ rfl) rfl rfl (codeRec_of W.kx rfl) rfl (names := ["held"]) (bind1 rfl fun _ => rfl) rfl (by decide) (fun n => mem1 (.inl rfl)) rfl rfl rfl fun A L frs hE R O => ?_
  refine Ex_tryj O (fun m' H' => H' = H) ?_ (fun m' H' h => Ex_nil ⟨rfl, h⟩)
  refine Ex_for O (EvIt_dict R.handled (Pe.ev (Pe_var rfl) ⟨hd, kvs, rfl, D, fun i m' H' => H' = H ∧ m' (Str.ofString "held") = some (.ref hd), ⟨rfl, rfl⟩, ?_, ?_⟩)) (.inl rfl)
  · rintro i d m' H' kp hdd ⟨rfl, mh⟩ _
    refine e1a2 (map_item hdd) fun rq250 hk rq251 => ?_; obtain ⟨k, dk⟩ := rq250; obtain rfl := rq251
    have kk : Key kvs k := ⟨dk, dget_of_mem E.nd (List.mem_of_getElem? hk)⟩
    exact Ex_expr (Pe.ev (Pe_F2 W.ok (W.glob rfl) (W.kx 176 _ rfl) rfl R O.frames (Pe_var mh) (Pe_var rfl) (sp_text_at W _ hd k kvs tx rk D E kk)) ⟨fun h v i a e => (by obtain ⟨t, rfl⟩ := is_str i; cases e), Ex_nil ⟨⟨rfl, mh⟩, fun _ _ => rfl⟩⟩)
  · rintro m' H' ⟨rfl, mh⟩ _
    exact Ex_nil ⟨rfl, rfl⟩
def lastOf (l : List Int) : Int := l.getLast?.getD (-1)
theorem lastOf_snoc (l : List Int) (k : Int) : lastOf (l ++ [k]) = k := by unfold lastOf; simp
theorem lastOf_lt {l : List Int} {k : Int} (h : ∀ y ∈ l, y < k) (h0 : 0 ≤ k) : lastOf l < k := by
  unfold lastOf
  cases q : l.getLast? with
  | none => show (-1 : Int) < k; exact om233 h0
  | some y => exact h y (List.mem_of_getLast? q)
theorem heldOf_snoc (kvs : List (Int × V)) (l : List Int) (k : Int) : Mine.heldOf kvs (l ++ [k]) = Mine.heldOf kvs l ++ [(k, dgetD kvs k)] := by unfold Mine.heldOf; rw [List.map_append]; rfl
inductive OpI (kvs : List (Int × V)) (srt : List Int) (H : AH) (x dx hd0 ah : Addr) (b : Int) (i : Nat) (m : Loc) (H' : AH) : Prop
  | mk : Ext H H' → PackAt H' x dx hd0 b 0 [] → DictIs H' ah (Mine.heldOf kvs (srt.take i)) → m (Str.ofString "pack") = some (.ref x) → m (Str.ofString "held") = some (.ref ah) → m (Str.ofString "bound") = some (.int b) → m (Str.ofString "last") = some (.int (lastOf (srt.take i))) → OpI kvs srt H x dx hd0 ah b i m H'
theorem sp_opened (W : Lw c (KK P) sc ns) (H : AH) (r : Addr) (b : Int) (kvs : List (Int × V)) (srt : List Int) (tx : Int → List Nat) (rk : Int → Nat) (LL : ListAt H r (rowsOf kvs srt)) (S : Srt kvs srt) (E : Held kvs tx rk) (h0 : 0 ≤ b) (h1 : b ≤ 1000) (pos : ∀ k, Key kvs k → 0 ≤ k) (hb : ∀ k xs, IsChain (bases kvs) k xs → (xs.length : Int) ≤ b + 1) :
    Fn c 4 (.ref 312) [.ref r, .int b] H (fun d H' => ∃ x dx hd, d = .ref x ∧ Ext H H' ∧ H x = none ∧ H dx = none ∧ H hd = none ∧ PackAt H' x dx hd b (lastOf srt + 1) (Mine.heldOf kvs srt)) (fun _ _ => False) := by
  have hs : 1000000 ≤ sizeLine := by decide
  have few := E.few
  have sl := S.len
  refine Fn.gen fun QQ hQQ => ?_
  refine Fn_def W.ok.lim (W.kx 312 _ rfl) rfl rfl (codeRec_of W.kx rfl) rfl (names := ["rows", "bound"]) (bind2 rfl fun _ _ => rfl) rfl (by decide) (fun n => mem2 (.inl rfl) (.inl rfl)) rfl rfl rfl fun A L frs hE R O => ?_
  have R1 : Room 1 A := R.le (by exact om234)
  refine Ex_assign (Ev_pack W R O.frames (Pe_var rfl) h0 h1 fun x dx hd0 H1 e1 hx hdx hhd PA => ?_) (.inl rfl)
  refine Ex_assign (Ev_dict0 W.ok fun ah oh hh => ?_) (.inl rfl)
  have hah : H ah = none := e1.none hh
  refine Ex_assign (Pe.ev (Pe_neg Pe_int) ?_) (.inl rfl)
  have rah : r ≠ ah := (e1.list LL).ne_new hh
  refine Ex_for O (EvIt_list R.handled (Pe.ev (Pe_var rfl) ⟨r, _, rfl, (e1.list LL).fresh hh, OpI kvs srt H x dx hd0 ah b, ⟨Ext.set e1 hh, PA.ext (Ext.set (Ext.refl _) hh), DictIs.same _ _ _ _, rfl, rfl, rfl, rfl⟩, ?_, ?_⟩)) (.inl rfl)
  · rintro i d m' H' kp hdd rz24 tr; obtain ⟨ex, PA', df, mp, mh, mb, ml⟩ := rz24
    refine e1a2 (map_item hdd) fun k hk rq252 => ?_; obtain rfl := rq252
    have kk := S.mem.mp (List.mem_of_getElem? hk)
    have lt : lastOf (srt.take i) < k := lastOf_lt (fun y hy => by
      obtain ⟨j, hj, e⟩ := List.getElem_of_mem hy
      rw [List.getElem_take] at e
      rw [List.length_take] at hj
      obtain ⟨hi, e2⟩ := List.getElem?_eq_some_iff.mp hk
      have h1 := List.pairwise_iff_getElem.mp S.pw j i (by exact om180 hj) hi (by exact om235 hj)
      have h2 : srt[j]'(by exact om180 hj) ≠ srt[i] := fun q => by
        have := (List.getElem_inj (h₀ := by exact om180 hj) (h₁ := hi) (S.nd E.nd)).mp q
        exact om181 hj this
      exact om236 e e2 h1 h2) (pos k kk)
    refine Ex_ifp (Tp_cmp (Pe_sub (Pe_var rfl) Pe_int (G_tup (d := .int k) (j := 0) rfl rfl (by decide))) (Pe_var ml) B_le decide_eq_true_iff) (fun g => absurd g (by exact om237 lt)) (fun _ => ?_)
    refine Ex_assign (Pe.ev (Pe_sub (Pe_var rfl) Pe_int (G_tup (d := .int k) (j := 0) rfl rfl (by decide))) ?_) (.inl rfl)
    refine Ex_store (Pe.ev (Pe_tuple (Pes_cons (Pe_sub (Pe_var rfl) Pe_int (G_tup (d := base0 (dgetD kvs k)) (j := 1) rfl rfl (by decide))) (Pes_cons (Pe_sub (Pe_var rfl) Pe_int (G_tup (d := body0 (dgetD kvs k)) (j := 2) rfl rfl (by decide))) Pes_nil)) (by show 2 ≤ sizeLine; exact om225 hs)) (Pe.ev (Pe_var mh) (Pe.ev (Pe_var rfl) ⟨ah, _, k, rfl, rfl, df, by unfold Mine.heldOf; simp; exact om220 hs few sl, fun o' => ?_⟩)))
    rw [dset_new (by rw [keys_heldOf]; exact nd_take (S.nd E.nd) hk), ← E.pair (dgetD_key kk), ← heldOf_snoc]
    have et : srt.take (i + 1) = srt.take i ++ [k] := by rw [List.take_add_one, hk]; rfl
    rw [← et]
    have nn := PA'.i.ne_dict df
    have nh : hd0 ≠ ah := fun e => by have q := hhd; rw [e] at q; exact (PA.some_x.2.2) (by rw [e]; exact hh)
    refine Ex_nil ⟨⟨Ext.upd ex hah, ⟨PA'.i.ne nn.1 nn.2, PA'.d.ne nh⟩, DictIs.same _ _ _ _, mp, mh, mb, ?_⟩, fun y hy => ?_⟩
    · rw [et, lastOf_snoc]; rfl
    · rw [List.mem_singleton] at hy; subst hy
      rw [set_ne _ _ rah]; exact tr _ (.head _)
  rintro m' H' rz25 _; obtain ⟨ex, PA', df, mp, mh, mb, ml⟩ := rz25
  rw [List.take_of_length_le (by unfold rowsOf; simp)] at df ml
  have E' := E.heldOf S
  have hb' : ∀ k xs, IsChain (bases (Mine.heldOf kvs srt)) k xs → (xs.length : Int) ≤ b + 1 := fun k xs h => hb k xs ((heldOf_sim S).bases.chain h)
  refine Ex_expr (Ev_F2 W.ok (W.glob rfl) (W.kx 298 _ rfl) rfl R1 O.frames (Pe_var mh) (Pe_var mb) (Fn.mono (sp_check_chains W H' ah b _ tx rk df E' hb') (fun d H2 z => ?_) fun _ _ z => z.elim))
  obtain ⟨rfl, rfl⟩ := z
  refine ⟨no_ref rfl, ?_⟩
  refine Ex_expr (Ev_F1 W.ok (W.glob rfl) (W.kx 305 _ rfl) rfl R O.frames (Pe_var mh) (Fn.mono (sp_check_changes W _ ah _ tx rk df E') (fun d H2 z => ?_) fun _ _ z => z.elim))
  obtain ⟨rfl, rfl⟩ := z
  refine ⟨no_ref rfl, ?_⟩
  have nn := PA'.i.ne_dict df
  refine Ex_setattr W.kx pc (Pe.ev (Pe_var mh) (Pe.ev (Pe_var mp) ⟨x, dx, _, pk (.int b) (.ref ah) (.int 0), rfl, PA'.i, (by show 3 ≤ 1000; decide), pk_set_held _ _ _ _, fun od => ?_⟩)) tk_held
  have I3 : InstIs (H2.set dx ⟨od, .attrs (pk (.int b) (.ref ah) (.int 0))⟩) x 287 dx (pk (.int b) (.ref ah) (.int 0)) := by
    obtain ⟨⟨o, q⟩, _⟩ := id PA'.i
    exact ⟨⟨o, (set_ne _ _ PA'.i.apart).trans q⟩, od, set_same _ _ _⟩
  have D3 := df.ne (x := ⟨od, .attrs (pk (.int b) (.ref ah) (.int 0))⟩) nn.2.symm
  have e3 : Ext H (H2.set dx ⟨od, .attrs (pk (.int b) (.ref ah) (.int 0))⟩) := Ext.upd ex hdx
  generalize H2.set dx ⟨od, .attrs (pk (.int b) (.ref ah) (.int 0))⟩ = H3 at I3 D3 e3 ⊢
  refine Ex_setattr W.kx pc (Pe.ev (Pe_bin (Pe_var ml) Pe_int B_add) (Pe.ev (Pe_var mp) ⟨x, dx, _, pk (.int b) (.ref ah) (.int (lastOf srt + 1)), rfl, I3, (by show 3 ≤ 1000; decide), pk_set_coming _ _ _ _, fun od2 => ?_⟩)) tk_coming
  refine Ex_ret (Pe.ev (Pe_var mp) (hQQ _ _ ⟨x, dx, ah, rfl, Ext.upd e3 hdx, hx, hdx, hah, ⟨?_, D3.ne nn.2.symm⟩⟩))
  obtain ⟨⟨o, q⟩, _⟩ := id I3
  exact ⟨⟨o, (set_ne _ _ I3.apart).trans q⟩, od2, set_same _ _ _⟩
@[irreducible] def tabA : List Nat := (Str.ofString " !\"#$&'()*+,-./0123456789:;<=>?@ABCDEFGHIJKLMNOPQRSTUVWXYZ[\\]^_`").cps.toList
@[irreducible] def tabB : List Nat := (Str.ofString "abcdefghijklmnopqrstuvwxyz{|}~\n\t").cps.toList
theorem tabA_eq : (Str.ofString " !\"#$&'()*+,-./0123456789:;<=>?@ABCDEFGHIJKLMNOPQRSTUVWXYZ[\\]^_`").cps.toList = tabA := by unfold tabA; rfl
theorem tabB_eq : (Str.ofString "abcdefghijklmnopqrstuvwxyz{|}~\n\t").cps.toList = tabB := by unfold tabB; rfl
theorem tabA_length : tabA.length = 64 := by unfold tabA; decide +kernel
theorem tabB_length : tabB.length = 32 := by unfold tabB; decide +kernel
def sg (cell : Int) : Nat := (tabA ++ tabB).getD (cell % 96).toNat 0
theorem Pe_strl {f : Fx} {m : Loc} {H : AH} {x : Str} {k : Nat} {p : Pos} {l : List Nat} (h : x.cps.toList = l) : Pe c f (.Constant (.str x) k p) m H (.s l) := h ▸ Pe_strc
theorem sp_sign_by (W : Lw c (KK P) sc ns) (H : AH) (cell : Int) : Fn c 1 (.ref 333) [.int cell] H (fun d H' => d = .s [sg cell] ∧ H' = H) (fun _ _ => False) := by
  refine Fn_def W.ok.lim (W.kx 333 _ rfl) rfl rfl (codeRec_of W.kx rfl) rfl (names := ["_law_cell"]) (bind1 rfl fun _ => rfl) rfl (by decide) (fun n => mem1 (.inl rfl)) rfl rfl rfl fun A L frs hE R O => ?_
  refine Ex_assign (Pe.ev (Pe_strl tabA_eq) ?_) (.inl rfl)
  refine Ex_assign (Pe.ev (Pe_bin (Pe_var rfl) (Pe_strl tabB_eq) (B_cats (by rw [tabA_length, tabB_length]; decide))) ?_) (.inl rfl)
  refine Ex_ret (Pe.ev (Pe_sub (Pe_var rfl) (Pe_bin (Pe_var rfl) Pe_int (B_mod (by decide))) (G_str (ch := sg cell) (seqIndex_pos (by exact om238) ?_) ?_ (by exact om239))) ⟨rfl, rfl⟩)
  · rw [List.length_append, tabA_length, tabB_length]; exact om240
  · rw [sg, List.getD_eq_getElem?_getD, List.getElem?_eq_getElem (by rw [List.length_append, tabA_length, tabB_length]; exact om241)]; rfl
def txt (cell size : Int) : List Nat := (List.range size.toNat).map fun k : Nat => sg (cell + 7 * ((k : Int) / (1 + cell % 3)))
theorem txt_length (cell size : Int) : (txt cell size).length = size.toNat := by simp [txt]
theorem sp_text_by (W : Lw c (KK P) sc ns) (H : AH) (cell size : Int) (h0 : 0 ≤ size) (h1 : size ≤ 100000) : Fn c 2 (.ref 338) [.int cell, .int size] H (fun d H' => d = .s (txt cell size) ∧ H' = H) (fun _ _ => False) := by
  refine Fn_def W.ok.lim (W.kx 338 _ rfl) rfl rfl (codeRec_of W.kx rfl) rfl (names := ["_law_cell", "_law_size"]) (bind2 rfl fun _ _ => rfl) rfl (by decide) (fun n => mem2 (.inr ⟨rfl, rfl⟩) (.inl rfl)) rfl rfl rfl fun A L frs hE R O => ?_
  refine Ex_ret (Pe.ev (Pe.of_ext ?_) ⟨rfl, rfl⟩)
  refine Ev_meth plainAttrs_str slot_str_join (Pe_str.ev ⟨has_str, Evs_cons ?_⟩) type_str_join
  refine Ev_comp W.ok (EvIt_range1 R.handled ((Pe_glob W.ok (gb_range W)).ev ⟨rfl, Pe.ev (Pe_var rfl) ⟨size, rfl, by omega, by omega, ?_⟩⟩)) rfl (by decide) rfl (by decide) rfl (clN ⟨rfl, rfl, rfl⟩ cl0)
  · refine CompOk_map (((List.range size.toNat).map fun k : Nat => [sg (cell + 7 * ((k : Int) / (1 + cell % 3)))]).map V.s) (by simp) ?_ ?_ ?_
    · rw [List.length_map, List.length_range]; exact Nat.le_trans (by exact om242 h1 : size.toNat ≤ 100000) (by decide : 100000 ≤ sizeLine)
    · intro i d C hE hd
      refine e1a2 (map_item hd) fun k hk rq253 => ?_; obtain rfl := rq253
      refine ⟨_, map_item' (map_item' hk), ?_⟩
      refine Pe_F1 W.ok (W.glob rfl) (W.kx 333 _ rfl) rfl R O.frames (Pe_bin (Pe_var rfl) (Pe_bin Pe_int (Pe_bin (Pe_var rfl) (Pe_bin Pe_int (Pe_bin (Pe_var rfl) Pe_int (B_mod (by decide))) B_add) (B_div (by exact om243) (by exact om244))) (B_mul (mul_small (by decide)))) B_add) (sp_sign_by W H _)
    · intro a o ha
      refine Evs_nil ((J_join (set_same _ _ _) ?_).op ⟨?_, Ext.set (Ext.refl _) ha⟩)
      · rw [flat1, List.length_map, List.length_range]; exact om245 h1
      · rw [flat1]; rfl
theorem sp_next_text (W : Lw c (KK P) sc ns) (H : AH) (old : List Nat) (cell : Int) (ho : old.length ≤ 10000) :
    Fn c 3 (.ref 345) [.s old, .int cell] H (fun d H' => H' = H ∧ ∃ l : List Nat, d = .s l ∧ l.length ≤ old.length + 9) (fun _ _ => False) := by
  have hs : 1000000 ≤ sizeLine := by decide
  refine Fn_def W.ok.lim (W.kx 345 _ rfl) rfl rfl (codeRec_of W.kx rfl) rfl (names := ["_law_old", "_law_cell"]) (bind2 rfl fun _ _ => rfl) rfl (by decide) (fun n => mem2 (.inl rfl) (.inl rfl)) rfl rfl rfl fun A L frs hE R O => ?_
  have R1 : Room 1 A := R.le (by exact om221)
  refine Ex_assign (Pe.ev (Pe_bin (Pe_var rfl) Pe_int (B_mod (by decide))) ?_) (.inl rfl)
  refine Ex_assign (Pe.ev (Pe_bin (Pe_bin (Pe_var rfl) Pe_int (B_div (by decide) (by decide))) (Pe_bin (Pe_B1 W.ok (gb_len W) (Pe_var rfl) (L_str (by exact om246 ho hs))) Pe_int B_add) (B_mod (by exact om247))) ?_) (.inl rfl)
  refine Ex_assign (Pe.ev (Pe_bin (Pe_bin (Pe_var rfl) Pe_int (B_div (by decide) (by decide))) (Pe_bin (Pe_B1 W.ok (gb_len W) (Pe_var rfl) (L_str (by exact om246 ho hs))) Pe_int B_add) (B_div (by exact om247) (by exact om248 ho))) ?_) (.inl rfl)
  have a0 : 0 ≤ cell / 5 % ((old.length : Int) + 1) := Int.emod_nonneg _ (by exact om249)
  generalize cell / 5 % ((old.length : Int) + 1) = a at a0
  generalize cell / 5 / ((old.length : Int) + 1) = left
  refine Ex_ifp (Tp_cmp (Pe_var rfl) Pe_int B_eq beq_iff_eq) (fun _ => Ex_ret (Pe.ev (Pe_var rfl) ⟨rfl, old, rfl, by exact om250⟩)) (fun _ => ?_)
  refine Ex_ifp (Tp_cmp (Pe_var rfl) Pe_int B_eq beq_iff_eq) (fun _ => ?_) (fun _ => ?_)
  · refine Ex_ret (Pe.ev (Pe_bin (Pe_bin (Pe_bin (Pe_slice_ns (Pe_var rfl) (Pe_var rfl) a0 (by exact om246 ho hs)) (Pe_F1 W.ok (W.glob rfl) (W.kx 333 _ rfl) rfl R1 O.frames (Pe_var rfl) (sp_sign_by W _ _)) (B_cats ?_)) (Pe_F1 W.ok (W.glob rfl) (W.kx 333 _ rfl) rfl R1 O.frames (Pe_bin (Pe_var rfl) Pe_int (B_div (by decide) (by decide))) (sp_sign_by W _ _)) (B_cats ?_)) (Pe_slice_sn (Pe_var rfl) (Pe_var rfl) a0 (by exact om246 ho hs)) (B_cats ?_)) ⟨rfl, _, rfl, ?_⟩)
    all_goals simp only [List.length_append, List.length_take, List.length_drop, List.length_cons, List.length_nil]; omega
  refine Ex_ifp (Tp_cmp (Pe_var rfl) Pe_int B_eq beq_iff_eq) (fun _ => ?_) (fun _ => ?_)
  · refine Ex_ret (Pe.ev (Pe_bin (Pe_slice_ns (Pe_var rfl) (Pe_var rfl) a0 (by exact om246 ho hs)) (Pe_slice_sn (Pe_var rfl) (Pe_bin (Pe_bin (Pe_var rfl) Pe_int B_add) (Pe_bin (Pe_var rfl) Pe_int (B_mod (by decide))) B_add) (by exact om251 a0) (by exact om246 ho hs)) (B_cats ?_)) ⟨rfl, _, rfl, ?_⟩)
    all_goals simp only [List.length_append, List.length_take, List.length_drop, List.length_cons, List.length_nil]; omega
  refine Ex_ifp (Tp_cmp (Pe_var rfl) Pe_int B_eq beq_iff_eq) (fun _ => ?_) (fun _ => ?_)
  · refine Ex_ret (Pe.ev (Pe_bin (Pe_bin (Pe_slice_ns (Pe_var rfl) (Pe_var rfl) a0 (by exact om246 ho hs)) (Pe_F1 W.ok (W.glob rfl) (W.kx 333 _ rfl) rfl R1 O.frames (Pe_var rfl) (sp_sign_by W _ _)) (B_cats ?_)) (Pe_slice_sn (Pe_var rfl) (Pe_bin (Pe_var rfl) Pe_int B_add) (by exact om252 a0) (by exact om246 ho hs)) (B_cats ?_)) ⟨rfl, _, rfl, ?_⟩)
    all_goals simp only [List.length_append, List.length_take, List.length_drop, List.length_cons, List.length_nil]; omega
  refine Ex_ret (Pe.ev (Pe_F2 W.ok (W.glob rfl) (W.kx 338 _ rfl) rfl R O.frames (Pe_var rfl) (Pe_bin (Pe_var rfl) Pe_int (B_mod (by decide))) (sp_text_by W _ _ _ (by exact om253) (by exact om254))) ⟨rfl, _, rfl, ?_⟩)
  rw [txt_length]; exact om255
theorem one_iff {l r : List Nat} {i j : Nat} {x y : Nat} (hl : l[i]? = some x) (hr : r[j]? = some y) : decide ([x] = [y]) = true ↔ l[i]? = r[j]? := by
  rw [hl, hr]; simp
theorem sp_change_of (W : Lw c (KK P) sc ns) (H : AH) (old new : List Nat) (ho : old.length ≤ 100000) (hn : new.length ≤ 100000) :
    Fn c 1 (.ref 120) [.s old, .s new] H (fun d H' => H' = H ∧ ∃ a e : Nat, Chg old new a e ∧ d = .tup [.int a, .s ((old.take (old.length - e)).drop a), .s ((new.take (new.length - e)).drop a)]) (fun _ _ => False) := by
  have hs : 1000000 ≤ sizeLine := by decide
  refine Fn_def W.ok.lim (W.kx 120 _ rfl) rfl rfl (codeRec_of W.kx rfl) rfl (names := ["old", "new"]) (bind2 rfl fun _ _ => rfl) rfl (by decide) (fun n => mem2 (.inl rfl) (.inl rfl)) rfl rfl rfl fun A L frs hE R O => ?_
  refine Ex_assign (Pe.ev (Pe_B2 W.ok (gb_min W) (Pe_B1 W.ok (gb_len W) (Pe_var rfl) (L_str (by exact om165 ho hs))) (Pe_B1 W.ok (gb_len W) (Pe_var rfl) (L_str (by exact om165 hn hs))) (M_min R.handled)) ?_) (.inl rfl)
  obtain ⟨most, hm⟩ : ∃ k : Nat, k = min old.length new.length := ⟨_, rfl⟩
  rw [show min (old.length : Int) (new.length : Int) = (most : Int) by exact om256 hm]
  refine Ex_assign (Pe.ev Pe_int ?_) (.inl rfl)
  refine Ex_while1 O (fun a : Nat => .int a) (fun a => most - a) (fun a => a ≤ most ∧ old.take a = new.take a) (fun a => (a : Int) < most ∧ old[a]? = new[a]? ∧ True) 0 ⟨by exact om257, by simp⟩ rfl (fun a ⟨h1, h2⟩ => ?_) (fun a ⟨h1, h2⟩ ⟨h3, h4, _⟩ => ?_) (fun a ⟨h1, h2⟩ h3 => ?_)
  · refine Tp_and (Tpa_cons (Tp_cmp (Pe_var rfl) (Pe_var rfl) B_lt decide_eq_true_iff) fun g => Tpa_cons ?_ fun _ => Tpa_nil)
    have e1 : old[a]? = some old[a] := List.getElem?_eq_getElem (by exact om258 hm g)
    have e2 : new[a]? = some new[a] := List.getElem?_eq_getElem (by exact om259 hm g)
    exact Tp_cmp (Pe_sub (Pe_var rfl) (Pe_var rfl) (G_str (seqIndex_pos (by exact om127) (by exact om260 hm g)) e1 (by exact om261 hn hm g))) (Pe_sub (Pe_var rfl) (Pe_var rfl) (G_str (seqIndex_pos (by exact om127) (by exact om262 hm g)) e2 (by exact om261 hn hm g))) B_eqss (one_iff e1 e2)
  · refine Ex_assign (Pe.ev (Pe_bin (Pe_var rfl) Pe_int B_add) (Ex_nil ⟨rfl, rfl, a + 1, ⟨by omega, ?_⟩, by omega, Loc.set_set _ _ _ _⟩)) (.inl rfl)
    rw [List.take_add_one, List.take_add_one, h2, h4]
  have sA : a = min old.length new.length ∨ old[a]? ≠ new[a]? := by
    by_cases q : a = most
    · exact .inl (q.trans hm)
    · exact .inr fun z => h3 ⟨by omega, z, trivial⟩
  refine Ex_assign (Pe.ev Pe_int ?_) (.inl rfl)
  refine Ex_while1 O (fun e : Nat => .int e) (fun e => most - e) (fun e => a + e ≤ most ∧ old.drop (old.length - e) = new.drop (new.length - e)) (fun e => (e : Int) < (most : Int) - (a : Int) ∧ old[old.length - 1 - e]? = new[new.length - 1 - e]? ∧ True) 0 ⟨by omega, by simp⟩ rfl (fun e ⟨k1, k2⟩ => ?_) (fun e ⟨k1, k2⟩ ⟨k3, k4, _⟩ => ?_) (fun e ⟨k1, k2⟩ k3 => ?_)
  · refine Tp_and (Tpa_cons (Tp_cmp (Pe_var rfl) (Pe_bin (Pe_var rfl) (Pe_var rfl) B_sub) B_lt decide_eq_true_iff) fun g => Tpa_cons ?_ fun _ => Tpa_nil)
    have e1 : old[old.length - 1 - e]? = some old[old.length - 1 - e] := List.getElem?_eq_getElem (by omega)
    have e2 : new[new.length - 1 - e]? = some new[new.length - 1 - e] := List.getElem?_eq_getElem (by omega)
    have s1 : seqIndex? ((old.length : Int) - 1 - e) old.length = some (old.length - 1 - e) := (seqIndex_pos (by omega) (by exact om263)).trans (congrArg some (by exact om264))
    have s2 : seqIndex? ((new.length : Int) - 1 - e) new.length = some (new.length - 1 - e) := (seqIndex_pos (by omega) (by exact om263)).trans (congrArg some (by exact om264))
    exact Tp_cmp (Pe_sub (Pe_var rfl) (Pe_bin (Pe_bin (Pe_B1 W.ok (gb_len W) (Pe_var rfl) (L_str (by exact om165 ho hs))) Pe_int B_sub) (Pe_var rfl) B_sub) (G_str s1 e1 (by omega))) (Pe_sub (Pe_var rfl) (Pe_bin (Pe_bin (Pe_B1 W.ok (gb_len W) (Pe_var rfl) (L_str (by exact om165 hn hs))) Pe_int B_sub) (Pe_var rfl) B_sub) (G_str s2 e2 (by omega))) B_eqss (one_iff e1 e2)
  · refine Ex_assign (Pe.ev (Pe_bin (Pe_var rfl) Pe_int B_add) (Ex_nil ⟨rfl, rfl, e + 1, ⟨by omega, ?_⟩, by omega, Loc.set_set _ _ _ _⟩)) (.inl rfl)
    have e1 : old[old.length - 1 - e]? = some old[old.length - 1 - e] := List.getElem?_eq_getElem (by omega)
    have e2 : new[new.length - 1 - e]? = some new[new.length - 1 - e] := List.getElem?_eq_getElem (by omega)
    rw [show old.length - (e + 1) = old.length - 1 - e by exact om213, show new.length - (e + 1) = new.length - 1 - e by exact om213, List.drop_eq_getElem_cons (l := old) (i := old.length - 1 - e) (by omega), List.drop_eq_getElem_cons (l := new) (i := new.length - 1 - e) (by omega), show old.length - 1 - e + 1 = old.length - e by omega, show new.length - 1 - e + 1 = new.length - e by omega, k2]
    rw [e1, e2] at k4
    injection k4 with k4
    rw [k4]
  have sE : a + e = min old.length new.length ∨ old[old.length - 1 - e]? ≠ new[new.length - 1 - e]? := by
    by_cases q : a + e = most
    · exact .inl (q.trans hm)
    · exact .inr fun z => k3 ⟨by omega, z, trivial⟩
  refine Ex_ret (Pe.ev (Pe_tuple (Pes_cons (Pe_var rfl) (Pes_cons (Pe_slice_ss (Pe_var rfl) (Pe_var rfl) (Pe_bin (Pe_B1 W.ok (gb_len W) (Pe_var rfl) (L_str (by exact om165 ho hs))) (Pe_var rfl) B_sub) (by exact om127) (by omega) (by exact om165 ho hs)) (Pes_cons (Pe_slice_ss (Pe_var rfl) (Pe_var rfl) (Pe_bin (Pe_B1 W.ok (gb_len W) (Pe_var rfl) (L_str (by exact om165 hn hs))) (Pe_var rfl) B_sub) (by exact om127) (by omega) (by exact om165 hn hs)) Pes_nil))) (three_fits _ _ _)) ⟨rfl, a, e, ⟨by omega, by omega, h2, k2, sA, sE⟩, ?_⟩)
  rw [show ((old.length : Int) - (e : Int)).toNat = old.length - e by exact om265, show ((new.length : Int) - (e : Int)).toNat = new.length - e by exact om265]
  rfl
theorem getD_at {ks : List Int} {i : Nat} {k : Int} (h : ks[i]? = some k) : ks.getD i 0 = k := by rw [List.getD_eq_getElem?_getD, h]; rfl
theorem Held.chains {kvs : List (Int × V)} {tx : Int → List Nat} {rk : Int → Nat} (E : Held kvs tx rk) : ∃ cl : Int → List Int, ∀ k, Key kvs k → IsChain (bases kvs) k (cl k) ∧ (cl k).length ≤ 41 := by
  classical
  refine ⟨fun k => if h : Key kvs k then Classical.choose (E.chain h) else [], fun k h => ?_⟩
  dsimp only; rw [dif_pos h]; exact Classical.choose_spec (E.chain h)
theorem exists_srt (kvs : List (Int × V)) : ∃ srt, Srt kvs srt := by
  refine ⟨(kvs.map (·.1)).mergeSort (fun a b => decide (a ≤ b)), List.mergeSort_perm _ _, ?_⟩
  have := List.pairwise_mergeSort (le := fun a b : Int => decide (a ≤ b)) (fun a b c h1 h2 => by simp at *; exact om266 h1 h2) (fun a b => by simp; exact om267) (kvs.map (·.1))
  exact this.imp fun h => by simpa using h
theorem lastOf_at {srt : List Int} (h : srt ≠ []) : srt[srt.length - 1]? = some (lastOf srt) := by
  unfold lastOf
  rw [← List.getLast?_eq_getElem?]
  cases q : srt.getLast? with
  | none => exact (h (List.getLast?_eq_none_iff.mp q)).elim
  | some y => rfl
theorem le_lastOf {srt : List Int} (pw : srt.Pairwise (· ≤ ·)) {k : Int} (h : k ∈ srt) : k ≤ lastOf srt := by
  have hne : srt ≠ [] := List.ne_nil_of_mem h
  obtain ⟨j, hj, e⟩ := List.getElem_of_mem h
  obtain ⟨hl, e2⟩ := List.getElem?_eq_some_iff.mp (lastOf_at hne)
  by_cases q : j = srt.length - 1
  · subst q; exact om268 e2 e
  · have := List.pairwise_iff_getElem.mp pw j (srt.length - 1) hj hl (by exact om269 hj q)
    exact om204 e e2 this
theorem Sim.put {kvs kvs' : List (Int × V)} (h : Sim kvs kvs') {n : Int} {d : V} (hn : ¬ Key kvs' n) : Sim (kvs ++ [(n, d)]) (kvs' ++ [(n, d)]) := fun k => by
  rw [dget_snoc (fun q => hn (h.key.mp (key_iff.mpr q))), dget_snoc (fun q => hn (key_iff.mpr q)), h k]
theorem sp_store_lean (W : Lw c (KK P) sc ns) (H : AH) (x dx hd : Addr) (b n o : Int) (kvs : List (Int × V)) (tx : Int → List Nat) (rk : Int → Nat) (l : List Nat) (xs : List Int) (PA : PackAt H x dx hd b n kvs) (E : Held kvs tx rk) (few : kvs.length < 40) (hl : l.length ≤ 20000) (hn : ¬ Key kvs n) (ho : Key kvs o) (hx : IsChain (bases kvs) o xs) (hb : (xs.length : Int) ≤ b) :
    Fn c 4 (.ref 204) [.ref x, .s l, .int o] H (fun d H' => d = .int n ∧ (∃ a e : Nat, Chg (tx o) l a e ∧ PackAt H' x dx hd b (n + 1) (kvs ++ [(n, .tup [.int o, .tup [.int a, .s (((tx o).take ((tx o).length - e)).drop a), .s ((l.take (l.length - e)).drop a)]])])) ∧ Keeps H H' dx hd) (fun _ _ => False) := by
  have hs : 1000000 ≤ sizeLine := by decide
  have so := E.short o ho
  refine Fn.gen fun QQ hQQ => ?_
  refine Fn_def W.ok.lim (W.kx 204 _ rfl) rfl rfl (codeRec_of W.kx rfl) rfl (names := ["self", "text", "beside"]) (bind3 rfl fun _ _ _ => rfl) rfl (by decide) (fun n => mem3 (.inl rfl) (.inl rfl) (.inl rfl)) rfl rfl rfl fun A L frs hE R O => ?_
  have R1 : Room 1 A := R.le (by exact om234)
  have R2 : Room 2 A := R.le (by exact om270)
  refine Ex_assign (Pe.ev (Pe_tuple (Pes_cons Pe_none (Pes_cons (Pe_var rfl) Pes_nil)) (by show 2 ≤ sizeLine; exact om225 hs)) ?_) (.inl rfl)
  refine Ex_ifp (Tp_isNotNone (Pe_var rfl)) (fun _ => ?_) (fun g => (g (fun z => nomatch z)).elim)
  refine Ex_expr (Ev_need W R2 O.frames (Pe_var rfl) (Pe_var rfl) PA ho ⟨no_ref rfl, ?_⟩)
  refine Ex_assign (Ev_tuple (Evs_cons (Pe.ev (Pe_var rfl) (Evs_cons (Ev_F2e W.ok (W.glob rfl) (W.kx 120 _ rfl) rfl R1 O.frames (Ev_M1 W.kx pc R O.frames (Pe_var rfl) PA.i rfl fi_read ft_read (W.kx 211 _ rfl) rfl (Pe_var rfl) (Fn.mono (sp_read W H x dx hd b n o kvs tx rk PA E ho) (fun d H1 z => ?_) fun _ _ z => z.elim))))))) (.inl rfl)
  obtain ⟨rfl, rfl⟩ := z
  refine (Pe_var rfl).ev (Fn.mono (sp_change_of W _ (tx o) l (by exact om211 so) (by exact om211 hl)) (fun d H1 z => ?_) fun _ _ z => z.elim)
  obtain ⟨rfl, a, e, C, rfl⟩ := z
  refine Evs_nil ⟨by show 2 ≤ sizeLine; exact om225 hs, ?_⟩
  have st := C.step (Nat.le_refl a)
  rw [List.drop_eq_nil_of_le (by rw [List.length_take]; exact om146), List.nil_append, List.nil_append] at st
  obtain ⟨en, hen⟩ : ∃ en : V, en = .tup [.int o, .tup [.int a, .s (((tx o).take ((tx o).length - e)).drop a), .s ((l.take (l.length - e)).drop a)]] := ⟨_, rfl⟩
  have hb0 : base0 en = .int o := by rw [hen]; rfl
  refine Ex_assign (Pe.ev (Pe_attr W.kx pc (Pe_var rfl) PA.i (pk_coming _ _ _) handy_int no_coming) ?_) (.inl rfl)
  refine Ex_assign (Ev_M0 W.kx pc R1 O.frames (Pe_var rfl) PA.i rfl fi_bases ft_bases (W.kx 239 _ rfl) rfl (Fn.mono (sp_bases W H1 x dx hd b n kvs tx rk PA E) (fun d H2 z => ?_) fun _ _ z => z.elim)) (.inl rfl)
  refine e2a5 z fun ba srt rq254 e1 ha S D => ?_; clear z; obtain rfl := rq254
  have hnh : ¬ Key (Mine.heldOf kvs srt) n := fun q => hn ((heldOf_sim S).key.mp q)
  have hnk : n ∉ (bases (Mine.heldOf kvs srt)).map (·.1) := by rw [keys_bases]; exact fun q => hnh (key_iff.mpr q)
  have sl := S.len
  refine Ex_store (Pe.ev (Pe_var rfl) (Pe.ev (Pe_var rfl) (Pe.ev (Pe_var rfl) ⟨ba, _, n, rfl, rfl, D, by unfold bases Mine.heldOf; rw [List.length_map, List.length_map]; exact om226 few hs sl, fun o1 => ?_⟩)))
  rw [dset_new hnk]
  have e2 : Ext H1 (H2.set ba ⟨o1, .dict (bases (Mine.heldOf kvs srt) ++ [(n, .int o)])⟩) := Ext.upd e1 ha
  have D2 : DictIs (H2.set ba ⟨o1, .dict (bases (Mine.heldOf kvs srt) ++ [(n, .int o)])⟩) ba (bases (Mine.heldOf kvs srt) ++ [(n, .int o)]) := DictIs.same _ _ _ _
  generalize H2.set ba ⟨o1, .dict (bases (Mine.heldOf kvs srt) ++ [(n, .int o)])⟩ = H3 at e2 D2 ⊢
  have PA2 := PA.ext e2
  refine Ex_assign (Pe.ev Pe_none ?_) (.inl rfl)
  have EH := E.heldOf S
  have hoh : Key (Mine.heldOf kvs srt) o := (heldOf_sim S).key.mpr ho
  obtain ⟨rk2, E2⟩ := EH.put_lean hnh hoh (by unfold Mine.heldOf; rw [List.length_map]; exact om227 few sl) hl st
  have wd : Wood (bases (Mine.heldOf kvs srt) ++ [(n, .int o)]) rk2 := by
    have := E2.wood (by simp)
    rw [bases_put] at this; exact this
  have g0 : dget (bases (Mine.heldOf kvs srt) ++ [(n, V.int o)]) n = some (.int o) := by rw [dget_snoc hnk, if_pos rfl]
  have simr : Sim kvs (Mine.heldOf kvs srt) := fun k => (heldOf_sim S k).symm
  have hx2 : IsChain (bases (Mine.heldOf kvs srt) ++ [(n, .int o)]) n (n :: xs) := .step g0 ((simr.bases.chain hx).keep fun y hy => dget_put (fun q => hnh (key_bases.mp q)) y hy)
  refine Ex_ifp (Tp_cmp (Pe_bin (Pe.of_ext (d := .int ((xs.length : Int) + 1)) (Ev_B1e W.ok (gb_len W) (Ev_F2 W.ok (W.glob rfl) (W.kx 127 _ rfl) rfl R1 O.frames (Pe_var rfl) (Pe_var rfl) (Fn.mono (sp_chain_of W H3 ba _ rk2 n (.int o) D2 wd g0) (fun d H4 z => ?_) fun _ _ z => z.elim)))) Pe_int B_sub) (Pe_attr W.kx pc (Pe_var rfl) PA2.i (pk_bound _ _ _) handy_int no_bound) B_gt decide_eq_true_iff) (fun g => absurd g (by exact om271 hb)) (fun _ => ?_)
  · refine e3a5 z fun a3 o3 ys rq255 h3 rq256 ch xl => ?_; clear z; obtain rfl := rq255; obtain rfl := rq256
    have hy := ch.uniq hx2
    subst hy
    exact (L_list (ListAt.same _ _ _ _) (by rw [List.length_map]; exact om272 hs xl)).op ⟨congrArg V.int (by rw [List.length_map, List.length_cons]; exact om199), Ext.set (Ext.refl _) h3⟩
  have hnk2 : n ∉ kvs.map (·.1) := fun q => hn (key_iff.mpr q)
  refine Ex_store (Pe.ev (Pe_var rfl) (Pe.ev (Pe_attr W.kx pc (Pe_var rfl) PA2.i (pk_held _ _ _) handy_ref no_held) (Pe.ev (Pe_var rfl) ⟨hd, kvs, n, rfl, rfl, PA2.d, by exact om229 few hs, fun o4 => ?_⟩)))
  rw [dset_new hnk2, ← hen]
  obtain ⟨n1, n2⟩ := PA2.i.ne_dict PA2.d
  have I3 := PA2.i.ne (y := ⟨o4, .dict (kvs ++ [(n, en)])⟩) n1 n2
  have D3 : DictIs (H3.set hd ⟨o4, .dict (kvs ++ [(n, en)])⟩) hd (kvs ++ [(n, en)]) := DictIs.same _ _ _ _
  have k3 : ∀ a, a ≠ hd → (H3.set hd ⟨o4, .dict (kvs ++ [(n, en)])⟩) a = H3 a := fun a h => set_ne _ _ h
  generalize H3.set hd ⟨o4, .dict (kvs ++ [(n, en)])⟩ = H4 at I3 D3 k3 ⊢
  refine Ex_setattr W.kx pc (Pe.ev (Pe_bin (Pe_var rfl) Pe_int B_add) (Pe.ev (Pe_var rfl) ⟨x, dx, _, pk (.int b) (.ref hd) (.int (n + 1)), rfl, I3, (by show 3 ≤ 1000; decide), pk_set_coming _ _ _ _, fun od => ?_⟩)) tk_coming
  refine Ex_ifp (Tp_isNotNone (Pe_var rfl)) (fun g => (g rfl).elim) (fun _ => ?_)
  have PF : PackAt (H4.set dx ⟨od, .attrs (pk (.int b) (.ref hd) (.int (n + 1)))⟩) x dx hd b (n + 1) (kvs ++ [(n, en)]) := by
    obtain ⟨⟨o', q⟩, _⟩ := id I3
    exact ⟨⟨⟨o', (set_ne _ _ I3.apart).trans q⟩, od, set_same _ _ _⟩, D3.ne n2.symm⟩
  rw [hen] at PF
  refine Ex_ret (Pe.ev (Pe_var rfl) (hQQ _ _ ⟨rfl, ⟨a, e, C, PF⟩, fun y hy hy1 hy2 => ?_⟩))
  rw [set_ne _ _ hy1, k3 y hy2, e2 y hy]
theorem fi_below : findIn (KK P) (.ref 287) (Str.ofString "below") = some (some (.ref 272)) := by kernel_rfl
theorem ft_below : typeIn (KK P) (.ref 272) = some (.type "function") := by kernel_rfl
theorem fi_lean : findIn (KK P) (.ref 287) (Str.ofString "lean") = some (some (.ref 279)) := by kernel_rfl
theorem ft_lean : typeIn (KK P) (.ref 279) = some (.type "function") := by kernel_rfl
theorem idx_facts {l : List Int} {n : Int} (h : n ∈ l) : l[l.idxOf n]? = some n ∧ ∀ i, i < l.idxOf n → l[i]? ≠ some n := by
  have hlt := List.idxOf_lt_length_of_mem h
  refine ⟨by rw [List.getElem?_eq_getElem hlt, List.getElem_idxOf hlt], fun i hi e => ?_⟩
  obtain ⟨hl, e2⟩ := List.getElem?_eq_some_iff.mp e
  have := List.not_of_lt_findIdx (p := (· == n)) (xs := l) (i := i) hi
  simp [e2] at this
theorem sp_below (W : Lw c (KK P) sc ns) (H : AH) (x dx hd : Addr) (b n k : Int) (kvs : List (Int × V)) (tx : Int → List Nat) (rk : Int → Nat) (PA : PackAt H x dx hd b n kvs) (E : Held kvs tx rk) :
    Fn c 4 (.ref 272) [.ref x, .int k] H (fun d H' => H' = H ∧ ∃ hi : Int, d = .int hi ∧ Hi kvs k hi) (fun _ _ => False) := by
  have hs : 1000000 ≤ sizeLine := by decide
  obtain ⟨cl, hcl⟩ := E.chains
  have hdn := PA.some_x.2.2
  refine Fn.of_ext (Fn.mono (Q := fun d H' => Ext H H' ∧ ∃ hi : Int, d = .int hi ∧ Hi kvs k hi) (X := fun _ _ => False) ?_ (fun d H' z => ⟨z.1, rfl, z.2⟩) fun _ _ z => z.elim)
  refine Fn_def W.ok.lim (W.kx 272 _ rfl) rfl rfl (codeRec_of W.kx rfl) rfl (names := ["self", "number"]) (bind2 rfl fun _ _ => rfl) rfl (by decide) (fun n => mem2 (.inl rfl) (.inl rfl)) rfl rfl rfl fun A L frs hE R O => ?_
  refine Ex_assign (Pe.ev Pe_int ?_) (.inl rfl)
  refine Ex_for O (EvIt_dict R.handled (Pe.ev (Pe_attr W.kx pc (Pe_var rfl) PA.i (pk_held _ _ _) handy_ref no_held) ⟨hd, kvs, rfl, PA.d, fun i m' H' => Ext H H' ∧ m' (Str.ofString "self") = some (.ref x) ∧ m' (Str.ofString "number") = some (.int k) ∧ ∃ hi : Int, m' (Str.ofString "most") = some (.int hi) ∧ 0 ≤ hi ∧ (∀ (j : Nat) (v : Int), j < i → (kvs.map (·.1))[j]? = some v → k ∈ cl v → ((cl v).idxOf k : Int) ≤ hi) ∧ (hi = 0 ∨ ∃ v xs, IsChain (bases kvs) v xs ∧ k ∈ xs ∧ hi = (xs.idxOf k : Int)), ⟨Ext.refl _, rfl, rfl, 0, rfl, Int.le_refl _, fun j v hj => absurd hj (by exact om185), .inl rfl⟩, ?_, ?_⟩)) (.inl rfl)
  · rintro i d m' H' kp hdd rz26 _; refine e0a4 rz26 fun ex ms mn rq257 => ?_; clear rz26; refine e1a4 rq257 fun hi mm h0 h1 h2 => ?_; clear rq257
    refine e1a2 (map_item hdd) fun rq258 hv rq259 => ?_; obtain ⟨v, dv⟩ := rq258; obtain rfl := rq259
    have kv : Key kvs v := ⟨dv, dget_of_mem E.nd (List.mem_of_getElem? hv)⟩
    have hv1 : (kvs.map (·.1))[i]? = some v := map_item' hv
    have PA' := PA.ext ex
    refine Ex_assign (Ev_M1 W.kx pc R O.frames (Pe_var ms) PA'.i rfl fi_chain ft_chain (W.kx 225 _ rfl) rfl (Pe_var rfl) (Fn.mono (sp_chain W H' x dx hd b n v kvs tx rk PA' E kv) (fun d H2 z => ?_) fun _ _ z => z.elim)) (.inl rfl)
    refine e2a6 z fun a xs rq260 e2 ha la ch xl => ?_; clear z; obtain rfl := rq260
    have e := ch.uniq (hcl v kv).1
    subst e
    have x2 := ex.trans e2
    have upto : ∀ N : Int, hi ≤ N → (k ∈ cl v → ((cl v).idxOf k : Int) ≤ N) → ∀ (j : Nat) (v' : Int), j < i + 1 → (kvs.map (·.1))[j]? = some v' → k ∈ cl v' → ((cl v').idxOf k : Int) ≤ N := fun N q1 q2 j v' hj hv' hm => by
      by_cases z : j = i
      · subst z; rw [hv1] at hv'; injection hv' with hv'; subst hv'; exact q2 hm
      · have := h1 j v' (by exact om183 hj z) hv' hm; exact om273 q1 this
    refine Ex_ifp (Tp_cmp (Pe_var mn) (Pe_var rfl) (B_inL la) decide_eq_true_iff) (fun g => ?_) (fun g => ?_)
    · obtain ⟨i1, i2⟩ := idx_facts g
      refine Ex_assign (Pe.ev (d := .int (max hi ((cl v).idxOf k : Nat))) (Pe_B2 W.ok (gb_max W) (Pe_var mm) (Pe.of_ext (d := .int ((cl v).idxOf k : Nat)) (Ev_meth plainAttrs_list slot_list_index (Pe.ev (Pe_var rfl) ⟨has_listAt la, Pes.evs (Pes_cons (Pe_var mn) Pes_nil) ((O_index la i1 i2 (by exact om272 hs xl)).op ⟨rfl, Ext.refl _⟩)⟩) type_list_index)) (M_max R.handled)) (Ex_nil ⟨⟨x2, ms, mn, _, rfl, by exact om274, upto _ (by exact om275) (fun _ => by exact om276), ?_⟩, fun y hy => ?_⟩)) (.inl rfl)
      · by_cases q : hi ≤ ((cl v).idxOf k : Nat)
        · exact .inr ⟨v, cl v, ch, g, by exact om277 q⟩
        · rw [show max hi ((cl v).idxOf k : Int) = hi by exact om278 q]; exact h2
      · rw [List.mem_singleton] at hy; subst hy; exact x2 _ hdn
    · exact Ex_nil ⟨⟨x2, ms, mn, hi, mm, h0, upto hi (Int.le_refl _) (fun q => (g q).elim), h2⟩, fun y hy => by rw [List.mem_singleton] at hy; subst hy; exact x2 _ hdn⟩
  · rintro m' H' rz27 _; refine e0a4 rz27 fun ex ms mn rq261 => ?_; clear rz27; refine e1a4 rq261 fun hi mm h0 h1 h2 => ?_; clear rq261
    refine Ex_ret (Pe.ev (Pe_var mm) ⟨ex, hi, rfl, h0, fun v xs c hm => ?_, h2⟩)
    have kv : Key kvs v := key_bases.mp (c.keys v (by obtain ⟨r, hr⟩ := c.head; rw [hr]; exact .head _))
    have e := c.uniq (hcl v kv).1
    subst e
    obtain ⟨j, hj⟩ := List.getElem?_of_mem (key_iff.mp kv)
    exact h1 j v (by rw [List.length_map]; have := (List.getElem?_eq_some_iff.mp hj).1; rw [List.length_map] at this; exact this) hj hm
theorem sp_lean (W : Lw c (KK P) sc ns) (U : Own c (KK P)) (H : AH) (x dx hd : Addr) (b n k o : Int) (kvs : List (Int × V)) (tx : Int → List Nat) (rk : Int → Nat) (xs : List Int) (hi : Int) (PA : PackAt H x dx hd b n kvs) (E : Held kvs tx rk) (hk : Key kvs k) (ho : Key kvs o) (hx : IsChain (bases kvs) o xs) (HI : Hi kvs k hi) :
    Fn c 5 (.ref 279) [.ref x, .int k, .int o] H (fun d H' => d = .none ∧ k ∉ xs ∧ hi + xs.length ≤ b ∧ (∃ a e : Nat, Chg (tx o) (tx k) a e ∧ PackAt H' x dx hd b n (dset kvs k (.tup [.int o, .tup [.int a, .s (((tx o).take ((tx o).length - e)).drop a), .s (((tx k).take ((tx k).length - e)).drop a)]]))) ∧ Keeps H H' dx hd)
      (fun C H' => Ext H H' ∧ ((k ∈ xs ∧ C = .ref 61) ∨ (k ∉ xs ∧ b < hi + xs.length ∧ C = .ref 97))) := by
  have hs : 1000000 ≤ sizeLine := by decide
  have few := E.few
  have so := E.short o ho
  have sk := E.short k hk
  refine Fn.gen fun QQ hQQ => ?_
  refine Fn_def W.ok.lim (W.kx 279 _ rfl) rfl rfl (codeRec_of W.kx rfl) rfl (names := ["self", "number", "other"]) (bind3 rfl fun _ _ _ => rfl) rfl (by decide) (fun n => mem3 (.inl rfl) (.inl rfl) (.inl rfl)) rfl rfl rfl fun A L frs hE R O => ?_
  have R1 : Room 1 A := R.le (by exact om279)
  have R2 : Room 2 A := R.le (by exact om280)
  have R3 : Room 3 A := R.le (by exact om281)
  refine Ex_expr (Ev_need W R2 O.frames (Pe_var rfl) (Pe_var rfl) PA hk ⟨no_ref rfl, ?_⟩)
  refine Ex_expr (Ev_need W R2 O.frames (Pe_var rfl) (Pe_var rfl) PA ho ⟨no_ref rfl, ?_⟩)
  refine Ex_assign (Ev_M1 W.kx pc R3 O.frames (Pe_var rfl) PA.i rfl fi_chain ft_chain (W.kx 225 _ rfl) rfl (Pe_var rfl) (Fn.mono (sp_chain W H x dx hd b n o kvs tx rk PA E ho) (fun d H2 z => ?_) fun _ _ z => z.elim)) (.inl rfl)
  refine e2a6 z fun a ys rq262 e2 ha la ch xl => ?_; clear z; obtain rfl := rq262
  have e := ch.uniq hx
  subst e
  have PA2 := PA.ext e2
  refine Ex_ifp (Tp_cmp (Pe_var rfl) (Pe_var rfl) (B_inL la) decide_eq_true_iff) (fun g => ?_) (fun g => ?_)
  · exact Ex_raise W.ok (U.cls _ 61 _ _ rfl (by kernel_rfl)) excBase_ValueError R.handled Pe_str ⟨e2, .inl ⟨g, rfl⟩⟩
  refine Ex_ifp (Tp_cmp (Pe_bin (Ev_M1 W.kx pc R O.frames (Pe_var rfl) PA2.i rfl fi_below ft_below (W.kx 272 _ rfl) rfl (Pe_var rfl) (Fn.mono (sp_below W H2 x dx hd b n k kvs tx rk PA2 E) (fun d H3 z => by obtain ⟨rfl, hi', rfl, h'⟩ := z; exact ⟨congrArg V.int (h'.uniq HI), rfl⟩) fun _ _ z => z.elim)) (Pe_B1 W.ok (gb_len W) (Pe_var rfl) (L_list la (by rw [List.length_map]; exact om272 hs xl))) B_add) (Pe_attr W.kx pc (Pe_var rfl) PA2.i (pk_bound _ _ _) handy_int no_bound) B_gt decide_eq_true_iff) (fun g2 => ?_) (fun g2 => ?_)
  · rw [List.length_map] at g2
    exact Ex_raise W.ok (U.cls _ 97 _ _ rfl (by kernel_rfl)) excBase_ValueError R.handled Pe_str ⟨e2, .inr ⟨g, g2, rfl⟩⟩
  rw [List.length_map] at g2
  refine Ex_store (Ev_tuple (Evs_cons (Pe.ev (Pe_var rfl) (Evs_cons (Ev_F2 W.ok (W.glob rfl) (W.kx 120 _ rfl) rfl R1 O.frames (Ev_M1 W.kx pc R3 O.frames (Pe_var rfl) PA2.i rfl fi_read ft_read (W.kx 211 _ rfl) rfl (Pe_var rfl) (sp_read W H2 x dx hd b n o kvs tx rk PA2 E ho)) (Ev_M1 W.kx pc R3 O.frames (Pe_var rfl) PA2.i rfl fi_read ft_read (W.kx 211 _ rfl) rfl (Pe_var rfl) (sp_read W H2 x dx hd b n k kvs tx rk PA2 E hk)) (Fn.mono (sp_change_of W _ (tx o) (tx k) (by exact om211 so) (by exact om211 sk)) (fun d H3 z => ?_) fun _ _ z => z.elim))))))
  obtain ⟨rfl, ca, ce, C, rfl⟩ := z
  refine Evs_nil ⟨by show 2 ≤ sizeLine; exact om225 hs, ?_⟩
  refine Pe.ev (Pe_attr W.kx pc (Pe_var rfl) PA2.i (pk_held _ _ _) handy_ref no_held) (Pe.ev (Pe_var rfl) ⟨hd, kvs, k, rfl, rfl, PA2.d, by exact om282 hs few, fun o4 => ?_⟩)
  obtain ⟨n1, n2⟩ := PA2.i.ne_dict PA2.d
  exact Ex_nil (hQQ _ _ ⟨rfl, g, by exact om283 g2, ⟨ca, ce, C, PA2.i.ne n1 n2, DictIs.same _ _ _ _⟩, fun y hy hy1 hy2 => (set_ne _ _ hy2).trans (e2 y hy)⟩)
structure Jn (H : AH) (x dx hd ak ta : Addr) (b n : Int) (kvp kv ts : List (Int × V)) (tx : Int → List Nat) (rk : Int → Nat) (u : Nat) : Prop where
  pa : PackAt H x dx hd b n kvp
  sim : Sim kvp kv
  d : DictIs H ak kv
  t : DictIs H ta ts
  E : Held kv tx rk
  EP : Held kvp tx rk
  tt : ∀ k, Key kv k → dget ts k = some (.s (tx k))
  tf : ts.length + u ≤ 40
  sh : ∀ k, Key kv k → (tx k).length + 9 * u ≤ 9000
  few : kv.length + u ≤ 39
  pos : ∀ k, Key kv k → 0 ≤ k ∧ k < n
  b0 : 0 ≤ b
  kh : ak ≠ hd
  th : ta ≠ hd
  kt : ak ≠ ta
theorem pick {kv : List (Int × V)} {s : List Int} (S : Srt kv s) (hne : kv ≠ []) (few : kv.length ≤ 100) (cell : Int) : ∃ k, Key kv k ∧ k ∈ s ∧ ∀ {c : Cx} {f : Fx} {H : AH} {a : Addr}, ListAt H a (s.map V.int) → G2 c f H (.ref a) (.int (cell % ((s.map V.int).length : Nat))) (.int k) := by
  have sl := S.len
  have h0 : 0 < kv.length := List.length_pos_iff.mpr hne
  have i0 : 0 ≤ cell % ((s.map V.int).length : Int) := Int.emod_nonneg _ (by rw [List.length_map]; exact om284 sl h0)
  have i1 : cell % ((s.map V.int).length : Int) < (s.map V.int).length := Int.emod_lt_of_pos _ (by rw [List.length_map]; exact om285 sl h0)
  have il := i1
  rw [List.length_map] at il
  have hlt : (cell % ((s.map V.int).length : Int)).toNat < s.length := by rw [List.length_map]; rw [List.length_map] at i0; exact om286 sl h0 il
  refine ⟨s[(cell % ((s.map V.int).length : Int)).toNat], S.mem.mp (List.getElem_mem _), List.getElem_mem _, fun l => G_list l (seqIndex_pos i0 i1) (map_item' (List.getElem?_eq_getElem hlt)) ?_⟩
  rw [List.length_map] at i0 i1 ⊢
  exact om287 few sl i0 i1
theorem Sim.symm {kvs kvs' : List (Int × V)} (h : Sim kvs kvs') : Sim kvs' kvs := fun k => (h k).symm
def Pair (c : Cx) (G : AH) (d : V) : Prop := ∃ q a1 a2 l1 l2, d = .ref q ∧ ListAt G q [.ref a1, .ref a2] ∧ ListAt G a1 l1 ∧ ListAt G a2 l2 ∧ l1.length = l2.length ∧ ∀ (j : Nat) d₁ d₂, l1[j]? = some d₁ → l2[j]? = some d₂ → Alike c G 4 d₁ d₂
theorem Pair.ext {G G' : AH} {d : V} (p : Pair c G d) (e : Ext G G') : Pair c G' d := by
  refine e5a6 p fun q a1 a2 l1 l2 h1 h2 h3 h4 h5 h6 => ?_; clear p
  exact ⟨q, a1, a2, l1, l2, h1, e.list h2, e.list h3, e.list h4, h5, fun j d₁ d₂ g₁ g₂ => (h6 j d₁ d₂ g₁ g₂).ext e⟩
theorem base_eqA {kv : List (Int × V)} {tx : Int → List Nat} {rk : Int → Nat} (E : Held kv tx rk) {s : List Int} (S : Srt kv s) : ∀ d ∈ (bases (Mine.heldOf kv s)).map (·.2), EqA 0 d d true := fun d hd => by
  unfold bases Mine.heldOf at hd
  rw [List.map_map, List.map_map, List.mem_map] at hd
  refine e1a2 hd fun k hk rq263 => ?_; clear hd; obtain rfl := rq263
  have ent := E.ent k _ (dgetD_key (S.mem.mp hk))
  show EqA 0 (base0 (dgetD kv k)) (base0 (dgetD kv k)) true
  generalize dgetD kv k = d0 at ent
  cases ent with
  | root => exact EqA.none
  | lean bb at_ gone come hbb hlt stp => show EqA 0 (.int bb) (.int bb) true; simpa using EqA.int bb bb
theorem alike_ints {G : AH} {l : List Int} : ∀ (j : Nat) d₁ d₂, (l.map V.int)[j]? = some d₁ → (l.map V.int)[j]? = some d₂ → Alike c G 3 d₁ d₂ := fun j d₁ d₂ h₁ h₂ => by
  rw [h₁] at h₂; cases h₂
  refine e1a2 (map_item h₁) fun v _ rq264 => ?_; obtain rfl := rq264
  exact Alike.int _ _
theorem fi_turn : findIn (KK P) (.ref 287) (Str.ofString "turn") = some (some (.ref 258)) := by kernel_rfl
theorem ft_turn : typeIn (KK P) (.ref 258) = some (.type "function") := by kernel_rfl
theorem fi_root : findIn (KK P) (.ref 287) (Str.ofString "root") = some (some (.ref 265)) := by kernel_rfl
theorem ft_root : typeIn (KK P) (.ref 265) = some (.type "function") := by kernel_rfl
theorem sp_turn (W : Lw c (KK P) sc ns) (H : AH) (x dx hd : Addr) (b n k : Int) (kvs : List (Int × V)) (tx : Int → List Nat) (rk : Int → Nat) (xs : List Int) (PA : PackAt H x dx hd b n kvs) (E : Held kvs tx rk) (hk : Key kvs k) (hx : IsChain (bases kvs) k xs) :
    Fn c 4 (.ref 258) [.ref x, .int k] H (fun d H' => d = .none ∧ (∃ kvs', PackAt H' x dx hd b n kvs' ∧ TurnOf kvs kvs' xs (tx k)) ∧ Keeps H H' dx hd) (fun _ _ => False) := by
  have hs : 1000000 ≤ sizeLine := by decide
  have few := E.few
  refine Fn.gen fun QQ hQQ => ?_
  refine Fn_def W.ok.lim (W.kx 258 _ rfl) rfl rfl (codeRec_of W.kx rfl) rfl (names := ["self", "number"]) (bind2 rfl fun _ _ => rfl) rfl (by decide) (fun n => mem2 (.inl rfl) (.inl rfl)) rfl rfl rfl fun A L frs hE R O => ?_
  have R1 : Room 1 A := R.le (by exact om234)
  refine Ex_assign (Ev_tuple (Evs_cons (Pe.ev Pe_none (Evs_cons (Ev_M1 W.kx pc R O.frames (Pe_var rfl) PA.i rfl fi_read ft_read (W.kx 211 _ rfl) rfl (Pe_var rfl) (Fn.mono (sp_read W H x dx hd b n k kvs tx rk PA E hk) (fun d H1 z => ?_) fun _ _ z => z.elim)))))) (.inl rfl)
  obtain ⟨rfl, rfl⟩ := z
  refine Evs_nil ⟨by show 2 ≤ sizeLine; exact om225 hs, ?_⟩
  refine Ex_for O (EvIt_list R.handled (Ev_M1 W.kx pc R O.frames (Pe_var rfl) PA.i rfl fi_chain ft_chain (W.kx 225 _ rfl) rfl (Pe_var rfl) (Fn.mono (sp_chain W H1 x dx hd b n k kvs tx rk PA E hk) (fun d H2 z => ?_) fun _ _ z => z.elim))) (.inl rfl)
  refine e2a6 z fun a ys rq265 e2 ha la ch yl => ?_; clear z; obtain rfl := rq265
  have e := ch.uniq hx
  subst e
  have PA2 := PA.ext e2
  have ahd : a ≠ hd := la.ne_dict PA2.d
  refine ⟨a, _, rfl, la, fun i m' H' => m' (Str.ofString "self") = some (.ref x) ∧ (i < ys.length → m' (Str.ofString "entry") = some (tent kvs ys (tx k) i)) ∧ (∀ z, z ≠ hd → H' z = H2 z) ∧ ∃ kv', PackAt H' x dx hd b n kv' ∧ TurnAt kvs kv' ys (tx k) (· < i), ⟨rfl, fun _ => rfl, fun _ _ => rfl, kvs, PA2, .start fun j => by exact om185⟩, ?_, ?_⟩
  · rintro i d m' H' kp hdd rz28 tr; refine e0a4 rz28 fun ms me kps rq266 => ?_; clear rz28; refine e1a2 rq266 fun kv' PA' T => ?_; clear rq266
    refine e1a2 (map_item hdd) fun v hv rq267 => ?_; obtain rfl := rq267
    have hlt := (List.getElem?_eq_some_iff.mp hv).1
    have me := me hlt
    have kv : Key kvs v := key_bases.mp (hx.keys v (List.mem_of_getElem? hv))
    have off : dget kv' v = dget kvs v := T.off v fun j hj q => by
      obtain ⟨h1, q1⟩ := List.getElem?_eq_some_iff.mp q
      obtain ⟨h2, q2⟩ := List.getElem?_eq_some_iff.mp hv
      have := (List.getElem_inj (h₀ := h1) (h₁ := h2) hx.nodup).mp (q1.trans q2.symm)
      exact om288 hj this
    have ln : kv'.length = kvs.length := by have := congrArg List.length T.keys; simpa using this
    have T' := T.step (D' := fun j => j < i + 1) hx.nodup hv kv fun j _ => by exact om289
    have ent := E.ent v _ (dgetD_key kv)
    have gv : dget kv' v = some (dgetD kvs v) := off.trans (dgetD_key kv)
    have nx : dget (bases kvs) v = some (optV ys[i + 1]?) := hx.next i v hv
    rw [dget_bases, dgetD_key kv] at nx
    have gt : ys.getD i 0 = v := getD_at hv
    have ht : tent kvs ys (tx k) (i + 1) = flip v (dgetD kvs v) := by simp only [tent, gt]
    refine Ex_assign (Pe.ev (Pe_sub (Pe_attr W.kx pc (Pe_var ms) PA'.i (pk_held _ _ _) handy_ref no_held) (Pe_var rfl) (G_dict PA'.d gv)) ?_) (.inl rfl)
    refine Ex_store (Pe.ev (Pe_var me) (Pe.ev (Pe_attr W.kx pc (Pe_var ms) PA'.i (pk_held _ _ _) handy_ref no_held) (Pe.ev (Pe_var rfl) ⟨hd, kv', v, rfl, rfl, PA'.d, by exact om222 hs few ln, fun o4 => ?_⟩)))
    obtain ⟨n1, n2⟩ := PA'.i.ne_dict PA'.d
    have PA4 : PackAt (H'.set hd ⟨o4, .dict (dset kv' v (tent kvs ys (tx k) i))⟩) x dx hd b n (dset kv' v (tent kvs ys (tx k) i)) := ⟨PA'.i.ne n1 n2, DictIs.same _ _ _ _⟩
    have k4 : ∀ z, z ≠ hd → (H'.set hd ⟨o4, .dict (dset kv' v (tent kvs ys (tx k) i))⟩) z = H2 z := fun z hz => (set_ne _ _ hz).trans (kps z hz)
    generalize H'.set hd ⟨o4, .dict (dset kv' v (tent kvs ys (tx k) i))⟩ = H4 at PA4 k4 ⊢
    generalize dgetD kvs v = d0 at ent gv nx ht
    cases ent with
    | root =>
      refine Ex_ifp (Tp_isNotNone (Pe_sub (Pe_var rfl) Pe_int (G_tup (d := .none) (j := 0) rfl rfl (by decide)))) (fun g => (g rfl).elim) (fun _ => ?_)
      refine Ex_nil ⟨⟨ms, fun h => ?_, k4, _, PA4, T'⟩, fun y hy => by rw [List.mem_singleton] at hy; subst hy; exact k4 _ ahd⟩
      rw [List.getElem?_eq_getElem h] at nx; cases nx
    | lean bb at_ gone come hbb hlt2 stp =>
      refine Ex_ifp (Tp_isNotNone (Pe_sub (Pe_var rfl) Pe_int (G_tup (d := .int bb) (j := 0) rfl rfl (by decide)))) (fun _ => ?_) (fun g => (g (fun z => nomatch z)).elim)
      refine Ex_assign (Ev_tuple (Evs_cons (Pe.ev (Pe_var rfl) (Evs_cons (Ev_F1 W.ok (W.glob rfl) (W.kx 113 _ rfl) rfl R1 O.frames (Pe_sub (Pe_var rfl) Pe_int (G_tup (d := chg at_ gone come) (j := 1) rfl rfl (by decide))) (Fn.mono (sp_turned W H4 _ _ _) (fun d H5 z => ?_) fun _ _ z => z.elim)))))) (.inl rfl)
      obtain ⟨rfl, rfl⟩ := z
      refine Evs_nil ⟨by show 2 ≤ sizeLine; exact om225 hs, ?_⟩
      exact Ex_nil ⟨⟨ms, fun h => by rw [ht]; rfl, k4, _, PA4, T'⟩, fun y hy => by rw [List.mem_singleton] at hy; subst hy; exact k4 _ ahd⟩
  · rintro m' H' rz29 _; refine e0a4 rz29 fun ms me kps rq268 => ?_; clear rz29; refine e1a2 rq268 fun kv' PA' T => ?_; clear rq268
    refine Ex_nil (hQQ _ _ ⟨rfl, ⟨kv', PA', T.all fun j hj => by rw [List.length_map]; exact hj⟩, fun z hz _ z2 => (kps z z2).trans (e2 z hz)⟩)
structure Rch (kvs : List (Int × V)) (pt : Int → List Int) (u : Int) (M : Int) : Prop where
  at_ : ∃ v, Key kvs v ∧ Same pt u v ∧ M = ds pt u v
  le : ∀ v, Key kvs v → Same pt u v → (ds pt u v : Int) ≤ M
theorem Rch.uniq {kvs kvs' : List (Int × V)} {pt : Int → List Int} {u M M' : Int} (h : Rch kvs pt u M) (h' : Rch kvs' pt u M') (s : Sim kvs kvs') : M = M' := by
  refine e1a3 (h.at_) fun v k1 s1 e1 => ?_
  refine e1a3 (h'.at_) fun v' k2 s2 e2 => ?_
  have := h.le v' (s.key.mpr k2) s2
  have := h'.le v (s.key.mp k1) s1
  exact om290 e1 e2 (by assumption) this
theorem Paths.sim {kvs kvs' : List (Int × V)} {pt : Int → List Int} (PT : Paths kvs pt) (s : Sim kvs kvs') : Paths kvs' pt where
  root := fun v h => PT.root v ((s v).trans h)
  step := fun v b h => PT.step v b ((s v).trans h)
  key := fun v d h => by
    rcases PT.key v d ((s v).trans h) with e | ⟨b, d', e, h'⟩
    · exact .inl e
    · exact .inr ⟨b, d', e, (s b).symm.trans h'⟩
  len := fun v d h => PT.len v d ((s v).trans h)
theorem sp_root (W : Lw c (KK P) sc ns) (U : Own c (KK P)) (H : AH) (x dx hd : Addr) (b n k : Int) (kvs : List (Int × V)) (tx : Int → List Nat) (rk : Int → Nat) (xs : List Int) (pt : Int → List Int) (M : Int) (PA : PackAt H x dx hd b n kvs) (E : Held kvs tx rk) (hk : Key kvs k) (hx : IsChain (bases kvs) k xs) (PT : Paths (bases kvs) pt) (HR : Rch (bases kvs) pt k M) :
    Fn c 5 (.ref 265) [.ref x, .int k] H (fun d H' => d = .none ∧ M ≤ b ∧ (∃ kvs', PackAt H' x dx hd b n kvs' ∧ TurnOf kvs kvs' xs (tx k)) ∧ Keeps H H' dx hd) (fun C H' => Ext H H' ∧ b < M ∧ C = .ref 97) := by
  have hs : 1000000 ≤ sizeLine := by decide
  have few := E.few
  refine Fn_def W.ok.lim (W.kx 265 _ rfl) rfl rfl (codeRec_of W.kx rfl) rfl (names := ["self", "number"]) (bind2 rfl fun _ _ => rfl) rfl (by decide) (fun n => mem2 (.inl rfl) (.inl rfl)) rfl rfl rfl fun A L frs hE R O => ?_
  have R1 : Room 1 A := R.le (by exact om279)
  have R2 : Room 2 A := R.le (by exact om280)
  refine Ex_expr (Ev_need W R2 O.frames (Pe_var rfl) (Pe_var rfl) PA hk ⟨no_ref rfl, ?_⟩)
  refine Ex_ifp (Tp_cmp (Pe.of_ext (d := .int M) (Ev_F2e W.ok (W.glob rfl) (W.kx 155 _ rfl) rfl R2 O.frames (Ev_M0 W.kx pc R1 O.frames (Pe_var rfl) PA.i rfl fi_bases ft_bases (W.kx 239 _ rfl) rfl (Fn.mono (sp_bases W H x dx hd b n kvs tx rk PA E) (fun d H2 z => ?_) fun _ _ z => z.elim)))) (Pe_attr W.kx pc (Pe_var rfl) PA.i (pk_bound _ _ _) handy_int no_bound) B_gt decide_eq_true_iff) (fun g => ?_) (fun g => ?_)
  · refine e2a5 z fun a srt rq269 e1 ha S D => ?_; clear z; obtain rfl := rq269
    have sm : Sim (bases kvs) (bases (Mine.heldOf kvs srt)) := (Sim.symm (heldOf_sim S)).bases
    refine (Pe_var rfl).ev (Fn.mono (sp_reach W H2 a _ pt k D (PT.sim sm) (by rw [keys_bases, keys_heldOf]; exact S.nd E.nd) (by unfold bases Mine.heldOf; rw [List.length_map, List.length_map, S.len]; exact om291 few) (sm.key.mp (key_bases.mpr hk))) (fun d H3 z => ?_) fun _ _ z => z.elim)
    refine e1a4 z fun M' rq270 e3 h1 h2 => ?_; clear z; obtain rfl := rq270
    exact ⟨congrArg V.int ((HR.uniq ⟨h1, h2⟩ sm).symm), e1.trans e3⟩
  · exact Ex_raise W.ok (U.cls _ 97 _ _ rfl (by kernel_rfl)) excBase_ValueError R.handled Pe_str ⟨Ext.refl _, by exact om292 g, rfl⟩
  · refine Ex_expr (Ev_M1 W.kx pc R O.frames (Pe_var rfl) PA.i rfl fi_turn ft_turn (W.kx 258 _ rfl) rfl (Pe_var rfl) (Fn.mono (sp_turn W H x dx hd b n k kvs tx rk xs PA E hk hx) (fun d H2 z => ?_) fun _ _ z => z.elim))
    refine e0a3 z fun rq271 h1 h2 => ?_; clear z; obtain rfl := rq271
    exact ⟨no_ref rfl, Ex_nil ⟨rfl, by exact om39 g, h1, h2⟩⟩
theorem sp_store_far (W : Lw c (KK P) sc ns) (H : AH) (x dx hd : Addr) (b n o : Int) (kvs : List (Int × V)) (tx : Int → List Nat) (rk : Int → Nat) (l : List Nat) (xs : List Int) (PA : PackAt H x dx hd b n kvs) (E : Held kvs tx rk) (few : kvs.length < 40) (hl : l.length ≤ 20000) (hn : ¬ Key kvs n) (ho : Key kvs o) (hx : IsChain (bases kvs) o xs) (hb : b < (xs.length : Int)) :
    Fn c 5 (.ref 204) [.ref x, .s l, .int o] H (fun d H' => d = .int n ∧ (∃ kvs', PackAt H' x dx hd b (n + 1) kvs' ∧ Stored kvs kvs' tx b n l (.int o)) ∧ Keeps H H' dx hd) (fun _ _ => False) := by
  have hs : 1000000 ≤ sizeLine := by decide
  have so := E.short o ho
  refine Fn.gen fun QQ hQQ => ?_
  refine Fn_def W.ok.lim (W.kx 204 _ rfl) rfl rfl (codeRec_of W.kx rfl) rfl (names := ["self", "text", "beside"]) (bind3 rfl fun _ _ _ => rfl) rfl (by decide) (fun n => mem3 (.inl rfl) (.inl rfl) (.inl rfl)) rfl rfl rfl fun A L frs hE R O => ?_
  have R1 : Room 1 A := R.le (by exact om279)
  have R3 : Room 3 A := R.le (by exact om281)
  have R2 : Room 2 A := R.le (by exact om280)
  refine Ex_assign (Pe.ev (Pe_tuple (Pes_cons Pe_none (Pes_cons (Pe_var rfl) Pes_nil)) (by show 2 ≤ sizeLine; exact om225 hs)) ?_) (.inl rfl)
  refine Ex_ifp (Tp_isNotNone (Pe_var rfl)) (fun _ => ?_) (fun g => (g (fun z => nomatch z)).elim)
  refine Ex_expr (Ev_need W R2 O.frames (Pe_var rfl) (Pe_var rfl) PA ho ⟨no_ref rfl, ?_⟩)
  refine Ex_assign (Ev_tuple (Evs_cons (Pe.ev (Pe_var rfl) (Evs_cons (Ev_F2e W.ok (W.glob rfl) (W.kx 120 _ rfl) rfl R1 O.frames (Ev_M1 W.kx pc R3 O.frames (Pe_var rfl) PA.i rfl fi_read ft_read (W.kx 211 _ rfl) rfl (Pe_var rfl) (Fn.mono (sp_read W H x dx hd b n o kvs tx rk PA E ho) (fun d H1 z => ?_) fun _ _ z => z.elim))))))) (.inl rfl)
  obtain ⟨rfl, rfl⟩ := z
  refine (Pe_var rfl).ev (Fn.mono (sp_change_of W _ (tx o) l (by exact om211 so) (by exact om211 hl)) (fun d H1 z => ?_) fun _ _ z => z.elim)
  obtain ⟨rfl, a, e, C, rfl⟩ := z
  refine Evs_nil ⟨by show 2 ≤ sizeLine; exact om225 hs, ?_⟩
  have st := C.step (Nat.le_refl a)
  rw [List.drop_eq_nil_of_le (by rw [List.length_take]; exact om146), List.nil_append, List.nil_append] at st
  obtain ⟨en, hen⟩ : ∃ en : V, en = .tup [.int o, .tup [.int a, .s (((tx o).take ((tx o).length - e)).drop a), .s ((l.take (l.length - e)).drop a)]] := ⟨_, rfl⟩
  have hb0 : base0 en = .int o := by rw [hen]; rfl
  refine Ex_assign (Pe.ev (Pe_attr W.kx pc (Pe_var rfl) PA.i (pk_coming _ _ _) handy_int no_coming) ?_) (.inl rfl)
  refine Ex_assign (Ev_M0 W.kx pc R1 O.frames (Pe_var rfl) PA.i rfl fi_bases ft_bases (W.kx 239 _ rfl) rfl (Fn.mono (sp_bases W H1 x dx hd b n kvs tx rk PA E) (fun d H2 z => ?_) fun _ _ z => z.elim)) (.inl rfl)
  refine e2a5 z fun ba srt rq272 e1 ha S D => ?_; clear z; obtain rfl := rq272
  have hnh : ¬ Key (Mine.heldOf kvs srt) n := fun q => hn ((heldOf_sim S).key.mp q)
  have hnk : n ∉ (bases (Mine.heldOf kvs srt)).map (·.1) := by rw [keys_bases]; exact fun q => hnh (key_iff.mpr q)
  have sl := S.len
  refine Ex_store (Pe.ev (Pe_var rfl) (Pe.ev (Pe_var rfl) (Pe.ev (Pe_var rfl) ⟨ba, _, n, rfl, rfl, D, by unfold bases Mine.heldOf; rw [List.length_map, List.length_map]; exact om226 few hs sl, fun o1 => ?_⟩)))
  rw [dset_new hnk]
  have e2 : Ext H1 (H2.set ba ⟨o1, .dict (bases (Mine.heldOf kvs srt) ++ [(n, .int o)])⟩) := Ext.upd e1 ha
  have D2 : DictIs (H2.set ba ⟨o1, .dict (bases (Mine.heldOf kvs srt) ++ [(n, .int o)])⟩) ba (bases (Mine.heldOf kvs srt) ++ [(n, .int o)]) := DictIs.same _ _ _ _
  generalize H2.set ba ⟨o1, .dict (bases (Mine.heldOf kvs srt) ++ [(n, .int o)])⟩ = H3 at e2 D2 ⊢
  have PA2 := PA.ext e2
  refine Ex_assign (Pe.ev Pe_none ?_) (.inl rfl)
  have EH := E.heldOf S
  have hoh : Key (Mine.heldOf kvs srt) o := (heldOf_sim S).key.mpr ho
  obtain ⟨rk2, E2⟩ := EH.put_lean hnh hoh (by unfold Mine.heldOf; rw [List.length_map]; exact om227 few sl) hl st
  have wd : Wood (bases (Mine.heldOf kvs srt) ++ [(n, .int o)]) rk2 := by
    have := E2.wood (by simp)
    rw [bases_put] at this; exact this
  have g0 : dget (bases (Mine.heldOf kvs srt) ++ [(n, V.int o)]) n = some (.int o) := by rw [dget_snoc hnk, if_pos rfl]
  have simr : Sim kvs (Mine.heldOf kvs srt) := fun k => (heldOf_sim S k).symm
  have hx2 : IsChain (bases (Mine.heldOf kvs srt) ++ [(n, .int o)]) n (n :: xs) := .step g0 ((simr.bases.chain hx).keep fun y hy => dget_put (fun q => hnh (key_bases.mp q)) y hy)
  refine Ex_ifp (Tp_cmp (Pe_bin (Pe.of_ext (d := .int ((xs.length : Int) + 1)) (Ev_B1e W.ok (gb_len W) (Ev_F2 W.ok (W.glob rfl) (W.kx 127 _ rfl) rfl R1 O.frames (Pe_var rfl) (Pe_var rfl) (Fn.mono (sp_chain_of W H3 ba _ rk2 n (.int o) D2 wd g0) (fun d H4 z => ?_) fun _ _ z => z.elim)))) Pe_int B_sub) (Pe_attr W.kx pc (Pe_var rfl) PA2.i (pk_bound _ _ _) handy_int no_bound) B_gt decide_eq_true_iff) (fun _ => ?_) (fun g => absurd g (by exact om293 hb))
  · refine e3a5 z fun a3 o3 ys rq273 h3 rq274 ch xl => ?_; clear z; obtain rfl := rq273; obtain rfl := rq274
    have hy := ch.uniq hx2
    subst hy
    exact (L_list (ListAt.same _ _ _ _) (by rw [List.length_map]; exact om272 hs xl)).op ⟨congrArg V.int (by rw [List.length_map, List.length_cons]; exact om199), Ext.set (Ext.refl _) h3⟩
  refine e1a2 (wd.paths) fun pt PT hpt => ?_
  have kbn : ((bases (Mine.heldOf kvs srt) ++ [(n, V.int o)]).map (·.1)).Nodup := by
    have := E2.nd
    rw [← keys_bases, bases_put] at this; exact this
  have kbl : (bases (Mine.heldOf kvs srt) ++ [(n, V.int o)]).length ≤ 40 := by
    rw [List.length_append]; unfold bases Mine.heldOf; rw [List.length_map, List.length_map]; simp; exact om294 few sl
  have sk : Sim (bases (Mine.heldOf kvs srt) ++ [(n, V.int o)]) (bases kvs ++ [(n, .int o)]) := (heldOf_sim S).bases.put fun q => hn (key_bases.mp q)
  have PT' := PT.sim sk
  have hpt' : ∀ v ys, IsChain (bases kvs ++ [(n, .int o)]) v ys → pt v = ys.reverse := fun v ys h => hpt v ys ((Sim.symm sk).chain h)
  refine Ex_assign (Ev_F2 W.ok (W.glob rfl) (W.kx 162 _ rfl) rfl R2 O.frames (Pe_var rfl) (Pe_var rfl) (Fn.mono (sp_middle W H3 ba _ pt n D2 PT kbn kbl ⟨_, g0⟩) (fun d H4 z => ?_) fun _ _ z => z.elim)) (.inl rfl)
  refine e2a6 z fun mid Ec rq275 e4 km smid ecc best => ?_; clear z; obtain rfl := rq275
  have M : Mid (bases (Mine.heldOf kvs srt) ++ [(n, V.int o)]) pt n mid Ec := ⟨km, smid, ecc, best⟩
  refine Ex_if (Ts_cmp (Ev_F2 W.ok (W.glob rfl) (W.kx 155 _ rfl) rfl R2 O.frames (Pe_var rfl) (Pe_var rfl) (Fn.mono (sp_reach W H4 ba _ pt mid (e4.dict D2) PT kbn kbl km) (fun d H5 z => ?_) fun _ _ z => z.elim)))
  refine e1a4 z fun Mr rq276 e5 rq277 le1 => ?_; clear z; obtain rfl := rq276; obtain ⟨v1, kv1, sv1, hv1⟩ := rq277
  have hMr : Mr = Ec mid := by
    obtain ⟨⟨w, kw, sw, ew⟩, q⟩ := ecc mid km smid
    have h1 := q v1 kv1 (smid.trans sv1)
    have h2 := le1 w kw (smid.symm.trans sw)
    exact om295 hv1 ew h1 h2
  subst hMr
  have e25 : Ext H1 H5 := (e2.trans e4).trans e5
  have PA5 := PA.ext e25
  clear e4 e5 PA2 D2 e2
  have hnk2 : n ∉ kvs.map (·.1) := fun q => hn (key_iff.mpr q)
  obtain ⟨n1, n2⟩ := PA5.i.ne_dict PA5.d
  refine (Pe_attr W.kx pc (Pe_var rfl) PA5.i (pk_bound _ _ _) handy_int no_bound).ev (B_gt.op ⟨_, rfl, fun hgt => ?_, fun hle => ?_⟩)
  · have hgt : b < (Ec mid : Int) := by simpa using hgt
    refine Ex_assign (Pe.ev Pe_none ?_) (.inl rfl)
    refine Ex_assign (Pe.ev (Pe_tuple (Pes_cons Pe_none (Pes_cons (Pe_var rfl) Pes_nil)) (by show 2 ≤ sizeLine; exact om225 hs)) ?_) (.inl rfl)
    refine Ex_store (Pe.ev (Pe_var rfl) (Pe.ev (Pe_attr W.kx pc (Pe_var rfl) PA5.i (pk_held _ _ _) handy_ref no_held) (Pe.ev (Pe_var rfl) ⟨hd, kvs, n, rfl, rfl, PA5.d, by exact om229 few hs, fun o4 => ?_⟩)))
    rw [dset_new hnk2]
    have I3 := PA5.i.ne (y := ⟨o4, .dict (kvs ++ [(n, .tup [.none, .s l])])⟩) n1 n2
    have D3 : DictIs (H5.set hd ⟨o4, .dict (kvs ++ [(n, .tup [.none, .s l])])⟩) hd (kvs ++ [(n, .tup [.none, .s l])]) := DictIs.same _ _ _ _
    have k3 : ∀ a, a ≠ hd → (H5.set hd ⟨o4, .dict (kvs ++ [(n, .tup [.none, .s l])])⟩) a = H5 a := fun a h => set_ne _ _ h
    generalize H5.set hd ⟨o4, .dict (kvs ++ [(n, .tup [.none, .s l])])⟩ = H6 at I3 D3 k3 ⊢
    refine Ex_setattr W.kx pc (Pe.ev (Pe_bin (Pe_var rfl) Pe_int B_add) (Pe.ev (Pe_var rfl) ⟨x, dx, _, pk (.int b) (.ref hd) (.int (n + 1)), rfl, I3, (by show 3 ≤ 1000; decide), pk_set_coming _ _ _ _, fun od => ?_⟩)) tk_coming
    refine Ex_ifp (Tp_isNotNone (Pe_var rfl)) (fun g => (g rfl).elim) (fun _ => ?_)
    have PF : PackAt (H6.set dx ⟨od, .attrs (pk (.int b) (.ref hd) (.int (n + 1)))⟩) x dx hd b (n + 1) (kvs ++ [(n, .tup [.none, .s l])]) := by
      obtain ⟨⟨o', q⟩, _⟩ := id I3
      exact ⟨⟨⟨o', (set_ne _ _ I3.apart).trans q⟩, od, set_same _ _ _⟩, D3.ne n2.symm⟩
    refine Ex_ret (Pe.ev (Pe_var rfl) (hQQ _ _ ⟨rfl, ⟨_, PF, .far o xs pt mid Ec hx hb PT' hpt' (M.sim sk) hgt rfl⟩, fun y hy hy1 hy2 => ?_⟩))
    rw [set_ne _ _ hy1, k3 y hy2, e25 y hy]
  · have hle : (Ec mid : Int) ≤ b := by simpa using hle
    obtain ⟨rk1, E1⟩ := E.put_lean hn ho few hl st
    have hen' : en = V.tup [.int o, chg a (((tx o).take ((tx o).length - e)).drop a) ((l.take (l.length - e)).drop a)] := hen
    rw [← hen'] at E1
    have kmid : Key (kvs ++ [(n, en)]) mid := by
      have := (M.sim sk).key
      rw [show bases kvs ++ [(n, V.int o)] = bases (kvs ++ [(n, en)]) by rw [bases_put, hb0]] at this
      exact key_bases.mp this
    refine e1a2 (E1.chain kmid) fun zs hz _ => ?_
    refine Ex_store (Pe.ev (Pe_var rfl) (Pe.ev (Pe_attr W.kx pc (Pe_var rfl) PA5.i (pk_held _ _ _) handy_ref no_held) (Pe.ev (Pe_var rfl) ⟨hd, kvs, n, rfl, rfl, PA5.d, by exact om229 few hs, fun o4 => ?_⟩)))
    rw [dset_new hnk2, ← hen]
    have I3 := PA5.i.ne (y := ⟨o4, .dict (kvs ++ [(n, en)])⟩) n1 n2
    have D3 : DictIs (H5.set hd ⟨o4, .dict (kvs ++ [(n, en)])⟩) hd (kvs ++ [(n, en)]) := DictIs.same _ _ _ _
    have k3 : ∀ a, a ≠ hd → (H5.set hd ⟨o4, .dict (kvs ++ [(n, en)])⟩) a = H5 a := fun a h => set_ne _ _ h
    generalize H5.set hd ⟨o4, .dict (kvs ++ [(n, en)])⟩ = H6 at I3 D3 k3 ⊢
    refine Ex_setattr W.kx pc (Pe.ev (Pe_bin (Pe_var rfl) Pe_int B_add) (Pe.ev (Pe_var rfl) ⟨x, dx, _, pk (.int b) (.ref hd) (.int (n + 1)), rfl, I3, (by show 3 ≤ 1000; decide), pk_set_coming _ _ _ _, fun od => ?_⟩)) tk_coming
    have PF : PackAt (H6.set dx ⟨od, .attrs (pk (.int b) (.ref hd) (.int (n + 1)))⟩) x dx hd b (n + 1) (kvs ++ [(n, en)]) := by
      obtain ⟨⟨o', q⟩, _⟩ := id I3
      exact ⟨⟨⟨o', (set_ne _ _ I3.apart).trans q⟩, od, set_same _ _ _⟩, D3.ne n2.symm⟩
    have k7 : ∀ y, H1 y ≠ none → y ≠ dx → y ≠ hd → (H6.set dx ⟨od, .attrs (pk (.int b) (.ref hd) (.int (n + 1)))⟩) y = H1 y := fun y hy hy1 hy2 => by rw [set_ne _ _ hy1, k3 y hy2, e25 y hy]
    generalize H6.set dx ⟨od, .attrs (pk (.int b) (.ref hd) (.int (n + 1)))⟩ = H7 at PF k7 ⊢
    refine Ex_ifp (Tp_isNotNone (Pe_var rfl)) (fun _ => ?_) (fun g => (g fun z => nomatch z).elim)
    refine Ex_expr (Ev_M1 W.kx pc R O.frames (Pe_var rfl) PF.i rfl fi_turn ft_turn (W.kx 258 _ rfl) rfl (Pe_var rfl) (Fn.mono (sp_turn W H7 x dx hd b (n + 1) mid _ _ rk1 zs PF E1 kmid hz) (fun d H8 z => ?_) fun _ _ z => z.elim))
    refine e0a3 z fun rq278 rq279 kp8 => ?_; clear z; obtain rfl := rq278; obtain ⟨kvs', PA8, T⟩ := rq279
    refine ⟨no_ref rfl, Ex_ret (Pe.ev (Pe_var rfl) (hQQ _ _ ⟨rfl, ⟨kvs', PA8, ?_⟩, fun y hy hy1 hy2 => ?_⟩))⟩
    · rw [hen] at hz T
      exact .turned o a e xs pt mid Ec zs C hx hb PT' hpt' (M.sim sk) hle hz T
    · have := k7 y hy hy1 hy2
      rw [kp8 y (by rw [this]; exact hy) hy1 hy2, this]
theorem sp_store (W : Lw c (KK P) sc ns) (H : AH) (x dx hd : Addr) (b n : Int) (bes : V) (kvs : List (Int × V)) (tx : Int → List Nat) (rk : Int → Nat) (l : List Nat) (PA : PackAt H x dx hd b n kvs) (E : Held kvs tx rk) (few : kvs.length < 40) (hl : l.length ≤ 20000) (hn : ¬ Key kvs n) (h0 : 0 ≤ b) (hbes : bes = .none ∨ ∃ o, bes = .int o ∧ Key kvs o) :
    Fn c 5 (.ref 204) [.ref x, .s l, bes] H (fun d H' => d = .int n ∧ (∃ kvs', PackAt H' x dx hd b (n + 1) kvs' ∧ Stored kvs kvs' tx b n l bes) ∧ Keeps H H' dx hd) (fun _ _ => False) := by
  rcases hbes with rfl | ⟨o, rfl, ho⟩
  · exact Fn.le (Fn.mono (sp_store_none W H x dx hd b n kvs tx rk l PA E few hl hn h0) (fun d H' z => ⟨z.1, ⟨_, z.2.1, .none rfl⟩, z.2.2⟩) fun _ _ z => z) (by exact om296)
  · refine e1a2 (E.chain ho) fun xs hx _ => ?_
    by_cases hb : (xs.length : Int) ≤ b
    · refine Fn.le (Fn.mono (sp_store_lean W H x dx hd b n o kvs tx rk l xs PA E few hl hn ho hx hb) (fun d H' z => ?_) fun _ _ z => z) (by exact om297)
      refine e0a3 z fun z1 rq280 z3 => ?_; clear z; obtain ⟨a, e, C, PF⟩ := rq280
      exact ⟨z1, ⟨_, PF, .lean o a e xs C hx hb rfl⟩, z3⟩
    · exact sp_store_far W H x dx hd b n o kvs tx rk l xs PA E few hl hn ho hx (by exact om298 hb)
theorem fi_forget : findIn (KK P) (.ref 287) (Str.ofString "forget") = some (some (.ref 284)) := by kernel_rfl
theorem ft_forget : typeIn (KK P) (.ref 284) = some (.type "function") := by kernel_rfl
theorem gb_zip (W : Lw c (KK P) sc ns) : GN c (Str.ofString "zip") (.type "zip") := W.blt rfl (by decide) bt_zip
theorem safe_set {m : Loc} {x : Str} {d : V} (h : ∀ y d, m y = some d → SafeV d) (hd : SafeV d) : ∀ y d', (m.set x d) y = some d' → SafeV d' := fun y d' e => by
  unfold Loc.set at e
  split at e
  · cases e; exact hd
  · exact h y d' e
theorem safe_loc2 {x y : Str} {a b : V} (ha : SafeV a) (hb : SafeV b) : ∀ z d, (locOf [x, y] [a, b]) z = some d → SafeV d := fun z d e => by
  have := lookup_mem e
  simp only [List.zip_cons_cons, List.zip_nil_right, List.mem_cons, List.not_mem_nil, or_false, Prod.mk.injEq] at this
  rcases this with ⟨_, rfl⟩ | ⟨_, rfl⟩
  · exact ha
  · exact hb
theorem dset_safe {kvs : List (Int × V)} {k : Int} {d : V} (h : ∀ p ∈ kvs, SafeV p.2) (hd : SafeV d) : ∀ p ∈ dset kvs k d, SafeV p.2 := fun p hp => by
  unfold dset at hp
  split at hp
  · refine e1a2 (List.mem_map.mp hp) fun q hq rq281 => ?_; obtain rfl := rq281
    split
    · exact hd
    · exact h q hq
  · rcases List.mem_append.mp hp with hp | hp
    · exact h p hp
    · rw [List.mem_singleton] at hp; subst hp; exact hd
theorem Held.safe {kvs : List (Int × V)} {tx : Int → List Nat} {rk : Int → Nat} (E : Held kvs tx rk) : ∀ p ∈ kvs, SafeV p.2 := fun p hp => by
  have := E.ent p.1 p.2 (dget_of_mem E.nd hp)
  generalize p.2 = d at this
  cases this with
  | root => exact safe_root
  | lean b a gone come _ _ _ => exact safe_lean
theorem fbase_none {b0 : V} {ls : List Int} {i : Nat} {nn : Int} (h : fbase b0 ls i = .none) (hi : ls[i]? = some nn) : fbase b0 ls (i + 1) = .int nn := by
  unfold fbase at h ⊢
  split at h
  · cases h
  · split at h
    · rename_i _ _ q; subst q
      rw [if_neg (by exact om299), getD_at hi]
    · cases h
theorem fbase_int {b0 : V} {ls : List Int} {i : Nat} {bb : Int} (h : fbase b0 ls i = .int bb) : fbase b0 ls (i + 1) = .int bb := by
  unfold fbase at h ⊢
  split at h
  · exact h
  · split at h
    · cases h
    · rw [if_neg (by exact om300)]; exact h
theorem fbase_or (b0 : V) (ls : List Int) (i : Nat) : fbase b0 ls i = .none ∨ ∃ bb, fbase b0 ls i = .int bb := by
  unfold fbase
  split
  · exact .inr ⟨_, rfl⟩
  · split
    · exact .inl rfl
    · exact .inr ⟨_, rfl⟩
structure FgAt (kvs kv' : List (Int × V)) (k : Int) (b0 : V) (ls : List Int) (tx : Int → List Nat) (i : Nat) : Prop where
  keys : kv'.map (·.1) = (ddel kvs k).map (·.1)
  off : ∀ x, x ∉ ls.take i → dget kv' x = dget (ddel kvs k) x
  on : ∀ (j : Nat) y, j < i → ls[j]? = some y → ∃ d, dget kv' y = some d ∧ FEnt b0 ls tx j y d
  safe : ∀ p ∈ kv', SafeV p.2
theorem FgAt.put {kvs kv' : List (Int × V)} {k : Int} {b0 : V} {ls : List Int} {tx : Int → List Nat} {i : Nat} (F : FgAt kvs kv' k b0 ls tx i) (L : Leans kvs k ls) (hne : ∀ y ∈ ls, y ≠ k) {y : Int} {d : V} (hi : ls[i]? = some y) (hd : FEnt b0 ls tx i y d) (sd : SafeV d) : FgAt kvs (dset kv' y d) k b0 ls tx (i + 1) := by
  have ky : Key kv' y := by
    rw [key_iff, F.keys, ← key_iff]
    have hm := List.mem_of_getElem? hi
    obtain ⟨dd, e⟩ := ((L.mem y).mp hm).1
    exact ⟨dd, by rw [dget_ddel, if_neg (hne y hm)]; exact e⟩
  have nt := nd_take L.nd hi
  refine ⟨(keys_dset ky).trans F.keys, fun x hx => ?_, fun j z hj hz => ?_, dset_safe F.safe sd⟩
  · rw [List.take_add_one, hi] at hx
    rw [dget_dset, if_neg (fun q => hx (by rw [q]; simp))]
    exact F.off x fun q => hx (List.mem_append_left _ q)
  · rw [dget_dset]
    by_cases q : j = i
    · subst q
      rw [hi] at hz; cases hz
      rw [if_pos rfl]; exact ⟨d, rfl, hd⟩
    · have : z ≠ y := fun e => by
        subst e
        apply nt
        exact List.mem_of_getElem? (i := j) (by rw [List.getElem?_take, if_pos (by exact om183 hj q)]; exact hz)
      rw [if_neg this]; exact F.on j z (by exact om183 hj q) hz
inductive FgZ (kvs : List (Int × V)) (tx : Int → List Nat) (k : Int) (b0 : V) (ls : List Int) (H' : AH) (hd x : Addr) (i : Nat) (m : Loc) (H2 : AH) : Prop
  | mk (o' : Obj) (kv' : List (Int × V)) : H2 = H'.set hd ⟨o', .dict kv'⟩ → FgAt kvs kv' k b0 ls tx i → m (Str.ofString "self") = some (.ref x) → m (Str.ofString "base") = some (fbase b0 ls i) → (∀ bb, fbase b0 ls i = .int bb → m (Str.ofString "ahead") = some (.s (tx bb))) → (∀ y d, m y = some d → SafeV d) → FgZ kvs tx k b0 ls H' hd x i m H2
inductive FgI (tx : Int → List Nat) (k : Int) (b0 : V) (H3 : AH) (x al at_ : Addr) (m : Loc) (H' : AH) : Prop
  | mk : H' = H3 → m (Str.ofString "self") = some (.ref x) → m (Str.ofString "number") = some (.int k) → m (Str.ofString "base") = some b0 → m (Str.ofString "leaning") = some (.ref al) → m (Str.ofString "texts") = some (.ref at_) → (∀ bb, b0 = .int bb → m (Str.ofString "ahead") = some (.s (tx bb))) → (∀ y d, m y = some d → SafeV d) → FgI tx k b0 H3 x al at_ m H'
theorem sp_forget (W : Lw c (KK P) sc ns) (H : AH) (x dx hd : Addr) (b n k : Int) (kvs : List (Int × V)) (tx : Int → List Nat) (rk : Int → Nat) (ls : List Int) (PA : PackAt H x dx hd b n kvs) (E : Held kvs tx rk) (hk : Key kvs k) (LS : Leans kvs k ls) :
    Fn c 4 (.ref 284) [.ref x, .int k] H (fun d H' => d = .none ∧ (∃ kvs', PackAt H' x dx hd b n kvs' ∧ Forgot kvs kvs' k (base0 (dgetD kvs k)) ls tx) ∧ Keeps H H' dx hd) (fun _ _ => False) := by
  have hs : 1000000 ≤ sizeLine := by decide
  have few := E.few
  have up : ∀ y b, Key kvs y → base0 (dgetD kvs y) = .int b → Key kvs b ∧ rk b < rk y := fun y b hy hb => by
    have := E.ent y _ (dgetD_key hy)
    generalize dgetD kvs y = d at this hb
    cases this with
    | root => cases hb
    | lean b' a gone come h1 h2 h3 => cases hb; exact ⟨h1, h2⟩
  have hne : ∀ y ∈ ls, y ≠ k := fun y hy q => by
    have hm := (LS.mem y).mp hy
    have := (up y k hm.1 hm.2).2
    rw [q] at this; exact om145 this
  have hb0 : base0 (dgetD kvs k) = .none ∨ ∃ bb, base0 (dgetD kvs k) = .int bb := by
    have := E.ent k _ (dgetD_key hk)
    generalize dgetD kvs k = d at this
    cases this with
    | root => exact .inl rfl
    | lean b' a gone come h1 h2 h3 => exact .inr ⟨_, rfl⟩
  refine Fn.gen fun QQ hQQ => ?_
  refine Fn_defR W.ok.lim (W.kx 284 _ rfl) rfl rfl (codeRec_of W.kx rfl) rfl (names := ["self", "number"]) (bind2 rfl fun _ _ => rfl) rfl (by decide) (fun n => mem2 (.inr ⟨rfl, rfl⟩) (.inr ⟨rfl, rfl⟩)) rfl rfl rfl fun A L frs hE R0 R O => ?_
  have R1 : Room 1 A := R.le (by exact om234)
  refine Ex_expr (Ev_need W (R.le (by exact om270)) O.frames (Pe_var rfl) (Pe_var rfl) PA hk ⟨no_ref rfl, ?_⟩)
  have upk := up k
  have gk : ∀ {f : Fx}, G2 c f H (dgetD kvs k) (.int 0) (base0 (dgetD kvs k)) := fun {f} => (G_held E hk).1
  refine Ex_assign (Pe.ev (Pe_sub (Pe_sub (Pe_attr W.kx pc (Pe_var rfl) PA.i (pk_held _ _ _) handy_ref no_held) (Pe_var rfl) (G_dict PA.d (dgetD_key hk))) Pe_int gk) ?_) (.inl rfl)
  clear gk
  generalize base0 (dgetD kvs k) = b0 at hb0 upk hQQ ⊢
  refine Ex_assign_comp W.ok (EvIt_list R.handled (Ev_B1e W.ok (gb_sorted W) (Pe.ev (Pe_attr W.kx pc (Pe_var rfl) PA.i (pk_held _ _ _) handy_ref no_held) (O_sorted W.ok R.handled PA.d (by exact om219 few) fun asr osr srt hsr pm pw => ⟨asr, _, rfl, ListAt.same _ _ _ _, ?_⟩)))) rfl rfl (by decide) rfl (by decide) rfl (clN ⟨rfl, rfl, rfl⟩ (clN ⟨rfl, rfl, rfl⟩ cl0)) (.inl rfl)
  have S : Srt kvs srt := ⟨pm, pw⟩
  have sl := S.len
  have e1 : Ext H (H.set asr ⟨osr, .list (srt.map V.int)⟩) := Ext.set (Ext.refl _) hsr
  have PA1 := PA.ext e1
  refine CompOk_filter (fun i => V.int (srt.getD i 0)) (fun i => leansOn k (base0 (dgetD kvs (srt.getD i 0)))) (by rw [List.length_map]; exact om222 hs few sl) ?_ ?_ ?_
  · intro i d C hE hdd
    refine e1a2 (map_item hdd) fun y hy rq282 => ?_; obtain rfl := rq282
    have ky := S.mem.mp (List.mem_of_getElem? hy)
    rw [getD_at hy]
    exact Tp_cmp (Pe_sub (Pe_sub (Pe_attr W.kx pc (Pe_var rfl) PA1.i (pk_held _ _ _) handy_ref no_held) (Pe_var rfl) (G_dict PA1.d (dgetD_key ky))) Pe_int (G_held E ky).1) (Pe_var rfl) (E.ent y _ (dgetD_key ky)).eqI Iff.rfl
  · intro i d C hE hdd _
    refine e1a2 (map_item hdd) fun y hy rq283 => ?_; obtain rfl := rq283
    rw [getD_at hy]
    exact Pe_var rfl
  intro al ol hal
  rw [List.length_map, filter_range srt (fun y => leansOn k (base0 (dgetD kvs y))) V.int, (leans_of S E.nd k).uniq LS]
  have lsl : ls.length ≤ 40 := by
    have := nodup_le LS.nd (l' := kvs.map (·.1)) fun y hy => key_iff.mp ((LS.mem y).mp hy).1
    rw [List.length_map] at this; exact om301 few this
  have e2 : Ext H ((H.set asr ⟨osr, .list (srt.map V.int)⟩).set al ⟨ol, .list (ls.map V.int)⟩) := Ext.set e1 hal
  have L2 := ListAt.same (H.set asr ⟨osr, .list (srt.map V.int)⟩) al ol (ls.map V.int)
  have sf2 : ∀ a x, ((H.set asr ⟨osr, .list (srt.map V.int)⟩).set al ⟨ol, .list (ls.map V.int)⟩) a = some x → H a = some x ∨ SafeK x.k := fun a x e => by
    by_cases q : a = al
    · subst q; rw [set_same] at e; cases e
      exact .inr fun d hd => by refine e1a2 (List.mem_map.mp hd) fun y _ rq284 => ?_; obtain rfl := rq284; exact safe_int
    rw [set_ne _ _ q] at e
    by_cases q : a = asr
    · subst q; rw [set_same] at e; cases e
      exact .inr fun d hd => by refine e1a2 (List.mem_map.mp hd) fun y _ rq285 => ?_; obtain rfl := rq285; exact safe_int
    rw [set_ne _ _ q] at e
    exact .inl e
  generalize ((H.set asr ⟨osr, .list (srt.map V.int)⟩).set al ⟨ol, .list (ls.map V.int)⟩) = H2 at e2 L2 sf2 ⊢
  clear hal hsr PA1 e1
  have PA2 := PA.ext e2
  refine Ex_assign_comp W.ok (EvIt_list R.handled (Pe.ev (Pe_var rfl) ⟨al, _, rfl, L2, ?_⟩)) rfl rfl (by decide) rfl (by decide) rfl (clN ⟨rfl, rfl, rfl⟩ cl0) (.inl rfl)
  refine CompOk_map ((ls.map tx).map V.s) (by simp) (by rw [List.length_map]; exact om282 hs lsl) ?_ ?_
  · intro i d C hE hdd
    refine e1a2 (map_item hdd) fun y hy rq286 => ?_; obtain rfl := rq286
    refine ⟨_, map_item' (map_item' hy), ?_⟩
    exact Ev_M1 W.kx pc R O.frames (Pe_var rfl) PA2.i rfl fi_read ft_read (W.kx 211 _ rfl) rfl (Pe_var rfl) (sp_read W H2 x dx hd b n y kvs tx rk PA2 E ((LS.mem y).mp (List.mem_of_getElem? hy)).1)
  intro at_ ot hat
  have e3 : Ext H (H2.set at_ ⟨ot, .list ((ls.map tx).map V.s)⟩) := Ext.set e2 hat
  have L3 := L2.fresh (x := ⟨ot, .list ((ls.map tx).map V.s)⟩) hat
  have T3 := ListAt.same H2 at_ ot ((ls.map tx).map V.s)
  have sf3 : ∀ a x, (H2.set at_ ⟨ot, .list ((ls.map tx).map V.s)⟩) a = some x → H a = some x ∨ SafeK x.k := fun a x e => by
    by_cases q : a = at_
    · subst q; rw [set_same] at e; cases e
      exact .inr fun d hd => by refine e1a2 (List.mem_map.mp hd) fun y _ rq287 => ?_; obtain rfl := rq287; exact safe_str
    rw [set_ne _ _ q] at e
    exact sf2 a x e
  generalize H2.set at_ ⟨ot, .list ((ls.map tx).map V.s)⟩ = H3 at e3 L3 T3 sf3 ⊢
  clear hat PA2 e2 L2 sf2
  have PA3 := PA.ext e3
  refine Ex_assign (Pe.ev Pe_str ?_) (.inl rfl)
  refine Ex_ifj (FgI tx k b0 H3 x al at_) (Tp_isNotNone (Pe_var rfl)) (fun g => ?_) (fun g => ?_) ?_
  · rcases hb0 with h | ⟨bb, rfl⟩
    · exact (g h).elim
    refine Ex_assign (Ev_M1 W.kx pc R O.frames (Pe_var rfl) PA3.i rfl fi_read ft_read (W.kx 211 _ rfl) rfl (Pe_var rfl) (Fn.mono (sp_read W H3 x dx hd b n bb kvs tx rk PA3 E (upk bb hk rfl).1) (fun d H4 z => ?_) fun _ _ z => z.elim)) (.inl rfl)
    obtain ⟨rfl, rfl⟩ := z
    exact Ex_nil ⟨rfl, rfl, rfl, rfl, rfl, rfl, rfl, fun bb' q => by cases q; rfl, safe_set (safe_set (safe_set (safe_set (safe_set (safe_loc2 safe_raw safe_int) safe_int) safe_raw) safe_raw) safe_str) safe_str⟩
  · rcases hb0 with rfl | ⟨bb, rfl⟩
    · exact Ex_nil ⟨rfl, rfl, rfl, rfl, rfl, rfl, rfl, fun bb' q => (nomatch q), safe_set (safe_set (safe_set (safe_set (safe_loc2 safe_raw safe_int) safe_raw) safe_raw) safe_raw) safe_str⟩
    · exact (g fun q => nomatch q).elim
  rintro m' H' rz30; obtain ⟨rfl, ms, mn, mb, ml, mt, ma, msf⟩ := rz30
  refine Ex_popS (Pe_attr W.kx pc (Pe_var ms) PA3.i (pk_held _ _ _) handy_ref no_held) (Pe_var mn) PA3.d (dgetD_key hk) (by exact om282 hs few) fun o4 => ?_
  have hl1 : al ≠ hd := L3.ne_dict PA3.d
  have hl2 : at_ ≠ hd := T3.ne_dict PA3.d
  obtain ⟨nx, ndx⟩ := PA3.i.ne_dict PA3.d
  have fb0 : fbase b0 ls 0 = b0 := by
    rcases hb0 with rfl | ⟨bb, rfl⟩ <;> rfl
  refine Ex_for_zip O W.ok R.handled R0 (Pe_glob W.ok (gb_zip W)) (Pe_var ml) (Pe_var mt) (L3.ne hl1) (T3.ne hl2) (by rw [List.length_map]) (FgZ kvs tx k b0 ls H' hd x)
    ⟨o4, _, rfl, ⟨rfl, fun _ _ => rfl, fun j y hj => by exact (om148 hj).elim, fun p hp => E.safe p (List.mem_filter.mp hp).1⟩, ms, by rw [fb0]; exact mb, fun bb q => ma bb (by rw [← fb0]; exact q), msf⟩ ?_ ?_ ?_ (.inl rfl) (.inl rfl)
  · rintro i m2 H2 rz31; obtain ⟨o', kv', rfl, F, _, _, _, sf⟩ := rz31
    refine ⟨fun a x e => ?_, sf, ?_, ?_⟩
    · by_cases q : a = hd
      · subst q; rw [set_same] at e; cases e; exact .inr F.safe
      · rw [set_ne _ _ q] at e; exact sf3 a x e
    · rw [set_ne _ _ hl1, set_ne _ _ hl1]
    · rw [set_ne _ _ hl2, set_ne _ _ hl2]
  · rintro i nn t m2 H2 hE' kp hi ht rz32; obtain ⟨o', kv', rfl, F, ms, mb, ma, sf⟩ := rz32
    refine e1a2 (map_item ht) fun y hy rq288 => ?_; obtain rfl := rq288
    rw [hi] at hy; cases hy
    have hkn := ((LS.mem nn).mp (List.mem_of_getElem? hi)).1
    have PA5 : PackAt (H'.set hd ⟨o', .dict kv'⟩) x dx hd b n kv' := ⟨PA3.i.ne nx ndx, DictIs.same _ _ _ _⟩
    have kl : kv'.length ≤ 40 := by
      have := congrArg List.length F.keys
      simp only [List.length_map] at this
      have := ddel_len (kvs := kvs) (k := k); exact om302 few (by assumption) this
    refine Ex_ifp (Tp_isNone (Pe_var mb)) (fun g => ?_) (fun g => ?_)
    · refine Ex_store (Ev_tuple (Evs_cons (Pe.ev Pe_none (Evs_cons (Pe.ev (Pe_var rfl) (Evs_nil ⟨by show 2 ≤ sizeLine; exact om225 hs, ?_⟩))))))
      refine Pe.ev (Pe_attr W.kx pc (Pe_var ms) PA5.i (pk_held _ _ _) handy_ref no_held) (Pe.ev (Pe_var rfl) ⟨hd, kv', nn, rfl, rfl, PA5.d, by exact om282 hs kl, fun o5 => ?_⟩)
      refine Ex_assign (Pe.ev (Pe_var rfl) ?_) (.inl rfl)
      refine Ex_assign (Pe.ev (Pe_var rfl) ?_) (.inl rfl)
      rw [AH.set_set]
      exact Ex_nil ⟨rfl, o5, _, rfl, F.put LS hne hi (.inl ⟨g, rfl⟩) safe_root, ms, by rw [fbase_none g hi]; rfl, fun bb q => by rw [fbase_none g hi] at q; cases q; rfl, safe_set (safe_set (safe_set (safe_set sf safe_int) safe_str) safe_int) safe_str⟩
    · obtain ⟨bb, hbb⟩ := (fbase_or b0 ls i).resolve_left g
      have kb : Key kvs bb := by
        unfold fbase at hbb
        split at hbb
        · cases hbb; exact (upk _ hk rfl).1
        · split at hbb
          · cases hbb
          · cases hbb
            have h0 : 0 < ls.length := by have := (List.getElem?_eq_some_iff.mp hi).1; exact om144 this
            exact ((LS.mem _).mp (by rw [List.getD_eq_getElem?_getD, List.getElem?_eq_getElem h0]; exact List.getElem_mem h0)).1
      have s1 := E.short bb kb
      have s2 := E.short nn hkn
      rw [hbb] at mb
      refine Ex_store (Ev_tuple (Evs_cons (Pe.ev (Pe_var mb) (Evs_cons (Ev_F2 W.ok (W.glob rfl) (W.kx 120 _ rfl) rfl R1 O.frames (Pe_var (ma bb hbb)) (Pe_var rfl) (Fn.mono (sp_change_of W (H'.set hd ⟨o', .dict kv'⟩) (tx bb) (tx nn) (by exact om211 s1) (by exact om211 s2)) (fun d H5 z => ?_) fun _ _ z => z.elim))))))
      obtain ⟨rfl, a, e, C, rfl⟩ := z
      refine Evs_nil ⟨by show 2 ≤ sizeLine; exact om225 hs, ?_⟩
      refine Pe.ev (Pe_attr W.kx pc (Pe_var ms) PA5.i (pk_held _ _ _) handy_ref no_held) (Pe.ev (Pe_var rfl) ⟨hd, kv', nn, rfl, rfl, PA5.d, by exact om282 hs kl, fun o5 => ?_⟩)
      rw [AH.set_set]
      exact Ex_nil ⟨rfl, o5, _, rfl, F.put LS hne hi (.inr ⟨bb, a, e, hbb, C, rfl⟩) safe_lean, ms, by rw [fbase_int hbb]; exact mb, fun b2 q => by rw [fbase_int hbb] at q; cases q; exact ma bb hbb, safe_set (safe_set sf safe_int) safe_str⟩
  · rintro m2 H2 rz33; obtain ⟨o', kv', rfl, F, _⟩ := rz33
    refine Ex_nil (hQQ _ _ ⟨rfl, ⟨kv', ⟨PA3.i.ne nx ndx, DictIs.same _ _ _ _⟩, ?_⟩, fun a ha _ z => (set_ne _ _ z).trans (e3 a ha)⟩)
    have kl : kv'.length = (ddel kvs k).length := by have := congrArg List.length F.keys; simpa using this
    refine ⟨by rw [F.keys]; exact ddel_nd E.nd, by rw [kl]; exact ddel_len, fun y => ?_, fun y hy hl => ?_, fun i y d hi hd => ?_⟩
    · rw [key_iff, F.keys, ← key_iff]
      unfold Key
      rw [dget_ddel]
      by_cases q : y = k
      · rw [if_pos q]; exact ⟨fun ⟨_, z⟩ => (nomatch z), fun z => (z.2 q).elim⟩
      · rw [if_neg q]; exact ⟨fun z => ⟨z, q⟩, fun z => z.1⟩
    · rw [F.off y (fun z => hl (List.mem_of_mem_take z)), dget_ddel, if_neg hy]
    · refine e1a2 (F.on i y (List.getElem?_eq_some_iff.mp hi).1 hi) fun d' e' fe => ?_
      rw [hd] at e'; cases e'; exact fe
theorem sp_bound_by (W : Lw c (KK P) sc ns) (H : AH) (cell : Int) : Fn c 1 (.ref 359) [.int cell] H (fun d H' => H' = H ∧ ∃ b : Int, d = .int b ∧ 0 ≤ b ∧ b ≤ 1000) (fun _ _ => False) := by
  refine Fn_def W.ok.lim (W.kx 359 _ rfl) rfl rfl (codeRec_of W.kx rfl) rfl (names := ["_law_cell"]) (bind1 rfl fun _ => rfl) rfl (by decide) (fun n => mem1 (.inl rfl)) rfl rfl rfl fun A L frs hE R O => ?_
  refine Ex_ifp (Tp_cmp (Pe_bin (Pe_var rfl) Pe_int (B_mod (by decide))) Pe_int B_eq beq_iff_eq) (fun _ => ?_) (fun _ => ?_)
  · exact Ex_ret (Pe.ev (Pe_bin Pe_int (Pe_bin (Pe_bin (Pe_var rfl) Pe_int (B_div (by decide) (by decide))) Pe_int (B_mod (by decide))) B_sub) ⟨rfl, _, rfl, by exact om303, by exact om304⟩)
  refine Ex_ifp (Tp_cmp (Pe_bin (Pe_var rfl) Pe_int (B_mod (by decide))) Pe_int B_eq beq_iff_eq) (fun _ => ?_) (fun _ => ?_)
  · exact Ex_ret (Pe.ev (Pe_bin (Pe_bin (Pe_var rfl) Pe_int (B_div (by decide) (by decide))) Pe_int (B_mod (by decide))) ⟨rfl, _, rfl, by exact om305, by exact om306⟩)
  exact Ex_ret (Pe.ev (Pe_bin (Pe_var rfl) Pe_int (B_mod (by decide))) ⟨rfl, _, rfl, by exact om307, by exact om308⟩)
theorem sp_beside (W : Lw c (KK P) sc ns) (H : AH) (cell : Int) (a : Addr) (l : List Int) (la : ListAt H a (l.map V.int)) (few : l.length ≤ 100) :
    Fn c 1 (.ref 352) [.int cell, .ref a] H (fun d H' => H' = H ∧ (d = .none ∨ ∃ o, d = .int o ∧ o ∈ l)) (fun _ _ => False) := by
  have hs : 1000000 ≤ sizeLine := by decide
  refine Fn_def W.ok.lim (W.kx 352 _ rfl) rfl rfl (codeRec_of W.kx rfl) rfl (names := ["_law_cell", "_law_numbers"]) (bind2 rfl fun _ _ => rfl) rfl (by decide) (fun n => mem2 (.inl rfl) (.inl rfl)) rfl rfl rfl fun A L frs hE R O => ?_
  have hu : A.units + 100 < cLine := by have := R.units; exact om309 this
  have ln : (l.map V.int).length = l.length := List.length_map _
  refine Ex_ifp (Tp_or (Tpo_cons (P := l = []) (Tp.of_ext (Ts_cmp (Pe.ev (Pe_var rfl) (Ev_list W.ok (Evs_nil ⟨Nat.zero_le _, fun a0 o0 h0 => (B_eql_ints (l' := []) (la.fresh h0) (ListAt.same _ _ _ _) (by show A.units + _ < _; exact om310 hu)).op ⟨_, rfl, Ext.set (Ext.refl _) h0, decide_eq_true_iff⟩⟩))))) fun _ => Tpo_cons (Tp_cmp (Pe_bin (Pe_var rfl) Pe_int (B_mod (by decide))) Pe_int B_eq beq_iff_eq) fun _ => Tpo_nil)) (fun _ => ?_) (fun g => ?_)
  · exact Ex_ret (Pe.ev Pe_none ⟨rfl, .inl rfl⟩)
  have hne : l ≠ [] := fun q => g (.inl q)
  have h0 : 0 < l.length := List.length_pos_iff.mpr hne
  have at_ : ∀ {j : Nat} {i : Int}, seqIndex? i l.length = some j → j < l.length → -9223372036854775808 ≤ i ∧ i < 9223372036854775808 → ∃ o, o ∈ l ∧ ∀ {f : Fx}, G2 c f H (.ref a) (.int i) (.int o) := fun {j i} h1 h2 h3 => ⟨l[j], List.getElem_mem h2, fun {f} => G_list la (by rw [ln]; exact h1) (map_item' (List.getElem?_eq_getElem h2)) h3⟩
  refine Ex_ifp (Tp_cmp (Pe_bin (Pe_var rfl) Pe_int (B_mod (by decide))) Pe_int B_eq beq_iff_eq) (fun _ => ?_) (fun _ => ?_)
  · obtain ⟨o, ho, go⟩ := at_ (i := 0) (seqIndex_pos (by decide) (by exact om311 h0)) (by simpa using h0) (by decide)
    exact Ex_ret (Pe.ev (Pe_sub (Pe_var rfl) Pe_int go) ⟨rfl, .inr ⟨o, rfl, ho⟩⟩)
  refine Ex_ifp (Tp_cmp (Pe_bin (Pe_var rfl) Pe_int (B_mod (by decide))) Pe_int B_lt decide_eq_true_iff) (fun _ => ?_) (fun _ => ?_)
  · obtain ⟨o, ho, go⟩ := at_ (i := -1) (seqIndex_neg (by decide) (by exact om312 h0)) (by exact om313 h0) (by decide)
    exact Ex_ret (Pe.ev (Pe_sub (Pe_var rfl) (Pe_neg Pe_int) go) ⟨rfl, .inr ⟨o, rfl, ho⟩⟩)
  have i0 : 0 ≤ cell / 7 % (l.length : Int) := Int.emod_nonneg _ (by exact om314 h0)
  have i1 : cell / 7 % (l.length : Int) < l.length := Int.emod_lt_of_pos _ (by exact om311 h0)
  obtain ⟨o, ho, go⟩ := at_ (i := cell / 7 % (l.length : Int)) (seqIndex_pos i0 i1) (by exact om315 h0 i1) (by exact om316 few i0 i1)
  refine Ex_ret (Pe.ev (Pe_sub (Pe_var rfl) (Pe_bin (Pe_bin (Pe_var rfl) Pe_int (B_div (by decide) (by decide))) (Pe_B1 W.ok (gb_len W) (Pe_var rfl) (L_list la (by exact om317 few hs ln))) (B_mod (by exact om285 ln h0))) ?_) ⟨rfl, .inr ⟨o, rfl, ho⟩⟩)
  rw [ln]; exact go
def kdOf (kvs : List (Int × V)) (srt : List Int) : List (Int × V) := srt.map fun k => (k, row kvs k)
theorem dget_kd {kvs : List (Int × V)} {srt : List Int} (S : Srt kvs srt) {k : Int} (hk : Key kvs k) : dget (kdOf kvs srt) k = some (row kvs k) := dget_map (S.mem.mpr hk)
theorem G_row {f : Fx} {H : AH} (kvs : List (Int × V)) (k : Int) : G2 c f H (row kvs k) (.int 0) (.int k) ∧ G2 c f H (row kvs k) (.int 1) (base0 (dgetD kvs k)) ∧ G2 c f H (row kvs k) (.int 2) (body0 (dgetD kvs k)) :=
  ⟨G_tup (j := 0) rfl rfl (by decide), G_tup (j := 1) rfl rfl (by decide), G_tup (j := 2) rfl rfl (by decide)⟩
theorem sp_kept_rows (W : Lw c (KK P) sc ns) (H : AH) (af ta : Addr) (kvs ts : List (Int × V)) (srt : List Int) (tx : Int → List Nat) (rk : Int → Nat) (lf : ListAt H af (rowsOf kvs srt)) (S : Srt kvs srt) (E : Held kvs tx rk) (T : DictIs H ta ts) (tl : ts.length = kvs.length) (tk : ∀ k, Key kvs k → Key ts k) (pos : ∀ k, Key kvs k → 0 ≤ k) :
    Fn c 2 (.ref 387) [.ref af, .ref ta] H (fun d H' => ∃ a, d = .ref a ∧ Ext H H' ∧ H a = none ∧ DictIs H' a (kdOf kvs srt)) (fun _ _ => False) := by
  have hs : 1000000 ≤ sizeLine := by decide
  have few := E.few
  have sl := S.len
  have rl : (rowsOf kvs srt).length = kvs.length := by unfold rowsOf; rw [List.length_map, sl]
  refine Fn.gen fun QQ hQQ => ?_
  refine Fn_def W.ok.lim (W.kx 387 _ rfl) rfl rfl (codeRec_of W.kx rfl) rfl (names := ["_law_rows", "_law_texts"]) (bind2 rfl fun _ _ => rfl) rfl (by decide) (fun n => mem2 (.inl rfl) (.inl rfl)) rfl rfl rfl fun A L frs hE R O => ?_
  refine Ex_assign (Ev_dict0 W.ok fun ak ok hk => ?_) (.inl rfl)
  have e1 : Ext H (H.set ak ⟨ok, .dict []⟩) := Ext.set (Ext.refl _) hk
  have lf1 := e1.list lf
  have T1 := e1.dict T
  refine Ex_ifp (Tp_or (Tpo_cons (Tp_not (Tp_pb (Pb_isi W.ok (gb_isinstance W) (gb_list W) (Pe_var rfl) (I_list lf1)))) fun _ => Tpo_cons (Tp_cmp (P := False) (Pe_B1 W.ok (gb_len W) (Pe_var rfl) (L_list lf1 (by exact om222 hs few rl))) (Pe_B1 W.ok (gb_len W) (Pe_var rfl) (L_dict T1 (by exact om318 tl hs few))) B_ne (by rw [rl, tl]; simp)) fun _ => Tpo_nil)) (fun g => by simp at g) (fun _ => ?_)
  refine Ex_assign (Pe.ev (Pe_neg Pe_int) ?_) (.inl rfl)
  have afk : af ≠ ak := lf.ne_new hk
  refine Ex_for O (EvIt_list R.handled (Pe.ev (Pe_var rfl) ⟨af, _, rfl, lf1, fun i m' H' => Ext H H' ∧ DictIs H' ak (kdOf kvs (srt.take i)) ∧ H' af = (H.set ak ⟨ok, .dict []⟩) af ∧ m' (Str.ofString "_law_texts") = some (.ref ta) ∧ m' (Str.ofString "_law_kept") = some (.ref ak) ∧ m' (Str.ofString "_law_last") = some (.int (lastOf (srt.take i))), ⟨e1, DictIs.same _ _ _ _, rfl, rfl, rfl, rfl⟩, ?_, ?_⟩)) (.inl rfl)
  · rintro i d m' H' kp hdd rz34 _; refine e0a6 rz34 fun ex dk eaf mt mk ml => ?_; clear rz34
    refine e1a2 (map_item hdd) fun k hk1 rq289 => ?_; obtain rfl := rq289
    have kk := S.mem.mp (List.mem_of_getElem? hk1)
    have T' := ex.dict T
    obtain ⟨dt, hdt⟩ := tk k kk
    have snd := S.nd E.nd
    have lt1 : lastOf (srt.take i) < k := lastOf_lt (fun y hy => by
      have hy2 : y ≤ k := by
        obtain ⟨j, hj, e⟩ := List.mem_take_iff_getElem.mp hy
        obtain ⟨h2, e2⟩ := List.getElem?_eq_some_iff.mp hk1
        have := List.pairwise_iff_getElem.mp S.pw j i (by exact om180 hj) h2 (by exact om235 hj)
        rw [e2] at this; rw [← e]; exact this
      have hne : y ≠ k := fun q => nd_take snd hk1 (q ▸ hy)
      exact om319 hy2 hne) (pos k kk)
    refine Ex_ifp (Tp_or (Tpo_cons (Tp_not (Tp_pb (Pb_isi W.ok (gb_isinstance W) (gb_tuple W) (Pe_var rfl) I_tup))) fun _ => Tpo_cons (Tp_cmp (Pe_B1 W.ok (gb_len W) (Pe_var rfl) (L_tup (three_fits _ _ _))) Pe_int B_ne (P := False) (by simp)) fun _ => Tpo_cons (Tp_not (Tp_val (P := True) (Pe_F1 W.ok (W.glob rfl) (W.kx 326 _ rfl) rfl R O.frames (Pe_sub (Pe_var rfl) Pe_int (G_row kvs k).1) (sp_whole W H' k)) (by simp))) fun _ => Tpo_nil)) (fun g => by simp at g) (fun _ => ?_)
    refine Ex_ifp (Tp_or (Tpo_cons (Tp_cmp (Pe_sub (Pe_var rfl) Pe_int (G_row kvs k).1) (Pe_var ml) B_le decide_eq_true_iff) fun _ => Tpo_cons (Tp_cmp (P := False) (Pe_sub (Pe_var rfl) Pe_int (G_row kvs k).1) (Pe_var mt) (B_notIn T') (by rw [hdt]; simp)) fun _ => Tpo_nil)) (fun g => by
      rcases g with g | g | g
      · exact (om320 lt1 g).elim
      · exact g.elim
      · exact g.elim) (fun _ => ?_)
    refine Ex_assign (Pe.ev (Pe_sub (Pe_var rfl) Pe_int (G_row kvs k).1) ?_) (.inl rfl)
    refine Ex_store (Pe.ev (Pe_var rfl) (Pe.ev (Pe_var mk) (Pe.ev (Pe_var rfl) ⟨ak, _, k, rfl, rfl, dk, by unfold kdOf; rw [List.length_map, List.length_take]; exact om220 hs few sl, fun o' => ?_⟩)))
    have tk1 : srt.take (i + 1) = srt.take i ++ [k] := by rw [List.take_add_one, hk1]; rfl
    refine Ex_nil ⟨⟨Ext.upd ex hk, ?_, ?_, mt, mk, ?_⟩, fun y hy => ?_⟩
    · rw [dset_new (by unfold kdOf; rw [keys_of]; exact nd_take snd hk1)]
      unfold kdOf; rw [tk1, List.map_append]; exact DictIs.same _ _ _ _
    · rw [set_ne _ _ afk]; exact eaf
    · rw [tk1, lastOf_snoc]; rfl
    · rw [List.mem_singleton] at hy; subst hy
      rw [set_ne _ _ afk]; exact eaf
  · rintro m' H' rz35 _; refine e0a6 rz35 fun ex dk eaf mt mk ml => ?_; clear rz35
    rw [List.take_of_length_le (by rw [rl]; exact om142 sl)] at dk
    exact Ex_ret (Pe.ev (Pe_var mk) (hQQ _ _ ⟨ak, rfl, ex, hk, dk⟩))
theorem sp_way14 (W : Lw c (KK P) sc ns) (H : AH) (kd : Addr) (kvs : List (Int × V)) (srt : List Int) (tx : Int → List Nat) (rk : Int → Nat) (n b : Int) (D : DictIs H kd (kdOf kvs srt)) (S : Srt kvs srt) (E : Held kvs tx rk) (F : Fits kvs b) (hn : Key kvs n) :
    Fn c 2 (.ref 373) [.ref kd, .int n, .int b] H (fun d H' => ∃ a o xs, d = .ref a ∧ H a = none ∧ H' = H.set a ⟨o, .list (xs.map V.int)⟩ ∧ IsChain (bases kvs) n xs ∧ xs.length ≤ 50) (fun _ _ => False) := by
  have hs : 1000000 ≤ sizeLine := by decide
  refine Fn.gen fun QQ hQQ => ?_
  refine Fn_def W.ok.lim (W.kx 373 _ rfl) rfl rfl (codeRec_of W.kx rfl) rfl (names := ["_law_kept", "_law_number", "_law_bound"]) (bind3 rfl fun _ _ _ => rfl) rfl (by decide) (fun n => mem3 (.inl rfl) (.inl rfl) (.inl rfl)) rfl rfl rfl fun A L frs hE R O => ?_
  refine Ex_assign (Ev_list W.ok (Pes.evs (Pes_cons (Pe_var rfl) Pes_nil) ⟨by show 1 ≤ sizeLine; exact om172 hs, fun a o ha => ?_⟩)) (.inl rfl)
  have hba : kd ≠ a := D.ne_new ha
  refine Ex_while O (fun k m' H' => ∃ (o : Obj) (pre : List Int) (x : Int), H' = H.set a ⟨o, .list ((pre ++ [x]).map V.int)⟩ ∧ k = rk x ∧ Key kvs x ∧ pre.length + rk x ≤ rk n ∧ (∀ xs, IsChain (bases kvs) x xs → IsChain (bases kvs) n (pre ++ xs)) ∧ m' (Str.ofString "_law_kept") = some (.ref kd) ∧ m' (Str.ofString "_law_way_here") = some (.ref a) ∧ m' (Str.ofString "_law_bound") = some (.int b)) (rk n) ⟨o, [], n, rfl, rfl, hn, by simp, fun xs h => by simpa using h, rfl, rfl, rfl⟩ ?_
  rintro k m' H' rz36; refine e3a8 rz36 fun o pre x rq290 rq291 hx hlen hpre mb mc mbo => ?_; clear rz36; obtain rfl := rq290; obtain rfl := rq291
  have hl : ListAt (H.set a ⟨o, .list ((pre ++ [x]).map V.int)⟩) a ((pre ++ [x]).map V.int) := ListAt.same _ _ _ _
  have hb' : DictIs (H.set a ⟨o, .list ((pre ++ [x]).map V.int)⟩) kd (kdOf kvs srt) := D.ne hba
  have low := E.low n
  have hlen1 : ((pre ++ [x]).map V.int).length = pre.length + 1 := by simp
  have s1 : seqIndex? (-1) ((pre ++ [x]).map V.int).length = some pre.length := by rw [hlen1]; exact (seqIndex_neg (by exact om173) (by exact om174)).trans (congrArg some (by exact om175))
  have g1 : ((pre ++ [x]).map V.int)[pre.length]? = some (.int x) := by simp
  refine Ts.mono (Tp_isNotNone (Pe_sub (Pe_sub (Pe_var mb) (Pe_sub (Pe_var mc) (Pe_neg Pe_int) (G_list hl s1 g1 (by exact om176))) (G_dict hb' (dget_kd S hx))) Pe_int (G_row kvs x).2.1)) (fun t H' ⟨e, q⟩ => ?_) fun _ _ z => z.elim
  subst e
  have gb : dget (bases kvs) x = some (base0 (dgetD kvs x)) := by rw [dget_bases, dgetD_key hx]; rfl
  have ent := E.ent x _ (dgetD_key hx)
  refine ⟨fun ht => ?_, fun ht => ?_⟩
  · obtain ⟨y, hy0, hy, hlt⟩ : ∃ y, base0 (dgetD kvs x) = .int y ∧ Key kvs y ∧ rk y < rk x := by
      generalize dgetD kvs x = d0 at ent q
      cases ent with
      | root => exact (q.mp ht rfl).elim
      | lean bb at_ gone come hbb hlt stp => exact ⟨bb, rfl, hbb, hlt⟩
    have short : ((pre.length + 1 : Nat) : Int) ≤ b := by
      refine e1a2 (E.chain hy) fun zs hz _ => ?_
      have := F n _ (hpre _ (.step (hy0 ▸ gb) hz))
      have := hz.pos
      simp only [List.length_append, List.length_cons] at *
      exact om321 (by assumption) this
    have pb : ∀ {f : Fx} {m : Loc} {p1 p2 p3 p4 p5 p6 : Pos} {k1 k2 : Nat} (hm : m (Str.ofString "_law_kept") = some (.ref kd)) (hm2 : m (Str.ofString "_law_way_here") = some (.ref a)) (hk : f.env.scope.kind = .function), Pe c f (.Subscript (.Subscript (.Name (Str.ofString "_law_kept") p1) (.Subscript (.Name (Str.ofString "_law_way_here") p2) (.UnaryOp .USub (.Constant (.int 1) k1 p3) p4) p5) p6) (.Constant (.int 1) k2 p3) p6) m (H.set a ⟨o, .list ((pre ++ [x]).map V.int)⟩) (.int y) → True := fun _ _ _ _ => trivial
    clear pb
    refine Ex_ifp (Tp_or (Tpo_cons (Tp_cmp (P := False) (Pe_B1 W.ok (gb_len W) (Pe_var mc) (L_list hl (by exact om177 hs hlen low hlen1))) (Pe_var mbo) B_gt (by rw [hlen1]; simp; exact om322 short)) fun _ => Tpo_cons (Tp_not (Tp_val (P := True) (Pe_F1 W.ok (W.glob rfl) (W.kx 326 _ rfl) rfl R O.frames (Pe_sub (Pe_sub (Pe_var mb) (Pe_sub (Pe_var mc) (Pe_neg Pe_int) (G_list hl s1 g1 (by exact om176))) (G_dict hb' (dget_kd S hx))) Pe_int (hy0 ▸ (G_row kvs x).2.1)) (sp_whole W _ y)) (by simp))) fun _ => Tpo_cons (Tp_cmp (P := False) (Pe_sub (Pe_sub (Pe_var mb) (Pe_sub (Pe_var mc) (Pe_neg Pe_int) (G_list hl s1 g1 (by exact om176))) (G_dict hb' (dget_kd S hx))) Pe_int (hy0 ▸ (G_row kvs x).2.1)) (Pe_var mb) (B_notIn hb') (by rw [dget_kd S hy]; simp)) fun _ => Tpo_nil)) (fun g => by simp at g) (fun _ => ?_)
    refine Ex_appendS (Pe_var mc) (Pe_sub (Pe_sub (Pe_var mb) (Pe_sub (Pe_var mc) (Pe_neg Pe_int) (G_list hl s1 g1 (by exact om176))) (G_dict hb' (dget_kd S hx))) Pe_int (G_row kvs x).2.1) hl (by exact om177 hs hlen low hlen1) (fun o' => Ex_nil ⟨rk y, hlt, o', pre ++ [x], y, ?_, rfl, hy, by simp; exact om178 hlen hlt, fun xs h => ?_, mb, mc, mbo⟩)
    · rw [AH.set_set, hy0]; simp
    · simpa using hpre _ (.step (hy0 ▸ gb) h)
  · have h0 : base0 (dgetD kvs x) = .none := by
      apply Classical.byContradiction; intro z
      rw [q.mpr z] at ht; cases ht
    exact Ex_ret (Pe.ev (Pe_var mc) (hQQ _ _ ⟨a, o, pre ++ [x], rfl, ha, rfl, hpre _ (.stop (h0 ▸ gb)), by simp; exact om179 hlen low⟩))
theorem Step.end_le {old new : List Nat} {a : Int} {gone come : List Nat} (S : Step old new a gone come) : a + gone.length ≤ old.length := by
  have h := congrArg List.length S.fit
  have h0 := S.h0
  have h1 := S.h1
  rw [List.length_drop, List.length_take] at h
  exact om323 h h1
theorem sp_text_of14 (W : Lw c (KK P) sc ns) (H : AH) (kd aw : Addr) (kvs : List (Int × V)) (srt : List Int) (tx : Int → List Nat) (rk : Int → Nat) (n : Int) (xs : List Int) (D : DictIs H kd (kdOf kvs srt)) (S : Srt kvs srt) (E : Held kvs tx rk) (hx : IsChain (bases kvs) n xs) (lw : ListAt H aw (xs.map V.int)) (xl : xs.length ≤ 50) :
    Fn c 3 (.ref 380) [.ref kd, .ref aw] H (fun d H' => d = .s (tx n) ∧ H' = H) (fun _ _ => False) := by
  have hs : 1000000 ≤ sizeLine := by decide
  refine Fn.of_ext (Fn.mono (Q := fun d H' => Ext H H' ∧ d = .s (tx n)) (X := fun _ _ => False) ?_ (fun d H' z => ⟨z.1, z.2, rfl⟩) fun _ _ z => z.elim)
  refine Fn_def W.ok.lim (W.kx 380 _ rfl) rfl rfl (codeRec_of W.kx rfl) rfl (names := ["_law_kept", "_law_way_here"]) (bind2 rfl fun _ _ => rfl) rfl (by decide) (fun n => mem2 (.inl rfl) (.inl rfl)) rfl rfl rfl fun A L frs hE R O => ?_
  have h0 := hx.pos
  have hkey : ∀ (j : Nat) y, xs[j]? = some y → Key kvs y := fun j y h => key_bases.mp (hx.keys y (List.mem_of_getElem? h))
  have lst : xs[xs.length - 1]? = some (xs.getD (xs.length - 1) 0) := by rw [List.getD_eq_getElem?_getD, List.getElem?_eq_getElem (by exact om103 h0)]; rfl
  have kr := hkey _ _ lst
  have bodyR : body0 (dgetD kvs (xs.getD (xs.length - 1) 0)) = .s (tx (xs.getD (xs.length - 1) 0)) := by
    have nx := hx.next _ _ lst
    rw [List.getElem?_eq_none (by exact om324), dget_bases, dgetD_key kr] at nx
    have ent := E.ent _ _ (dgetD_key kr)
    generalize dgetD kvs (xs.getD (xs.length - 1) 0) = d0 at ent nx
    cases ent with
    | root => rfl
    | lean bb at_ gone come _ _ _ => cases nx
  have lnm : (xs.map V.int).length = xs.length := List.length_map _
  refine Ex_assign (Pe.ev (Pe_sub (Pe_sub (Pe_var rfl) (Pe_sub (Pe_var rfl) (Pe_neg Pe_int) (G_list (j := xs.length - 1) lw ((seqIndex_neg (by exact om173) (by rw [lnm]; exact om325 h0)).trans (congrArg some (by rw [lnm]; exact om326))) (map_item' lst) (by exact om176))) (G_dict D (dget_kd S kr))) Pe_int (bodyR ▸ (G_row kvs _).2.2)) ?_) (.inl rfl)
  refine Ex_ifp (Tp_not (Tp_pb (Pb_isi W.ok (gb_isinstance W) (gb_str W) (Pe_var rfl) I_str))) (fun g => by simp at g) (fun _ => ?_)
  refine Ex_for O (EvIt_rev R.handled ((Pe_glob W.ok (gb_reversed W)).ev ⟨rfl, Ev_lslice_init W.ok (Pe_var rfl) (Pe_neg Pe_int) lw (by rw [lnm]; exact om327 xl hs) fun ai oi hai => ⟨ai, _, rfl, ListAt.same _ _ _ _, fun i m' H' => i ≤ xs.length - 1 ∧ H' = H.set ai ⟨oi, .list ((xs.map V.int).take ((xs.map V.int).length - 1))⟩ ∧ m' (Str.ofString "_law_kept") = some (.ref kd) ∧ m' (Str.ofString "_law_signs") = some (.s (tx (xs.getD (xs.length - 1 - i) 0))), ⟨Nat.zero_le _, rfl, rfl, rfl⟩, ?_, ?_⟩⟩)) (.inl rfl)
  · rintro i d m' H' kp hdd rz37 _; refine e0a4 rz37 fun hi rq292 mk ms => ?_; clear rz37; obtain rfl := rq292
    have D' : DictIs (H.set ai ⟨oi, .list ((xs.map V.int).take ((xs.map V.int).length - 1))⟩) kd (kdOf kvs srt) := D.fresh hai
    generalize H.set ai ⟨oi, .list ((xs.map V.int).take ((xs.map V.int).length - 1))⟩ = HH at D' ⊢
    have hi2 := (List.getElem?_eq_some_iff.mp hdd).1
    rw [List.length_reverse, List.length_take, lnm] at hi2
    rw [List.getElem?_reverse (by rw [List.length_take, lnm]; exact om328 hi2), List.length_take, lnm, List.getElem?_take] at hdd
    rw [if_pos (by exact om329 hi2)] at hdd
    refine e1a2 (map_item hdd) fun one hone rq293 => ?_; obtain rfl := rq293
    have ej : min (xs.length - 1) xs.length - 1 - i = xs.length - 1 - (i + 1) := by exact om330
    rw [ej] at hone
    have ko := hkey _ _ hone
    have nx := hx.next _ _ hone
    have e1 : xs.length - 1 - (i + 1) + 1 = xs.length - 1 - i := by exact om331 hi2
    rw [e1] at nx
    have hb : xs[xs.length - 1 - i]? = some (xs.getD (xs.length - 1 - i) 0) := by rw [List.getD_eq_getElem?_getD, List.getElem?_eq_getElem (by exact om332 e1)]; rfl
    rw [hb, dget_bases, dgetD_key ko] at nx
    have kb := hkey _ _ hb
    have go : xs.getD (xs.length - 1 - (i + 1)) 0 = one := getD_at hone
    have rw3 : ∀ {f : Fx}, G2 c f HH (row kvs one) (.int 2) (body0 (dgetD kvs one)) := fun {f} => (G_row kvs one).2.2
    have ent := E.ent _ _ (dgetD_key ko)
    generalize xs.getD (xs.length - 1 - i) 0 = bb at nx kb ms hb
    generalize dgetD kvs one = d0 at ent nx rw3
    cases ent with
    | root => cases nx
    | lean b2 at_ gone come h1 h2 st =>
      have : b2 = bb := by cases nx; rfl
      subst this
      have s1 := E.short _ kb
      have s2 := E.short _ ko
      have g1 := st.gone_le
      have g2 := st.come_le
      have g3 := st.end_le
      have a0 := st.h0
      have a1 := st.h1
      refine Ex_assign (Pe.ev (Pe_sub (Pe_sub (Pe_var mk) (Pe_var rfl) (G_dict D' (dget_kd S ko))) Pe_int rw3) ?_) (.inl rfl)
      refine Ex_ifp (Tp_or (Tpo_cons (Tp_not (Tp_val (P := True) (Pe_F1 W.ok (W.glob rfl) (W.kx 366 _ rfl) rfl R O.frames (Pe_var rfl) (sp_change W HH at_ _ _)) (by simp))) fun _ => Tpo_cons (Tp_cmp (Pe_sub (Pe_var rfl) Pe_int (G_tup (d := .int at_) (j := 0) rfl rfl (by decide))) Pe_int B_lt decide_eq_true_iff) fun _ => Tpo_nil)) (fun g => by
        rcases g with g | g | g
        · exact (g trivial).elim
        · exact (om333 a0 g).elim
        · exact g.elim) (fun _ => ?_)
      refine Ex_assign (Pe.ev (Pe_bin (Pe_sub (Pe_var rfl) Pe_int (G_tup (d := .int at_) (j := 0) rfl rfl (by decide))) (Pe_B1 W.ok (gb_len W) (Pe_sub (Pe_var rfl) Pe_int (G_tup (d := .s gone) (j := 1) rfl rfl (by decide))) (L_str (by exact om334 hs s1 g3 a0))) B_add) ?_) (.inl rfl)
      refine Ex_ifp (Tp_or (Tpo_cons (Tp_cmp (Pe_var rfl) (Pe_B1 W.ok (gb_len W) (Pe_var ms) (L_str (by exact om223 hs s1))) B_gt decide_eq_true_iff) fun _ => Tpo_cons (Tp_cmp (Pe_slice_ss (Pe_var ms) (Pe_sub (Pe_var rfl) Pe_int (G_tup (d := .int at_) (j := 0) rfl rfl (by decide))) (Pe_var rfl) a0 (by exact om167 a0) (by exact om223 hs s1)) (Pe_sub (Pe_var rfl) Pe_int (G_tup (d := .s gone) (j := 1) rfl rfl (by decide))) B_ness not_dec) fun _ => Tpo_nil)) (fun g => by
        rcases g with g | g | g
        · exact (om335 g3 g).elim
        · exact (g st.fit).elim
        · exact g.elim) (fun _ => ?_)
      refine Ex_assign (Pe.ev (Pe_bin (Pe_bin (Pe_slice_ns (Pe_var ms) (Pe_sub (Pe_var rfl) Pe_int (G_tup (d := .int at_) (j := 0) rfl rfl (by decide))) a0 (by exact om223 hs s1)) (Pe_sub (Pe_var rfl) Pe_int (G_tup (d := .s come) (j := 2) rfl rfl (by decide))) (B_cats (by rw [List.length_take]; exact om336 hs s1 s2 g2))) (Pe_slice_sn (Pe_var ms) (Pe_var rfl) (by exact om167 a0) (by exact om223 hs s1)) (B_cats (by rw [List.length_append, List.length_take, List.length_drop]; exact om337 hs s1 s2 g2))) ?_) (.inl rfl)
      refine Ex_nil ⟨⟨by exact om338 e1, rfl, mk, ?_⟩, fun _ _ => rfl⟩
      rw [go, st.new]; rfl
  · rintro m' H' rz38 _; refine e0a4 rz38 fun hi rq294 mk ms => ?_; clear rz38; obtain rfl := rq294
    obtain ⟨r, hr⟩ := hx.head
    have e : xs.getD (xs.length - 1 - ((xs.map V.int).take ((xs.map V.int).length - 1)).reverse.length) 0 = n := by
      rw [List.length_reverse, List.length_take, lnm, show xs.length - 1 - min (xs.length - 1) xs.length = 0 by exact om339, hr]; rfl
    rw [e] at ms
    exact Ex_ret (Pe.ev (Pe_var ms) ⟨Ext.set (Ext.refl _) hai, rfl⟩)
theorem sp_faces14 (W : Lw c (KK P) sc ns) (H : AH) (x dx hd kd : Addr) (b n : Int) (kvs : List (Int × V)) (srt : List Int) (tx : Int → List Nat) (rk : Int → Nat) (PA : PackAt H x dx hd b n kvs) (E : Held kvs tx rk) (D : DictIs H kd (kdOf kvs srt)) (S : Srt kvs srt) :
    Fn c 4 (.ref 394) [.ref x, .ref kd] H (fun d H' => d = .bool true ∧ H' = H) (fun _ _ => False) := by
  have hs : 1000000 ≤ sizeLine := by decide
  have few := E.few
  have sl := S.len
  refine Fn.of_ext (Fn.mono (Q := fun d H' => Ext H H' ∧ d = .bool true) (X := fun _ _ => False) ?_ (fun d H' z => ⟨z.1, z.2, rfl⟩) fun _ _ z => z.elim)
  refine Fn_def W.ok.lim (W.kx 394 _ rfl) rfl rfl (codeRec_of W.kx rfl) rfl (names := ["_law_pack", "_law_kept"]) (bind2 rfl fun _ _ => rfl) rfl (by decide) (fun n => mem2 (.inl rfl) (.inl rfl)) rfl rfl rfl fun A L frs hE R O => ?_
  have R1 : Room 1 A := R.le (by exact om234)
  have R2 : Room 2 A := R.le (by exact om270)
  have hu : A.units + 100 < cLine := by have := R.units; exact om340 this
  refine Ex_assign (Ev_dict0 W.ok fun af oa ha => ?_) (.inl rfl)
  refine Ex_assign (Pe.ev Pe_int ?_) (.inl rfl)
  have e1 : Ext H (H.set af ⟨oa, .dict []⟩) := Ext.set (Ext.refl _) ha
  have kaf : kd ≠ af := D.ne_new ha
  refine Ex_for O (EvIt_dict R.handled (Pe.ev (Pe_var rfl) ⟨kd, kdOf kvs srt, rfl, e1.dict D, fun i m' H' => Ext H H' ∧ DictIs H' af ((srt.take i).map fun k => (k, base0 (dgetD kvs k))) ∧ m' (Str.ofString "_law_pack") = some (.ref x) ∧ m' (Str.ofString "_law_kept") = some (.ref kd) ∧ m' (Str.ofString "_law_due") = some (.ref af) ∧ m' (Str.ofString "_law_many") = some (.int (sumE kvs (srt.take i))), ⟨e1, DictIs.same _ _ _ _, rfl, rfl, rfl, rfl⟩, ?_, ?_⟩)) (.inl rfl)
  · rintro i d m' H' kp hdd rz39 tr; refine e0a6 rz39 fun ex df mp mk md mm => ?_; clear rz39
    refine e1a2 (map_item hdd) fun rq295 hk0 rq296 => ?_; obtain ⟨k, dk⟩ := rq295; obtain rfl := rq296
    refine e1a2 (map_item hk0) fun k' hk e => ?_
    cases e
    have kk := S.mem.mp (List.mem_of_getElem? hk)
    have tk1 : srt.take (i + 1) = srt.take i ++ [k] := by rw [List.take_add_one, hk]; rfl
    have D' := ex.dict D
    refine Ex_store (Pe.ev (Pe_sub (Pe_sub (Pe_var mk) (Pe_var rfl) (G_dict D' (dget_kd S kk))) Pe_int (G_row kvs k).2.1) (Pe.ev (Pe_var md) (Pe.ev (Pe_var rfl) ⟨af, _, k, rfl, rfl, df, by rw [List.length_map, List.length_take]; exact om220 hs few sl, fun o' => ?_⟩)))
    rw [dset_new (by rw [keys_of]; exact nd_take (S.nd E.nd) hk)]
    have ee : ((srt.take i).map fun k => (k, base0 (dgetD kvs k))) ++ [(k, base0 (dgetD kvs k))] = (srt.take (i + 1)).map fun k => (k, base0 (dgetD kvs k)) := by rw [tk1, List.map_append]; rfl
    rw [ee]
    have x6 : Ext H (H'.set af ⟨o', .dict ((srt.take (i + 1)).map fun k => (k, base0 (dgetD kvs k)))⟩) := Ext.upd ex ha
    have df6 := DictIs.same H' af o' ((srt.take (i + 1)).map fun k => (k, base0 (dgetD kvs k)))
    have t6 : (H'.set af ⟨o', .dict ((srt.take (i + 1)).map fun k => (k, base0 (dgetD kvs k)))⟩) kd = H' kd := set_ne _ _ kaf
    generalize H'.set af ⟨o', .dict ((srt.take (i + 1)).map fun k => (k, base0 (dgetD kvs k)))⟩ = H6 at x6 df6 t6 ⊢
    have PA6 := PA.ext x6
    have D6 := x6.dict D
    have gf : dget ((srt.take (i + 1)).map fun k => (k, base0 (dgetD kvs k))) k = some (base0 (dgetD kvs k)) := dget_map (by rw [tk1]; simp)
    have ent := E.ent k _ (dgetD_key kk)
    have sk := E.short k kk
    refine Ex_ifp (Tp_cmp (P := False) (d₁ := base0 (dgetD kvs k)) (Ev_M1 W.kx pc R O.frames (Pe_var mp) PA6.i rfl fi_base ft_base (W.kx 218 _ rfl) rfl (Pe_var rfl) (sp_base W H6 x dx hd b n k kvs tx rk PA6 E kk)) (Pe_sub (Pe_var md) (Pe_var rfl) (G_dict df6 gf)) ent.neB (by simp)) (fun g => g.elim) (fun _ => ?_)
    have nxt : sumE kvs (srt.take (i + 1)) = sumE kvs (srt.take i) + lenE (dgetD kvs k) := by rw [tk1]; exact sumE_snoc _ _
    have gk := dget_kd S kk
    have gr : ∀ {f : Fx}, G2 c f H6 (row kvs k) (.int 2) (body0 (dgetD kvs k)) := fun {f} => (G_row kvs k).2.2
    have tr6 : ∀ y ∈ [kd], H6 y = (H.set af ⟨oa, .dict []⟩) y := fun y hy => by
      rw [List.mem_singleton] at hy; subst hy
      exact t6.trans (tr _ (.head _))
    generalize row kvs k = rw0 at gk gr
    clear hdd hk0
    generalize dgetD kvs k = d0 at ent gf gr nxt
    cases ent with
    | root =>
      refine Ex_ifp (Tp_isNone (Pe_sub (Pe_var md) (Pe_var rfl) (G_dict df6 gf))) (fun _ => ?_) (fun g => (g rfl).elim)
      refine Ex_assign (Pe.ev (Pe_bin (Pe_var mm) (Pe_B1 W.ok (gb_len W) (Pe_sub (d := .s (tx k)) (Pe_sub (Pe_var mk) (Pe_var rfl) (G_dict D6 gk)) Pe_int gr) (L_str (by exact om223 hs sk))) B_add) (Ex_nil ⟨⟨x6, df6, mp, mk, md, ?_⟩, tr6⟩)) (.inl rfl)
      rw [nxt]; show some (V.int _) = some (V.int (_ + ((Str.length ⟨(tx k).toArray⟩ : Nat) : Int))); rw [mk_length]
    | lean bb at_ gone come hb hlt st =>
      have s1 := E.short _ hb
      have g1 := st.gone_le
      have g2 := st.come_le
      refine Ex_ifp (Tp_isNone (Pe_sub (Pe_var md) (Pe_var rfl) (G_dict df6 gf))) (fun g => nomatch g) (fun _ => ?_)
      refine Ex_assign (Pe.ev (Pe_bin (Pe_bin (Pe_var mm) (Pe_B1 W.ok (gb_len W) (Pe_sub (Pe_sub (d := chg at_ gone come) (Pe_sub (Pe_var mk) (Pe_var rfl) (G_dict D6 gk)) Pe_int gr) Pe_int (G_tup (d := .s gone) (j := 1) rfl rfl (by decide))) (L_str (by exact om224 hs s1 g1))) B_add) (Pe_B1 W.ok (gb_len W) (Pe_sub (Pe_sub (d := chg at_ gone come) (Pe_sub (Pe_var mk) (Pe_var rfl) (G_dict D6 gk)) Pe_int gr) Pe_int (G_tup (d := .s come) (j := 2) rfl rfl (by decide))) (L_str (by exact om224 hs sk g2))) B_add) (Ex_nil ⟨⟨x6, df6, mp, mk, md, ?_⟩, tr6⟩)) (.inl rfl)
      rw [nxt]; show some (V.int _) = some (V.int (_ + (((Str.length ⟨gone.toArray⟩ : Nat) : Int) + ((Str.length ⟨come.toArray⟩ : Nat) : Int)))); rw [mk_length, mk_length, Int.add_assoc]
  · rintro m' H' rz40 _; refine e0a6 rz40 fun ex df mp mk md mm => ?_; clear rz40
    rw [List.take_of_length_le (by unfold kdOf; simp)] at df mm
    have PA2 := PA.ext ex
    refine Ex_assign (Ev_M0 W.kx pc R1 O.frames (Pe_var mp) PA2.i rfl fi_bases ft_bases (W.kx 239 _ rfl) rfl (Fn.mono (sp_bases W H' x dx hd b n kvs tx rk PA2 E) (fun d H3 z => ?_) fun _ _ z => z.elim)) (.inl rfl)
    refine e2a5 z fun a3 s3 rq297 e3 h3 S3 D3 => ?_; clear z; obtain rfl := rq297
    obtain rfl := S3.uniq S
    have PA3 := PA2.ext e3
    refine Ex_assign (Ev_M0 W.kx pc R1 O.frames (Pe_var mp) PA3.i rfl fi_numbers ft_numbers (W.kx 232 _ rfl) rfl (Fn.mono (sp_numbers W H3 x dx hd b n kvs PA3 few) (fun d H4 z => ?_) fun _ _ z => z.elim)) (.inl rfl)
    refine e2a5 z fun a4 s4 rq298 e4 h4 S4 l4 => ?_; clear z; obtain rfl := rq298
    obtain rfl := S4.uniq S3
    have PA4 := PA3.ext e4
    have D4 := e4.dict D3
    have df4 := (e3.trans e4).dict df
    have ex4 := ex.trans (e3.trans e4)
    have eq0 := base_eqA E S4
    rw [bases_heldOf] at D4 eq0
    have pw : ∀ {f : Fx} {m : Loc} {H9 : AH} {p₁ p₂ p₃ : Pos} (PA9 : PackAt H9 x dx hd b n kvs), True := fun _ => trivial
    refine Ex_ifp (Tp_or (Tpo_cons (Tp_not (Tp_pb (Pb_isi W.ok (gb_isinstance W) (gb_dict W) (Pe_var rfl) (I_dict D4)))) fun _ => Tpo_cons (Tp_not (Tp_pb (Pb_isi W.ok (gb_isinstance W) (gb_list W) (Pe_var rfl) (I_list l4)))) fun _ => Tpo_cons (Tp_not (Tp_val (P := True) (Pe_F1 W.ok (W.glob rfl) (W.kx 326 _ rfl) rfl R1 O.frames (Ev_M0 W.kx pc R2 O.frames (Pe_var mp) PA4.i rfl fi_weight ft_weight (W.kx 251 _ rfl) rfl (sp_weight W H4 x dx hd b n kvs tx rk PA4 E)) (sp_whole W H4 _)) (by simp))) fun _ => Tpo_nil)) (fun g => by simp at g) (fun _ => ?_)
    have kl : ((s4.map fun k => (k, base0 (dgetD kvs k))).map fun p => V.int p.1) = s4.map V.int := by rw [List.map_map]; rfl
    have ll : (s4.map fun k => (k, base0 (dgetD kvs k))).length ≤ sizeLine := by rw [List.length_map]; exact om222 hs few sl
    refine Ex_ret (Ev_andE (Ev_cmp (Ev_T1 W.ok (gb_list W) (Pe_var rfl) (O_keys W.ok R.handled D4 ll fun a5 o5 h5 => Ev_T1 W.ok (gb_list W) (Pe_var md) (O_keys W.ok R.handled (df4.fresh h5) ll fun a6 o6 h6 => ?_)))))
    have l5 := (ListAt.same H4 a5 o5 ((s4.map fun k => (k, base0 (dgetD kvs k))).map fun p => V.int p.1)).fresh (x := ⟨o6, .list ((s4.map fun k => (k, base0 (dgetD kvs k))).map fun p => V.int p.1)⟩) h6
    have l6 := ListAt.same (H4.set a5 ⟨o5, .list ((s4.map fun k => (k, base0 (dgetD kvs k))).map fun p => V.int p.1)⟩) a6 o6 ((s4.map fun k => (k, base0 (dgetD kvs k))).map fun p => V.int p.1)
    have e6 : Ext H4 ((H4.set a5 ⟨o5, .list ((s4.map fun k => (k, base0 (dgetD kvs k))).map fun p => V.int p.1)⟩).set a6 ⟨o6, .list ((s4.map fun k => (k, base0 (dgetD kvs k))).map fun p => V.int p.1)⟩) := Ext.set (Ext.set (Ext.refl _) h5) h6
    generalize (H4.set a5 ⟨o5, .list ((s4.map fun k => (k, base0 (dgetD kvs k))).map fun p => V.int p.1)⟩).set a6 ⟨o6, .list ((s4.map fun k => (k, base0 (dgetD kvs k))).map fun p => V.int p.1)⟩ = H6 at l5 l6 e6 ⊢
    rw [kl] at l5 l6
    refine (B_eql_ints l5 l6 (by show A.units + _ < _; exact om310 hu)).op ⟨by simp, ?_⟩
    have df6 := e6.dict df4
    refine Ev_andE (Pe.ev (Pe_cmp (Pe_var rfl) (Pe_var md) (B_eqd (e6.dict D4) df6 eq0 (by show A.units + _ < _; exact om341 hu))) ⟨rfl, ?_⟩)
    refine Ev_andE (Ev_cmp (Pe.ev (Pe_var rfl) (Ev_T1 W.ok (gb_list W) (Pe_var md) (O_keys W.ok R.handled df6 ll fun a7 o7 h7 => ?_))))
    have l7 := ListAt.same H6 a7 o7 ((s4.map fun k => (k, base0 (dgetD kvs k))).map fun p => V.int p.1)
    have e7 : Ext H6 (H6.set a7 ⟨o7, .list ((s4.map fun k => (k, base0 (dgetD kvs k))).map fun p => V.int p.1)⟩) := Ext.set (Ext.refl _) h7
    generalize H6.set a7 ⟨o7, .list ((s4.map fun k => (k, base0 (dgetD kvs k))).map fun p => V.int p.1)⟩ = H7 at l7 e7 ⊢
    rw [kl] at l7
    refine (B_eql_ints ((e6.trans e7).list l4) l7 (by show A.units + _ < _; exact om310 hu)).op ⟨by simp, ?_⟩
    have PA7 := PA4.ext (e6.trans e7)
    refine Ev_and1 (Pe.ev (Pe_cmp (d₁ := .int (sumE kvs (kvs.map (·.1)))) (Ev_M0 W.kx pc R2 O.frames (Pe_var mp) PA7.i rfl fi_weight ft_weight (W.kx 251 _ rfl) rfl (sp_weight W H7 x dx hd b n kvs tx rk PA7 E)) (Pe_var mm) B_eq) ⟨ex4.trans (e6.trans e7), ?_⟩)
    rw [sumE_perm S4.pm]; simp
structure Tx (kvs ts : List (Int × V)) (tx : Int → List Nat) : Prop where
  tt : ∀ k, Key kvs k → dget ts k = some (.s (tx k))
  kk : ∀ k, Key ts k → Key kvs k
  nd : (ts.map (·.1)).Nodup
  ln : ts.length = kvs.length
theorem Tx.key {kvs ts : List (Int × V)} {tx : Int → List Nat} (X : Tx kvs ts tx) {k : Int} : Key ts k ↔ Key kvs k := ⟨X.kk k, fun h => ⟨_, X.tt k h⟩⟩
theorem Tx.srt {kvs ts : List (Int × V)} {tx : Int → List Nat} (X : Tx kvs ts tx) (nd : (kvs.map (·.1)).Nodup) {s : List Int} (S : Srt ts s) : Srt kvs s :=
  ⟨S.pm.trans ((List.perm_ext_iff_of_nodup X.nd nd).mpr fun k => by rw [← key_iff, ← key_iff]; exact X.key), S.pw⟩
theorem sp_sound14 (W : Lw c (KK P) sc ns) (H : AH) (x dx hd ta : Addr) (b n first : Int) (kvs ts : List (Int × V)) (tx : Int → List Nat) (rk : Int → Nat) (PA : PackAt H x dx hd b n kvs) (E : Held kvs tx rk) (T : DictIs H ta ts) (XT : Tx kvs ts tx) (F : Fits kvs b) (pos : ∀ k, Key kvs k → 0 ≤ k) :
    Fn c 5 (.ref 399) [.ref x, .ref ta, .int b, .int first] H (fun d H' => d = .bool true ∧ H' = H) (fun _ _ => False) := by
  have hs : 1000000 ≤ sizeLine := by decide
  have few := E.few
  have tl := XT.ln
  refine Fn.of_ext (Fn.mono (Q := fun d H' => Ext H H' ∧ d = .bool true) (X := fun _ _ => False) ?_ (fun d H' z => ⟨z.1, z.2, rfl⟩) fun _ _ z => z.elim)
  refine Fn_def W.ok.lim (W.kx 399 _ rfl) rfl rfl (codeRec_of W.kx rfl) rfl (names := ["_law_pack", "_law_texts", "_law_bound", "_law_first"]) (bind4 rfl fun _ _ _ _ => rfl) rfl (by decide) (fun n => mem4 (.inr ⟨rfl, rfl⟩) (.inr ⟨rfl, rfl⟩) (.inl rfl) (.inl rfl)) rfl rfl rfl fun A L frs hE R O => ?_
  have R1 : Room 1 A := R.le (by exact om279)
  have R2 : Room 2 A := R.le (by exact om280)
  have R3 : Room 3 A := R.le (by exact om281)
  have hu : A.units + 100 < cLine := by have := R.units; exact om342 this
  refine Ex_assign (Ev_B1e W.ok (gb_sorted W) (Pe.ev (Pe_var rfl) (O_sorted W.ok R.handled T (by exact om343 few tl) fun a1 o1 s h1 pm pw => ?_))) (.inl rfl)
  have S : Srt kvs s := XT.srt E.nd ⟨pm, pw⟩
  have sl := S.len
  have e1 : Ext H (H.set a1 ⟨o1, .list (s.map V.int)⟩) := Ext.set (Ext.refl _) h1
  have l1 := ListAt.same H a1 o1 (s.map V.int)
  generalize H.set a1 ⟨o1, .list (s.map V.int)⟩ = H1 at e1 l1 ⊢
  have PA1 := PA.ext e1
  have T1 := e1.dict T
  have ski : ∀ {k : Int}, k ∈ s → Key kvs k := fun h => S.mem.mp h
  have kb : (bases (Mine.heldOf kvs s)).map (fun p => V.int p.1) = s.map V.int := by rw [keys_ints, keys_bases, keys_heldOf]
  refine Ex_ifp (Tp_and (Tpa_cons (Tp_cmp (Pe_bin (Pe_var rfl) Pe_int (B_mod (by decide))) Pe_int B_eq beq_iff_eq) fun _ => Tpa_cons (Tp_or (Tpo_cons (P := False) (Tp.of_ext (Ts_cmp (Ev_M0 W.kx pc R1 O.frames (Pe_var rfl) PA1.i rfl fi_numbers ft_numbers (W.kx 232 _ rfl) rfl (Fn.mono (sp_numbers W H1 x dx hd b n kvs PA1 few) (fun d H2 z => ?_) fun _ _ z => z.elim)))) fun _ => Tpo_cons (P := False) (Tp.of_ext (Ts_cmp (Ev_T1e W.ok (gb_list W) (Ev_M0 W.kx pc R1 O.frames (Pe_var rfl) PA1.i rfl fi_bases ft_bases (W.kx 239 _ rfl) rfl (Fn.mono (sp_bases W H1 x dx hd b n kvs tx rk PA1 E) (fun d H2 z => ?_) fun _ _ z => z.elim))))) fun _ => Tpo_nil)) fun _ => Tpa_nil)) (fun g => by simp at g) (fun _ => ?_)
  · refine e2a5 z fun a2 s2 rq299 e2 h2 S2 l2 => ?_; clear z; obtain rfl := rq299
    obtain rfl := S2.uniq S
    exact (Pe_var rfl).ev ((B_nel_ints l2 (e2.list l1) (by show A.units + _ < _; exact om310 hu)).op ⟨_, rfl, e2, by simp⟩)
  · refine e2a5 z fun a2 s2 rq300 e2 h2 S2 l2 => ?_; clear z; obtain rfl := rq300
    obtain rfl := S2.uniq S
    refine O_keys W.ok R.handled l2 (by unfold bases Mine.heldOf; rw [List.length_map, List.length_map]; exact om222 hs few sl) fun a3 o3 h3 => (Pe_var rfl).ev ?_
    have l3 := ListAt.same H2 a3 o3 ((bases (Mine.heldOf kvs s2)).map fun p => V.int p.1)
    have l1' := (e2.list l1).fresh (x := ⟨o3, .list ((bases (Mine.heldOf kvs s2)).map fun p => V.int p.1)⟩) h3
    have x3 := Ext.set (x := ⟨o3, .list ((bases (Mine.heldOf kvs s2)).map fun p => V.int p.1)⟩) e2 h3
    rw [kb] at l3 l1' x3 ⊢
    exact (B_nel_ints l3 l1' (by show A.units + _ < _; exact om310 hu)).op ⟨_, rfl, x3, by simp⟩
  refine Ex_assign_comp W.ok (EvIt_list R.handled (Pe.ev (Pe_var rfl) ⟨a1, _, rfl, l1, ?_⟩)) rfl rfl (by decide) rfl (by decide) rfl (clN ⟨rfl, rfl, rfl⟩ cl0) (.inl rfl)
  refine CompOk_map (s.map fun k => V.s (tx k)) (by simp) (by rw [List.length_map]; exact om222 hs few sl) ?_ ?_
  · intro i d C hE hdd
    refine e1a2 (map_item hdd) fun k hk rq301 => ?_; obtain rfl := rq301
    have kk := ski (List.mem_of_getElem? hk)
    exact ⟨_, map_item' hk, Pe_sub (Pe_var rfl) (Pe_var rfl) (G_dict T1 (XT.tt k kk))⟩
  intro a2 o2 h2
  have e2 : Ext H1 (H1.set a2 ⟨o2, .list (s.map fun k => V.s (tx k))⟩) := Ext.set (Ext.refl _) h2
  have l2 := ListAt.same H1 a2 o2 (s.map fun k => V.s (tx k))
  generalize H1.set a2 ⟨o2, .list (s.map fun k => V.s (tx k))⟩ = H2 at e2 l2 ⊢
  have PA2 := PA1.ext e2
  have T2 := e2.dict T1
  have l12 := e2.list l1
  have e12 := e1.trans e2
  refine Ex_ifp (Tp_and (Tpa_cons (Tp_cmp (Pe_bin (Pe_var rfl) Pe_int (B_mod (by decide))) Pe_int B_eq beq_iff_eq) fun _ => Tpa_cons (P := False) (Tp.of_ext (Ts_cmp (Ev_comp W.ok (EvIt_list R.handled (Pe.ev (Pe_var rfl) ⟨a1, _, rfl, l12, ?_⟩)) rfl (by decide) rfl (by decide) rfl (clN ⟨rfl, rfl, rfl⟩ cl0)))) fun _ => Tpa_nil)) (fun g => by simp at g) (fun _ => ?_)
  · refine CompOk_map (s.map fun k => V.s (tx k)) (by simp) (by rw [List.length_map]; exact om222 hs few sl) ?_ ?_
    · intro i d C hE hdd
      refine e1a2 (map_item hdd) fun k hk rq302 => ?_; obtain rfl := rq302
      have kk := ski (List.mem_of_getElem? hk)
      exact ⟨_, map_item' hk, Ev_M1 W.kx pc R3 O.frames (Pe_var rfl) PA2.i rfl fi_read ft_read (W.kx 211 _ rfl) rfl (Pe_var rfl) (sp_read W H2 x dx hd b n k kvs tx rk PA2 E kk)⟩
    · intro a3 o3 h3
      refine (Pe_var rfl).ev ((B_nelT (n := 2) (ListAt.same _ _ _ _) (l2.fresh h3) rfl (fun j d₁ d₂ g₁ g₂ => ?_) (by show A.units + _ < _; exact om344 hu)).op ⟨_, rfl, Ext.set (Ext.refl _) h3, by simp⟩)
      rw [g₁] at g₂; cases g₂
      refine e1a2 (map_item g₁) fun k hk rq303 => ?_; obtain rfl := rq303
      exact Alike.str _ _
  refine Ex_ifp (Tp_and (Tpa_cons (Tp_cmp (Pe_bin (Pe_var rfl) Pe_int (B_mod (by decide))) Pe_int B_eq beq_iff_eq) fun _ => Tpa_cons (P := False) (Tp.of_ext (Ts_cmp (Ev_comp W.ok (EvIt_list R.handled (Pe.ev (Pe_var rfl) ⟨a1, _, rfl, l12, ?_⟩)) rfl (by decide) rfl (by decide) rfl (clN ⟨rfl, rfl, rfl⟩ cl0)))) fun _ => Tpa_nil)) (fun g => by simp at g) (fun _ => ?_)
  · refine CompOk_map (s.map V.int) (by simp) (by rw [List.length_map]; exact om222 hs few sl) ?_ ?_
    · intro i d C hE hdd
      refine e1a2 (map_item hdd) fun k hk rq304 => ?_; obtain rfl := rq304
      have kk := ski (List.mem_of_getElem? hk)
      refine ⟨_, map_item' hk, Pe.of_ext (Ev_sub (Ev_M1 W.kx pc R3 O.frames (Pe_var rfl) PA2.i rfl fi_chain ft_chain (W.kx 225 _ rfl) rfl (Pe_var rfl) (Fn.mono (sp_chain W H2 x dx hd b n k kvs tx rk PA2 E kk) (fun d H4 z => ?_) fun _ _ z => z.elim)))⟩
      refine e2a6 z fun a xs rq305 e4 ha la ch _ => ?_; clear z; obtain rfl := rq305
      obtain ⟨r, hr⟩ := ch.head
      subst hr
      exact Pe.ev Pe_int ⟨_, G_list (d := .int k) (j := 0) la (seqIndex_pos (by decide) (by simp)) rfl (by decide), rfl, e4⟩
    · intro a3 o3 h3
      exact (Pe_var rfl).ev ((B_nel_ints (ListAt.same _ _ _ _) (l12.fresh h3) (by show A.units + _ < _; exact om310 hu)).op ⟨_, rfl, Ext.set (Ext.refl _) h3, by simp⟩)
  refine Ex_assign (Ev_F2e W.ok (W.glob rfl) (W.kx 387 _ rfl) rfl R2 O.frames (Ev_M0 W.kx pc R1 O.frames (Pe_var rfl) PA2.i rfl fi_rows ft_rows (W.kx 244 _ rfl) rfl (Fn.mono (sp_rows W H2 x dx hd b n kvs tx rk PA2 E) (fun d H3 z => ?_) fun _ _ z => z.elim))) (.inl rfl)
  refine e2a5 z fun a3 s3 rq306 e3 h3 S3 l3 => ?_; clear z; obtain rfl := rq306
  obtain rfl := S3.uniq S
  refine Pe.ev (Pe_var rfl) (Fn.mono (sp_kept_rows W H3 a3 ta kvs ts s3 tx rk l3 S3 E (e3.dict T2) tl (fun k h => XT.key.mpr h) pos) (fun d H4 z => ?_) fun _ _ z => z.elim)
  refine e1a4 z fun kd rq307 e4 hkd D4 => ?_; clear z; obtain rfl := rq307
  refine Ex_ifp (Tp_isNone (Pe_var rfl)) (fun g => nomatch g) (fun _ => ?_)
  have e24 := e3.trans e4
  have PA4 := PA2.ext e24
  have T4 := e24.dict T2
  have hta : H4 ta ≠ none := by obtain ⟨o, e⟩ := T4; rw [e]; exact fun z => nomatch z
  refine Ex_for O (EvIt_dict R.handled (Pe.ev (Pe_var rfl) ⟨ta, ts, rfl, T4, fun i m' H' => Ext H4 H' ∧ m' (Str.ofString "_law_pack") = some (.ref x) ∧ m' (Str.ofString "_law_texts") = some (.ref ta) ∧ m' (Str.ofString "_law_kept") = some (.ref kd) ∧ m' (Str.ofString "_law_bound") = some (.int b), ⟨Ext.refl _, rfl, rfl, rfl, rfl⟩, ?_, ?_⟩)) (.inl rfl)
  · rintro i d m' H' kp hdd rz41 _; refine e0a5 rz41 fun ex mp mt mk mb => ?_; clear rz41
    refine e1a2 (map_item hdd) fun rq308 hk rq309 => ?_; obtain ⟨k, dk⟩ := rq308; obtain rfl := rq309
    have kk : Key kvs k := XT.kk k ⟨dk, dget_of_mem XT.nd (List.mem_of_getElem? hk)⟩
    refine Ex_assign (Ev_F3 W.ok (W.glob rfl) (W.kx 373 _ rfl) rfl R2 O.frames (Pe_var mk) (Pe_var rfl) (Pe_var mb) (Fn.mono (sp_way14 W H' kd kvs s3 tx rk k b (ex.dict D4) S3 E F kk) (fun d H5 z => ?_) fun _ _ z => z.elim)) (.inl rfl)
    refine e3a5 z fun aw ow xs rq310 haw rq311 ch xl => ?_; clear z; obtain rfl := rq310; obtain rfl := rq311
    have lw := ListAt.same H' aw ow (xs.map V.int)
    have e5 : Ext H4 (H'.set aw ⟨ow, .list (xs.map V.int)⟩) := Ext.set ex haw
    generalize H'.set aw ⟨ow, .list (xs.map V.int)⟩ = H5 at lw e5 ⊢
    have D5 := e5.dict D4
    have T5 := e5.dict T4
    have PA5 := PA4.ext e5
    have xne : xs ≠ [] := fun q => by have := ch.pos; rw [q] at this; exact absurd this (by decide)
    refine Ex_ifp (Tp_or (Tpo_cons (P := False) (Tp.of_ext (Ts_cmp (Pe.ev (Pe_var rfl) (Ev_list W.ok (Evs_nil ⟨Nat.zero_le _, fun a0 o0 h0 => (B_eql_ints (l' := []) (lw.fresh h0) (ListAt.same _ _ _ _) (by show A.units + _ < _; exact om310 hu)).op ⟨_, rfl, Ext.set (Ext.refl _) h0, by simp [xne]⟩⟩))))) fun _ => Tpo_cons (P := False) (Tp_cmp (d₁ := .s (tx k)) (Pe_F2 W.ok (W.glob rfl) (W.kx 380 _ rfl) rfl R3 O.frames (Pe_var mk) (Pe_var rfl) (sp_text_of14 W H5 kd aw kvs s3 tx rk k xs D5 S3 E ch lw xl)) (Pe_sub (Pe_var mt) (Pe_var rfl) (G_dict T5 (XT.tt k kk))) B_ness (by simp)) fun _ => Tpo_nil)) (fun g => by simp at g) (fun _ => ?_)
    refine Ex_ifp (Tp_or (Tpo_cons (P := False) (Tp_cmp (d₁ := .s (tx k)) (Ev_M1 W.kx pc R3 O.frames (Pe_var mp) PA5.i rfl fi_read ft_read (W.kx 211 _ rfl) rfl (Pe_var rfl) (sp_read W H5 x dx hd b n k kvs tx rk PA5 E kk)) (Pe_sub (Pe_var mt) (Pe_var rfl) (G_dict T5 (XT.tt k kk))) B_ness (by simp)) fun _ => Tpo_cons (P := False) (Tp.of_ext (Ts_cmp (Ev_M1 W.kx pc R3 O.frames (Pe_var mp) PA5.i rfl fi_chain ft_chain (W.kx 225 _ rfl) rfl (Pe_var rfl) (Fn.mono (sp_chain W H5 x dx hd b n k kvs tx rk PA5 E kk) (fun d H9 z => ?_) fun _ _ z => z.elim)))) fun _ => Tpo_nil)) (fun g => by simp at g) (fun _ => Ex_nil ⟨⟨e5, mp, mt, mk, mb⟩, fun y hy => ?_⟩)
    · refine e2a6 z fun a9 ys rq312 e9 ha9 l9 ch9 _ => ?_; clear z; obtain rfl := rq312
      obtain rfl := ch9.uniq ch
      exact (Pe_var rfl).ev ((B_nel_ints l9 (e9.list lw) (by show A.units + _ < _; exact om310 hu)).op ⟨_, rfl, e9, by simp⟩)
    · rw [List.mem_singleton] at hy; subst hy
      exact e5 _ hta
  · rintro m' H' rz42 _; refine e0a5 rz42 fun ex mp mt mk mb => ?_; clear rz42
    exact Ex_ret (Pe.ev (Pe_F2 W.ok (W.glob rfl) (W.kx 394 _ rfl) rfl R O.frames (Pe_var mp) (Pe_var mk) (sp_faces14 W H' x dx hd kd b n kvs s3 tx rk (PA4.ext ex) E (ex.dict D4) S3)) ⟨(e12.trans e24).trans ex, rfl⟩)
theorem exists_rch {kvs : List (Int × V)} {pt : Int → List Int} (PT : Paths kvs pt) {k : Int} (hk : Key kvs k) : ∃ M, Rch kvs pt k M := by
  classical
  obtain ⟨M, h1, h2⟩ := exists_max (((kvs.map (·.1)).filter fun v => decide (Same pt k v)).map fun v => (ds pt k v : Int)) (by
    intro e
    have : k ∈ ((kvs.map (·.1)).filter fun v => decide (Same pt k v)) := List.mem_filter.mpr ⟨key_iff.mp hk, by simpa using PT.self hk⟩
    rw [List.map_eq_nil_iff] at e; rw [e] at this; cases this)
  refine e1a2 (List.mem_map.mp h1) fun v hv hM => ?_
  obtain ⟨hv1, hv2⟩ := List.mem_filter.mp hv
  exact ⟨M, ⟨v, key_iff.mpr hv1, by simpa using hv2, hM.symm⟩, fun v kv sv => h2 _ (List.mem_map.mpr ⟨v, List.mem_filter.mpr ⟨key_iff.mp kv, by simpa using sv⟩, rfl⟩)⟩
theorem sp_tried14 (W : Lw c (KK P) sc ns) (U : Own c (KK P)) (H : AH) (x dx hd : Addr) (b n kind k o : Int) (kvs : List (Int × V)) (tx : Int → List Nat) (rk : Int → Nat) (PA : PackAt H x dx hd b n kvs) (E : Held kvs tx rk) (F : Fits kvs b) (hk : Key kvs k) (ho : Key kvs o) :
    Fn c 6 (.ref 406) [.ref x, .int kind, .int k, .int o] H (fun d H' => (∃ bb, d = .bool bb) ∧ (∃ kvs' rk', PackAt H' x dx hd b n kvs' ∧ Held kvs' tx rk' ∧ Fits kvs' b ∧ (∀ y, Key kvs' y ↔ Key kvs y) ∧ kvs'.length = kvs.length) ∧ Keeps H H' dx hd) (fun _ _ => False) := by
  have hne : kvs ≠ [] := fun e => by rw [e] at hk; obtain ⟨d, q⟩ := hk; cases q
  refine e1a2 ((E.wood hne).paths) fun pt PT hpt => ?_
  refine e1a2 (E.chain hk) fun xk hxk _ => ?_
  refine e1a2 (E.chain ho) fun xo hxo _ => ?_
  obtain ⟨M, HR⟩ := exists_rch PT (key_bases.mpr hk)
  obtain ⟨hi, HI⟩ := exists_hi E hne k
  have same : ∀ {H' : AH}, Ext H H' → (∃ kvs' rk', PackAt H' x dx hd b n kvs' ∧ Held kvs' tx rk' ∧ Fits kvs' b ∧ (∀ y, Key kvs' y ↔ Key kvs y) ∧ kvs'.length = kvs.length) ∧ Keeps H H' dx hd := fun e => ⟨⟨kvs, rk, PA.ext e, E, F, fun _ => Iff.rfl, rfl⟩, fun a ha _ _ => e a ha⟩
  refine Fn_def W.ok.lim (W.kx 406 _ rfl) rfl rfl (codeRec_of W.kx rfl) rfl (names := ["_law_pack", "_law_kind", "_law_one", "_law_other"]) (bind4 rfl fun _ _ _ _ => rfl) rfl (by decide) (fun n => mem4 (.inl rfl) (.inl rfl) (.inl rfl) (.inl rfl)) rfl rfl rfl fun A L frs hE R O => ?_
  refine Ex_try O (Ex_ifp (Tp_cmp (Pe_var rfl) Pe_int B_eq beq_iff_eq) (fun _ => ?_) (fun _ => ?_))
  · refine Ex_expr (Ev_M1 W.kx pc R O.frames (Pe_var rfl) PA.i rfl fi_root ft_root (W.kx 265 _ rfl) rfl (Pe_var rfl) (Fn.mono (sp_root W U H x dx hd b n k kvs tx rk xk pt M PA E hk hxk PT HR) (fun d H2 z => ?_) fun C H2 z => ?_))
    · refine e0a4 z fun rq313 hM rq314 kp => ?_; clear z; obtain rfl := rq313; obtain ⟨kvs', PA', T⟩ := rq314
      obtain ⟨rk', E'⟩ := E.turn hxk T
      have F' : Fits kvs' b := T.fits E hxk PT hpt (fun v kv sv => Int.le_trans (HR.le v kv sv) hM) (fun v ys hy _ => F v ys hy)
      exact ⟨no_ref rfl, Ex_nil (Ex_ret (Pe.ev Pe_bool ⟨⟨_, rfl⟩, ⟨kvs', rk', PA', E', F', fun y => by rw [key_iff, T.keys, key_iff], by have := congrArg List.length T.keys; simpa using this⟩, kp⟩))⟩
    · refine e0a3 z fun e1 h1 rq315 => ?_; clear z; obtain rfl := rq315
      exact fun e => Hd_miss W.kx (fun kp => Pe_glob W.ok (W.glob rfl)) (Mt_one (by kernel_rfl)) (Hd_hit W.kx (fun kp => Pe_glob W.ok (W.glob rfl)) (Mt_one (by kernel_rfl)) (Ex_ret (Pe.ev Pe_bool ⟨(fun C q => nomatch q), ⟨_, rfl⟩, same e1⟩)))
  · refine Ex_expr (Ev_M2 W.kx pc R O.frames (Pe_var rfl) PA.i rfl fi_lean ft_lean (W.kx 279 _ rfl) rfl (Pe_var rfl) (Pe_var rfl) (Fn.mono (sp_lean W U H x dx hd b n k o kvs tx rk xo hi PA E hk ho hxo HI) (fun d H2 z => ?_) fun C H2 z => ?_))
    · refine e0a5 z fun rq316 hno hb rq317 kp => ?_; clear z; obtain rfl := rq316; obtain ⟨a, e, C, PA'⟩ := rq317
      refine e2a2 (lent_step (o := o) C) fun g dd eq st => ?_
      have PA2 : PackAt H2 x dx hd b n (dset kvs k (lent o (tx o) (tx k) a e)) := PA'
      rw [eq] at PA2
      obtain ⟨rk', E'⟩ := E.lean hk ho hxo hno st
      have F' : Fits (dset kvs k (.tup [.int o, chg a g dd])) b := F.lean E HI hxo hno hb hk rfl
      exact ⟨no_ref rfl, Ex_nil (Ex_ret (Pe.ev Pe_bool ⟨⟨_, rfl⟩, ⟨_, rk', PA2, E', F', fun y => by rw [key_iff, keys_dset hk, key_iff], by have := congrArg List.length (keys_dset (d := .tup [.int o, chg a g dd]) hk); simpa using this⟩, kp⟩))⟩
    · obtain ⟨e1, z⟩ := z
      rcases z with ⟨h1, rfl⟩ | ⟨h1, h2, rfl⟩
      · exact fun e => Hd_hit W.kx (fun kp => Pe_glob W.ok (W.glob rfl)) (Mt_one (by kernel_rfl)) (Ex_ret (Pe.ev Pe_bool ⟨(fun C q => nomatch q), ⟨_, rfl⟩, same e1⟩))
      · exact fun e => Hd_miss W.kx (fun kp => Pe_glob W.ok (W.glob rfl)) (Mt_one (by kernel_rfl)) (Hd_hit W.kx (fun kp => Pe_glob W.ok (W.glob rfl)) (Mt_one (by kernel_rfl)) (Ex_ret (Pe.ev Pe_bool ⟨(fun C q => nomatch q), ⟨_, rfl⟩, same e1⟩)))
structure J14 (H : AH) (x dx hd ta la : Addr) (b n : Int) (kvs ts : List (Int × V)) (tx : Int → List Nat) (rk : Int → Nat) (lt : List Nat) (u : Nat) : Prop where
  pa : PackAt H x dx hd b n kvs
  E : Held kvs tx rk
  F : Fits kvs b
  t : DictIs H ta ts
  X : Tx kvs ts tx
  pos : ∀ k, Key kvs k → 0 ≤ k ∧ k < n
  n0 : 0 ≤ n
  b0 : 0 ≤ b
  sh : ∀ k, Key kvs k → (tx k).length + 9 * u ≤ 9000
  few : kvs.length + u ≤ 39
  th : ta ≠ hd
  l : ListAt H la [.int n, .s lt]
  lh : lt.length + 9 * u ≤ 9000
theorem J14.ext {H H' : AH} {x dx hd ta la : Addr} {b n : Int} {kvs ts : List (Int × V)} {tx : Int → List Nat} {rk : Int → Nat} {lt : List Nat} {u : Nat} (J : J14 H x dx hd ta la b n kvs ts tx rk lt u) (e : Ext H H') : J14 H' x dx hd ta la b n kvs ts tx rk lt u :=
  { J with pa := J.pa.ext e, t := e.dict J.t, l := e.list J.l }
theorem J14.put {H H' : AH} {x dx hd ta la : Addr} {b n : Int} {kvs kvs' ts : List (Int × V)} {tx : Int → List Nat} {rk : Int → Nat} {lt l : List Nat} {u : Nat} {bes : V} (J : J14 H x dx hd ta la b n kvs ts tx rk lt (u + 1)) (S : Stored kvs kvs' tx b n l bes) (hl : l.length + 9 * u ≤ 9000)
    (pa : PackAt H' x dx hd b (n + 1) kvs') (t : DictIs H' ta (dset ts n (.s l))) (la' : ListAt H' la [.int (n + 1), .s l]) : ∃ rk', J14 H' x dx hd ta la b (n + 1) kvs' (dset ts n (.s l)) (fun y => if y = n then l else tx y) rk' l u := by
  have few := J.few
  have n0 := J.n0
  have hn : ¬ Key kvs n := fun h => by have := (J.pos n h).2; exact om345 this
  have hnt : n ∉ ts.map (·.1) := fun h => hn (J.X.kk n (key_iff.mpr h))
  obtain ⟨⟨rk', E'⟩, key, len, fits⟩ := S.facts J.E hn (by exact om346 few) (by exact om347 hl) J.b0
  have off : ∀ k, Key kvs k → k ≠ n := fun k h q => hn (q ▸ h)
  refine ⟨rk', pa, E', fits J.F, t, ⟨fun k hk => ?_, fun k hk => ?_, ?_, ?_⟩, fun k hk => ?_, by exact om252 n0, J.b0, fun k hk => ?_, by exact om348 few len, J.th, la', hl⟩
  · rcases (key k).mp hk with h | rfl
    · show dget _ k = some (.s (if k = n then l else tx k))
      rw [if_neg (off k h), dget_dset, if_neg (off k h)]; exact J.X.tt k h
    · show dget _ k = some (.s (if k = k then l else tx k))
      rw [if_pos rfl, dget_dset, if_pos rfl]
  · obtain ⟨d, hd⟩ := hk
    rw [dget_dset] at hd
    by_cases q : k = n
    · exact (key k).mpr (.inr q)
    · rw [if_neg q] at hd; exact (key k).mpr (.inl (J.X.kk k ⟨d, hd⟩))
  · rw [dset_new hnt, List.map_append, List.nodup_append]
    refine ⟨J.X.nd, by simp, fun a ha b hb => ?_⟩
    simp at hb; subst hb
    exact fun q => hnt (q ▸ ha)
  · rw [dset_new hnt, List.length_append, J.X.ln, len]; rfl
  · rcases (key k).mp hk with h | rfl
    · have := J.pos k h; exact om349 this
    · exact om350 n0
  · rcases (key k).mp hk with h | rfl
    · show (if k = n then l else tx k).length + 9 * u ≤ 9000
      rw [if_neg (off k h)]
      have := J.sh k h; exact om351 this
    · show (if k = k then l else tx k).length + 9 * u ≤ 9000
      rw [if_pos rfl]; exact hl
def Keep14 (H H' : AH) (dx hd ta la : Addr) : Prop := ∀ a, H a ≠ none → a ≠ dx → a ≠ hd → a ≠ ta → a ≠ la → H' a = H a
theorem sp_put14 (W : Lw c (KK P) sc ns) (H : AH) (x dx hd ta la : Addr) (b n one two : Int) (kvs ts : List (Int × V)) (tx : Int → List Nat) (rk : Int → Nat) (lt : List Nat) (u : Nat) (J : J14 H x dx hd ta la b n kvs ts tx rk lt (u + 1)) :
    Fn c 6 (.ref 413) [.ref x, .ref ta, .ref la, .int one, .int two] H (fun d H' => d = .bool true ∧ (∃ kvs' ts' tx' rk' lt', J14 H' x dx hd ta la b (n + 1) kvs' ts' tx' rk' lt' u) ∧ Keep14 H H' dx hd ta la) (fun _ _ => False) := by
  have hs : 1000000 ≤ sizeLine := by decide
  have few := J.few
  have tl := J.X.ln
  have lh := J.lh
  have hn : ¬ Key kvs n := fun h => by have := (J.pos n h).2; exact om345 this
  refine Fn.gen fun QQ hQQ => ?_
  refine Fn_def W.ok.lim (W.kx 413 _ rfl) rfl rfl (codeRec_of W.kx rfl) rfl (names := ["_law_pack", "_law_texts", "_law_last", "_law_one", "_law_two"]) (bind5 rfl fun _ _ _ _ _ => rfl) rfl (by decide) (fun n => mem5 (.inl rfl) (.inl rfl) (.inl rfl) (.inl rfl) (.inl rfl)) rfl rfl rfl fun A L frs hE R O => ?_
  have R1 : Room 1 A := R.le (by exact om352)
  have R3 : Room 3 A := R.le (by exact om353)
  refine Ex_assign (Ev_F2e W.ok (W.glob rfl) (W.kx 352 _ rfl) rfl R1 O.frames (Pe.ev (Pe_var rfl) (Ev_B1e W.ok (gb_sorted W) (Pe.ev (Pe_var rfl) (O_sorted W.ok R.handled J.t (by exact om354 few tl) fun a1 o1 s h1 pm pw => Fn.mono (sp_beside W _ one a1 s (ListAt.same _ _ _ _) ?_) (fun d H1' z => ?_) fun _ _ z => z.elim))))) (.inl rfl)
  · have := pm.length_eq; rw [List.length_map] at this; exact om355 few tl this
  obtain ⟨rfl, z⟩ := z
  have S : Srt kvs s := J.X.srt J.E.nd ⟨pm, pw⟩
  have e1 : Ext H (H.set a1 ⟨o1, .list (s.map V.int)⟩) := Ext.set (Ext.refl _) h1
  generalize H.set a1 ⟨o1, .list (s.map V.int)⟩ = H1 at e1 ⊢
  have J1 := J.ext e1
  have hbes : d = .none ∨ ∃ o, d = .int o ∧ Key kvs o := by
    rcases z with z | ⟨o, z, h⟩
    · exact .inl z
    · exact .inr ⟨o, z, S.mem.mp h⟩
  clear z
  obtain ⟨o, ho⟩ : ∃ o, d ≠ .none → d = .int o ∧ Key kvs o := by
    rcases hbes with z | ⟨o, z, h⟩
    · exact ⟨0, fun q => (q z).elim⟩
    · exact ⟨o, fun _ => ⟨z, h⟩⟩
  refine Ex_assign (Pe.ev (Pe_sub (Pe_var rfl) Pe_int (G_list (d := .s lt) (j := 1) J1.l rfl rfl (by decide))) ?_) (.inl rfl)
  refine Ex_if_set (Tp_isNotNone (Pe_var rfl)) (fun g => Pe_sub (d := .s (tx o)) (Pe_var rfl) (Pe_var rfl) (by rw [(ho g).1]; exact G_dict J1.t (J.X.tt o (ho g).2))) (fun d2 hd2 => ?_) (.inl rfl)
  obtain ⟨old, rfl, hold⟩ : ∃ old, d2 = .s old ∧ old.length + 9 * (u + 1) ≤ 9000 := by
    rcases hd2 with ⟨g, rfl⟩ | ⟨_, rfl⟩
    · exact ⟨tx o, rfl, J.sh o (ho g).2⟩
    · exact ⟨lt, rfl, lh⟩
  clear hd2
  refine Ex_assign (Ev_F2 W.ok (W.glob rfl) (W.kx 345 _ rfl) rfl R3 O.frames (Pe_var rfl) (Pe_var rfl) (Fn.mono (sp_next_text W H1 old two (by exact om356 hold)) (fun d3 H2 z => ?_) fun _ _ z => z.elim)) (.inl rfl)
  obtain ⟨rfl, l, rfl, hl⟩ := z
  refine Ex_assign (Ev_M2 W.kx pc R O.frames (Pe_var rfl) J1.pa.i rfl fi_store ft_store (W.kx 204 _ rfl) rfl (Pe_var rfl) (Pe_var rfl) (Fn.mono (sp_store W H2 x dx hd b n d kvs tx rk l J1.pa J.E (by exact om346 few) (by exact om357 hold hl) hn J.b0 hbes) (fun d4 H3 z => ?_) fun _ _ z => z.elim)) (.inl rfl)
  refine e0a3 z fun rq318 rq319 kp => ?_; clear z; obtain rfl := rq318; obtain ⟨kvs', PA3, ST⟩ := rq319
  have nt := J1.pa.i.ne_dict J1.t
  have nl := J1.pa.i.ne_list J1.l
  have lth := J1.l.ne_dict J1.pa.d
  have ltt := J1.l.ne_dict J1.t
  have t3 : DictIs H3 ta ts := by
    obtain ⟨oo, e⟩ := J1.t
    exact ⟨oo, (kp ta (by rw [e]; exact fun z => nomatch z) nt.2.symm J.th).trans e⟩
  have l3 : ListAt H3 la [.int n, .s lt] := by
    obtain ⟨oo, e⟩ := J1.l
    exact ⟨oo, (kp la (by rw [e]; exact fun z => nomatch z) nl.2.symm lth).trans e⟩
  refine Ex_ifp (Tp_or (Tpo_cons (Tp_not (Tp_val (P := True) (Pe_F1 W.ok (W.glob rfl) (W.kx 326 _ rfl) rfl R1 O.frames (Pe_var rfl) (sp_whole W H3 n)) (by simp))) fun _ => Tpo_cons (P := False) (Tp_cmp (Pe_var rfl) (Pe_sub (Pe_var rfl) Pe_int (G_list (d := .int n) (j := 0) l3 rfl rfl (by decide))) B_ne (by simp)) fun _ => Tpo_nil)) (fun g => by simp at g) (fun _ => ?_)
  refine Ex_store (Pe.ev (Pe_var rfl) (Pe.ev (Pe_var rfl) (Pe.ev (Pe_var rfl) ⟨ta, ts, n, rfl, rfl, t3, by exact om358 hs few tl, fun o4 => ?_⟩)))
  have nt3 := PA3.i.ne_dict t3
  have t4 := DictIs.same H3 ta o4 (dset ts n (.s l))
  have l4 := l3.ne (x := ⟨o4, .dict (dset ts n (.s l))⟩) ltt
  have pa4 : PackAt (H3.set ta ⟨o4, .dict (dset ts n (.s l))⟩) x dx hd b (n + 1) kvs' := ⟨PA3.i.ne nt3.1 nt3.2, PA3.d.ne J.th.symm⟩
  have k4 : ∀ a, a ≠ ta → (H3.set ta ⟨o4, .dict (dset ts n (.s l))⟩) a = H3 a := fun a h => set_ne _ _ h
  generalize H3.set ta ⟨o4, .dict (dset ts n (.s l))⟩ = H4 at t4 l4 pa4 k4 ⊢
  refine Ex_storeL (Pe.ev (Pe_bin (Pe_var rfl) Pe_int B_add) (Pe.ev (Pe_var rfl) (Pe.ev Pe_int ⟨la, _, 0, rfl, rfl, l4, by simp, by decide, fun o5 => ?_⟩)))
  have l5 : ListAt (H4.set la ⟨o5, .list ([V.int n, .s lt].set 0 (.int (n + 1)))⟩) la [.int (n + 1), .s lt] := ListAt.same _ _ _ _
  have nl4 := pa4.i.ne_list l4
  have t5 := t4.ne (x := ⟨o5, .list ([V.int n, .s lt].set 0 (.int (n + 1)))⟩) ltt.symm
  have pa5 : PackAt (H4.set la ⟨o5, .list ([V.int n, .s lt].set 0 (.int (n + 1)))⟩) x dx hd b (n + 1) kvs' := ⟨pa4.i.ne nl4.1 nl4.2, pa4.d.ne lth.symm⟩
  have k5 : ∀ a, a ≠ la → (H4.set la ⟨o5, .list ([V.int n, .s lt].set 0 (.int (n + 1)))⟩) a = H4 a := fun a h => set_ne _ _ h
  generalize H4.set la ⟨o5, .list ([V.int n, .s lt].set 0 (.int (n + 1)))⟩ = H5 at t5 l5 pa5 k5 ⊢
  refine Ex_storeL (Pe.ev (Pe_var rfl) (Pe.ev (Pe_var rfl) (Pe.ev Pe_int ⟨la, _, 1, rfl, rfl, l5, by simp, by decide, fun o6 => ?_⟩)))
  have l6 : ListAt (H5.set la ⟨o6, .list ([V.int (n + 1), .s lt].set 1 (.s l))⟩) la [.int (n + 1), .s l] := ListAt.same _ _ _ _
  have t6 := t5.ne (x := ⟨o6, .list ([V.int (n + 1), .s lt].set 1 (.s l))⟩) ltt.symm
  have pa6 : PackAt (H5.set la ⟨o6, .list ([V.int (n + 1), .s lt].set 1 (.s l))⟩) x dx hd b (n + 1) kvs' := ⟨pa5.i.ne nl4.1 nl4.2, pa5.d.ne lth.symm⟩
  have k6 : ∀ a, a ≠ la → (H5.set la ⟨o6, .list ([V.int (n + 1), .s lt].set 1 (.s l))⟩) a = H5 a := fun a h => set_ne _ _ h
  generalize H5.set la ⟨o6, .list ([V.int (n + 1), .s lt].set 1 (.s l))⟩ = H6 at t6 l6 pa6 k6 ⊢
  obtain ⟨rk', J6⟩ := J1.put ST (by exact om359 hold hl) pa6 t6 l6
  refine Ex_ret (Pe.ev Pe_bool (hQQ _ _ ⟨rfl, ⟨_, _, _, rk', _, J6⟩, fun a ha n1 n2 n3 n4 => ?_⟩))
  have q1 : H2 a ≠ none := by rw [e1 a ha]; exact ha
  rw [k6 a n4, k5 a n4, k4 a n3, kp a q1 n1 n2, e1 a ha]
theorem Tx.of {kvs ts : List (Int × V)} {tx : Int → List Nat} (tt : ∀ k, Key kvs k → dget ts k = some (.s (tx k))) (kk : ∀ k, Key ts k → Key kvs k) (nd : (ts.map (·.1)).Nodup) (nd' : (kvs.map (·.1)).Nodup) : Tx kvs ts tx :=
  ⟨tt, kk, nd, by
    have := ((List.perm_ext_iff_of_nodup nd nd').mpr fun k => by rw [← key_iff, ← key_iff]; exact ⟨kk k, fun h => ⟨_, tt k h⟩⟩).length_eq
    simpa using this⟩
theorem J14.less {H : AH} {x dx hd ta la : Addr} {b n : Int} {kvs ts : List (Int × V)} {tx : Int → List Nat} {rk : Int → Nat} {lt : List Nat} {u u' : Nat} (J : J14 H x dx hd ta la b n kvs ts tx rk lt u) (h : u' ≤ u) : J14 H x dx hd ta la b n kvs ts tx rk lt u' :=
  { J with sh := fun k hk => by have := J.sh k hk; exact om360 h this, few := by have := J.few; exact om361 h this, lh := by have := J.lh; exact om360 h this }
theorem J14.alike {H H' : AH} {x dx hd ta la : Addr} {b n : Int} {kvs kvs' ts : List (Int × V)} {tx : Int → List Nat} {rk rk' : Int → Nat} {lt : List Nat} {u : Nat} (J : J14 H x dx hd ta la b n kvs ts tx rk lt u) (pa : PackAt H' x dx hd b n kvs') (E : Held kvs' tx rk') (F : Fits kvs' b) (key : ∀ y, Key kvs' y ↔ Key kvs y) (len : kvs'.length = kvs.length) (kp : Keeps H H' dx hd) : J14 H' x dx hd ta la b n kvs' ts tx rk' lt u := by
  have nt := J.pa.i.ne_dict J.t
  have nl := J.pa.i.ne_list J.l
  have lth := J.l.ne_dict J.pa.d
  refine { J with pa := pa, E := E, F := F, t := ?_, X := ⟨fun k h => J.X.tt k ((key k).mp h), fun k h => (key k).mpr (J.X.kk k h), J.X.nd, by rw [len]; exact J.X.ln⟩, pos := fun k h => J.pos k ((key k).mp h), sh := fun k h => J.sh k ((key k).mp h), few := by rw [len]; exact J.few, l := ?_ }
  · obtain ⟨oo, e⟩ := J.t
    exact ⟨oo, (kp ta (by rw [e]; exact fun z => nomatch z) nt.2.symm J.th).trans e⟩
  · obtain ⟨oo, e⟩ := J.l
    exact ⟨oo, (kp la (by rw [e]; exact fun z => nomatch z) nl.2.symm lth).trans e⟩
theorem sp_deed14 (W : Lw c (KK P) sc ns) (U : Own c (KK P)) (H : AH) (x dx hd ta la : Addr) (b n one two : Int) (kvs ts : List (Int × V)) (tx : Int → List Nat) (rk : Int → Nat) (lt : List Nat) (u : Nat) (J : J14 H x dx hd ta la b n kvs ts tx rk lt (u + 1)) :
    Fn c 7 (.ref 420) [.ref x, .ref ta, .ref la, .int one, .int two] H (fun d H' => d = .bool true ∧ (∃ n' kvs' ts' tx' rk' lt', J14 H' x dx hd ta la b n' kvs' ts' tx' rk' lt' u) ∧ Keep14 H H' dx hd ta la) (fun _ _ => False) := by
  have hs : 1000000 ≤ sizeLine := by decide
  have few := J.few
  have tl := J.X.ln
  refine Fn.gen fun QQ hQQ => ?_
  refine Fn_def W.ok.lim (W.kx 420 _ rfl) rfl rfl (codeRec_of W.kx rfl) rfl (names := ["_law_pack", "_law_texts", "_law_last", "_law_one", "_law_two"]) (bind5 rfl fun _ _ _ _ _ => rfl) rfl (by decide) (fun n => mem5 (.inl rfl) (.inl rfl) (.inl rfl) (.inl rfl) (.inl rfl)) rfl rfl rfl fun A L frs hE R O => ?_
  have R4 : Room 4 A := R.le (by exact om362)
  have hu : A.units + 100 < cLine := by have := R.units; exact om363 this
  refine Ex_assign (Pe.ev (Pe_bin (Pe_var rfl) Pe_int (B_mod (by decide))) ?_) (.inl rfl)
  refine Ex_assign (Ev_B1e W.ok (gb_sorted W) (Pe.ev (Pe_var rfl) (O_sorted W.ok R.handled J.t (by exact om354 few tl) fun a1 o1 s h1 pm pw => ?_))) (.inl rfl)
  have S : Srt kvs s := J.X.srt J.E.nd ⟨pm, pw⟩
  have sl := S.len
  have e1 : Ext H (H.set a1 ⟨o1, .list (s.map V.int)⟩) := Ext.set (Ext.refl _) h1
  have l1 := ListAt.same H a1 o1 (s.map V.int)
  generalize H.set a1 ⟨o1, .list (s.map V.int)⟩ = H1 at e1 l1 ⊢
  have J1 := J.ext e1
  have trans : ∀ {H' : AH}, Keep14 H1 H' dx hd ta la → Keep14 H H' dx hd ta la := fun k a ha n1 n2 n3 n4 => (k a (by rw [e1 a ha]; exact ha) n1 n2 n3 n4).trans (e1 a ha)
  refine Ex_ifp (Tp_or (Tpo_cons (Tp_cmp (Pe_var rfl) Pe_int B_lt decide_eq_true_iff) fun _ => Tpo_cons (P := s = []) (Tp.of_ext (Ts_cmp (Pe.ev (Pe_var rfl) (Ev_list W.ok (Evs_nil ⟨Nat.zero_le _, fun a0 o0 h0 => (B_eql_ints (l' := []) (l1.fresh h0) (ListAt.same _ _ _ _) (by show A.units + _ < _; exact om310 hu)).op ⟨_, rfl, Ext.set (Ext.refl _) h0, decide_eq_true_iff⟩⟩))))) fun _ => Tpo_nil)) (fun _ => ?_) (fun g => ?_)
  · refine Ex_ret (Ev_FN W.ok (W.glob rfl) (W.kx 413 _ rfl) rfl R O.frames (Pes_cons (Pe_var rfl) (Pes_cons (Pe_var rfl) (Pes_cons (Pe_var rfl) (Pes_cons (Pe_bin (Pe_var rfl) Pe_int (B_div (by decide) (by decide))) (Pes_cons (Pe_var rfl) Pes_nil))))) (Fn.mono (sp_put14 W H1 x dx hd ta la b n (one / 9) two kvs ts tx rk lt u J1) (fun d H2 z => ?_) fun _ _ z => z.elim))
    refine e0a3 z fun rq320 rq321 kp => ?_; clear z; obtain rfl := rq320; obtain ⟨kvs', ts', tx', rk', lt', J2⟩ := rq321
    exact hQQ _ _ ⟨rfl, ⟨_, kvs', ts', tx', rk', lt', J2⟩, trans kp⟩
  have sne : s ≠ [] := fun q => g (.inr (.inl q))
  have hne : kvs ≠ [] := fun q => by rw [q] at sl; exact sne (List.eq_nil_of_length_eq_zero sl)
  have h0 : 0 < kvs.length := List.length_pos_iff.mpr hne
  obtain ⟨k, hk, _, pk⟩ := pick S hne (by exact om364 few) (one / 9)
  obtain ⟨o, ho, _, pk2⟩ := pick S hne (by exact om364 few) two
  refine Ex_assign (Pe.ev (Pe_sub (Pe_var rfl) (Pe_bin (Pe_bin (Pe_var rfl) Pe_int (B_div (by decide) (by decide))) (Pe_B1 W.ok (gb_len W) (Pe_var rfl) (L_list l1 (by rw [List.length_map]; exact om358 hs few sl))) (B_mod (by rw [List.length_map]; exact om285 sl h0))) (pk l1)) ?_) (.inl rfl)
  have stay : QQ (.bool true) H1 := hQQ _ _ ⟨rfl, ⟨n, kvs, ts, tx, rk, lt, J1.less (by exact om57)⟩, fun a ha _ _ _ _ => e1 a ha⟩
  refine Ex_ifp (P := one % 9 = 5 ∨ one % 9 = 6 ∨ False) (Tp_or (Tpo_cons (Tp_cmp (Pe_var rfl) Pe_int B_eq beq_iff_eq) fun _ => Tpo_cons (Tp_cmp (Pe_var rfl) Pe_int B_eq beq_iff_eq) fun _ => Tpo_nil)) (fun _ => ?_) (fun _ => ?_)
  · refine Ex_exprA (Ev_FN W.ok (W.glob rfl) (W.kx 406 _ rfl) rfl R O.frames (Pes_cons (Pe_var rfl) (Pes_cons (Pe_var rfl) (Pes_cons (Pe_var rfl) (Pes_cons (Pe_sub (Pe_var rfl) (Pe_bin (Pe_var rfl) (Pe_B1 W.ok (gb_len W) (Pe_var rfl) (L_list l1 (by rw [List.length_map]; exact om358 hs few sl))) (B_mod (by rw [List.length_map]; exact om285 sl h0))) (pk2 l1)) Pes_nil)))) (Fn.mono (sp_tried14 W U H1 x dx hd b n (one % 9) k o kvs tx rk J1.pa J.E J.F hk ho) (fun d H2 z => ?_) fun _ _ z => z.elim))
    refine e0a3 z fun _ rq322 kp => ?_; clear z; obtain ⟨kvs', rk', PA', E', F', key, len⟩ := rq322
    exact Ex_ret (Pe.ev Pe_bool (hQQ _ _ ⟨rfl, ⟨n, kvs', ts, tx, rk', lt, (J1.alike PA' E' F' key len kp).less (by exact om57)⟩, trans fun a ha n1 n2 _ _ => kp a ha n1 n2⟩))
  · refine Ex_ifp (Tp_cmp (Pe_var rfl) Pe_int B_ne (by simp; exact Iff.rfl)) (fun _ => ?_) (fun _ => Ex_ret (Pe.ev Pe_bool stay))
    obtain ⟨ls, LS⟩ : ∃ ls, Leans kvs k ls := ⟨_, leans_of S J.E.nd k⟩
    refine Ex_exprA (Ev_M1 W.kx pc R4 O.frames (Pe_var rfl) J1.pa.i rfl fi_forget ft_forget (W.kx 284 _ rfl) rfl (Pe_var rfl) (Fn.mono (sp_forget W H1 x dx hd b n k kvs tx rk ls J1.pa J.E hk LS) (fun d H2 z => ?_) fun _ _ z => z.elim))
    refine e0a3 z fun rq323 rq324 kp => ?_; clear z; obtain rfl := rq323; obtain ⟨kvs', PA', FG⟩ := rq324
    obtain ⟨rk', E'⟩ := J.E.forget hk LS FG
    have F' : Fits kvs' b := Fits.forget J.E hk LS FG J.F
    have nt := J1.pa.i.ne_dict J1.t
    have nl := J1.pa.i.ne_list J1.l
    have lth := J1.l.ne_dict J1.pa.d
    have ltt := J1.l.ne_dict J1.t
    have t2 : DictIs H2 ta ts := by
      obtain ⟨oo, e⟩ := J1.t
      exact ⟨oo, (kp ta (by rw [e]; exact fun z => nomatch z) nt.2.symm J.th).trans e⟩
    have l2 : ListAt H2 la [.int n, .s lt] := by
      obtain ⟨oo, e⟩ := J1.l
      exact ⟨oo, (kp la (by rw [e]; exact fun z => nomatch z) nl.2.symm lth).trans e⟩
    have nt2 := PA'.i.ne_dict t2
    refine Ex_popS (Pe_var rfl) (Pe_var rfl) t2 (J.X.tt k hk) (by exact om358 hs few tl) fun o3 => ?_
    have old : ∀ y, Key kvs' y → Key kvs y ∧ y ≠ k := fun y h => (FG.key y).mp h
    refine Ex_ret (Pe.ev Pe_bool (hQQ _ _ ⟨rfl, ⟨n, kvs', ddel ts k, tx, rk', lt, ?_⟩, trans fun a ha n1 n2 n3 _ => (set_ne _ _ n3).trans (kp a ha n1 n2)⟩))
    have fl := FG.len
    refine ⟨⟨PA'.i.ne nt2.1 nt2.2, PA'.d.ne J.th.symm⟩, E', F', DictIs.same _ _ _ _, Tx.of (fun y h => ?_) (fun y h => ?_) (ddel_nd J.X.nd) E'.nd, fun y h => J.pos y (old y h).1, J.n0, J.b0, fun y h => ?_, by exact om365 few fl, J.th, l2.ne ltt, by have := J.lh; exact om351 this⟩
    · rw [dget_ddel, if_neg (old y h).2]; exact J.X.tt y (old y h).1
    · obtain ⟨d, hd⟩ := h
      rw [dget_ddel] at hd
      by_cases q : y = k
      · rw [if_pos q] at hd; cases hd
      · rw [if_neg q] at hd; exact (FG.key y).mpr ⟨J.X.kk y ⟨d, hd⟩, q⟩
    · have := J.sh y (old y h).1; exact om351 this
theorem Ev_told3 (W : Lw c (KK P) sc ns) {f : Fx} {m : Loc} {H : AH} {X : Value → AH → Prop} {Q : V → AH → Prop} {at_ r1 r2 r3 : Addr} {L1 L2 : List V} {D3 : List (Int × V)} {p0 p1 p2 p3 p4 p5 q1 q2 q3 q4 q5 s1 s2 s3 s4 s5 : Pos} {k1 k2 k3 : Nat}
    (hm : m (Str.ofString "_law_told") = some (.ref at_)) (lt : ListAt H at_ [.ref r1, .ref r2, .ref r3]) (l1 : ListAt H r1 L1) (l2 : ListAt H r2 L2) (l3 : DictIs H r3 D3) (z1 : L1.length ≤ 1000) (z2 : L2.length ≤ 1000) (z3 : D3.length ≤ 1000)
    (q : ∀ ac b1 b2 b3 H', Ext H H' → H b1 = none → H b2 = none → H b3 = none → H ac = none → ListAt H' b1 L1 → ListAt H' b2 L2 → DictIs H' b3 D3 → ListAt H' ac [.ref b1, .ref b2, .ref b3] → Q (.ref ac) H')
    (hg : f.env.globals = mainGlobals := by rfl) (hb : f.env.builtins = builtinsNs := by rfl) (hk : f.env.scope.kind = .function := by rfl) (hn : f.env.kindOf (Str.ofString "list") = some .globalImplicit := by rfl) (hn2 : f.env.kindOf (Str.ofString "dict") = some .globalImplicit := by rfl) :
    Ev c f (.List [.Call (.Name (Str.ofString "list") p1) [.Subscript (.Name (Str.ofString "_law_told") p2) (.Constant (.int 0) k1 p3) p4] [] p5, .Call (.Name (Str.ofString "list") q1) [.Subscript (.Name (Str.ofString "_law_told") q2) (.Constant (.int 1) k2 q3) q4] [] q5, .Call (.Name (Str.ofString "dict") s1) [.Subscript (.Name (Str.ofString "_law_told") s2) (.Constant (.int 2) k3 s3) s4] [] s5] p0) m H Q X := by
  have hs : 1000000 ≤ sizeLine := by decide
  refine Ev_list W.ok (Evs_cons (Ev_T1 W.ok (gb_list W) (Pe_sub (Pe_var hm hk) Pe_int (G_list (d := .ref r1) (j := 0) lt rfl rfl (by decide))) (O_copy W.ok l1 (by exact om366 z1 hs) fun b1 ob1 hb1 => ?_) hg hb hk hn))
  have f6 := Ext.set (x := ⟨ob1, .list L1⟩) (Ext.refl H) hb1
  have lb1 := ListAt.same H b1 ob1 L1
  generalize H.set b1 ⟨ob1, .list L1⟩ = H8 at f6 lb1 ⊢
  refine Evs_cons (Ev_T1 W.ok (gb_list W) (Pe_sub (Pe_var hm hk) Pe_int (G_list (d := .ref r2) (j := 1) (f6.list lt) rfl rfl (by decide))) (O_copy W.ok (f6.list l2) (by exact om366 z2 hs) fun b2 ob2 hb2 => ?_) hg hb hk hn)
  have f7 := Ext.set (x := ⟨ob2, .list L2⟩) (Ext.refl H8) hb2
  have lb2 := ListAt.same H8 b2 ob2 L2
  generalize H8.set b2 ⟨ob2, .list L2⟩ = H9 at f7 lb2 ⊢
  have e9 := f6.trans f7
  refine Evs_cons (Ev_T1 W.ok (gb_dict W) (Pe_sub (Pe_var hm hk) Pe_int (G_list (d := .ref r3) (j := 2) (e9.list lt) rfl rfl (by decide))) (O_dict W.ok (e9.dict l3) (by exact om366 z3 hs) fun b3 ob3 hb3 => ?_) hg hb hk hn2)
  have f8 := Ext.set (x := ⟨ob3, .dict D3⟩) (Ext.refl H9) hb3
  have lb3 := DictIs.same H9 b3 ob3 D3
  generalize H9.set b3 ⟨ob3, .dict D3⟩ = H10 at f8 lb3 ⊢
  refine Evs_nil ⟨by show 3 ≤ sizeLine; exact om367 hs, fun ac oc hac => ?_⟩
  have f10 := Ext.set (x := ⟨oc, .list [.ref b1, .ref b2, .ref b3]⟩) (Ext.refl H10) hac
  have e10 := e9.trans f8
  exact q ac b1 b2 b3 _ (e10.trans f10) hb1 (f6.none hb2) (e9.none hb3) (e10.none hac) ((f7.trans (f8.trans f10)).list lb1) ((f8.trans f10).list lb2) (f10.dict lb3) (ListAt.same _ _ _ _)
theorem three {p : V → V → Prop} {a b d a' b' d' : V} (h1 : p a a') (h2 : p b b') (h3 : p d d') : ∀ (j : Nat) d₁ d₂, [a, b, d][j]? = some d₁ → [a', b', d'][j]? = some d₂ → p d₁ d₂
  | 0, _, _, x, y => by cases x; cases y; exact h1
  | 1, _, _, x, y => by cases x; cases y; exact h2
  | 2, _, _, x, y => by cases x; cases y; exact h3
  | n + 3, _, _, x, _ => by simp at x
inductive S14 (c : Cx) (sc ta la ah : Addr) (b : Int) (u pl : Nat) (m : Loc) (H : AH) : Prop
  | mk (x dx hd : Addr) (n : Int) (kvs ts : List (Int × V)) (tx : Int → List Nat) (rk : Int → Nat) (lt : List Nat) (G : AH) (ps : List V) : (J14 H x dx hd ta la b n kvs ts tx rk lt u) → (ah ≠ la) → (ListAt H ah ps) → (ps.length ≤ pl) → (Ext G H) → ((G dx = none ∧ G hd = none ∧ G ta = none ∧ G la = none ∧ G ah = none)) → ((∀ d ∈ ps, Pair c G d)) → (m (Str.ofString "_law_script") = some (.ref sc)) → (m (Str.ofString "_law_bound") = some (.int b)) → (m (Str.ofString "_law_pack") = some (.ref x)) → (m (Str.ofString "_law_texts") = some (.ref ta)) → (m (Str.ofString "_law_last") = some (.ref la)) → (m (Str.ofString "_law_held") = some (.ref ah)) → S14 c sc ta la ah b u pl m H
theorem ext_keep14 {G H H' : AH} {dx hd ta la : Addr} (g : Ext G H) (k : Keep14 H H' dx hd ta la) (g1 : G dx = none) (g2 : G hd = none) (g3 : G ta = none) (g4 : G la = none) : Ext G H' := fun a h =>
  (k a (by rw [g a h]; exact h) (fun e => h (e ▸ g1)) (fun e => h (e ▸ g2)) (fun e => h (e ▸ g3)) (fun e => h (e ▸ g4))).trans (g a h)
theorem J14.keep_list {H H' : AH} {x dx hd ta la ah : Addr} {b n : Int} {kvs ts : List (Int × V)} {tx : Int → List Nat} {rk : Int → Nat} {lt : List Nat} {u : Nat} {ps : List V} (J : J14 H x dx hd ta la b n kvs ts tx rk lt u) (h : ah ≠ la) (l : ListAt H ah ps) (k : Keep14 H H' dx hd ta la) : ListAt H' ah ps := by
  have q1 := (J.pa.i.ne_list l).2.symm
  have q2 := l.ne_dict J.pa.d
  have q3 := l.ne_dict J.t
  obtain ⟨o, e⟩ := l
  exact ⟨o, (k ah (by rw [e]; exact fun z => nomatch z) q1 q2 q3 h).trans e⟩
theorem law14 (W : Lw c (KK P) sc ns) (U : Own c (KK P)) : Fn c 40 (.ref 425) [.ref sc] (fun _ => none) (fun d _ => d = .bool true) (fun _ _ => False) := by
  have hs : 1000000 ≤ sizeLine := by decide
  refine Fn_def W.ok.lim (W.kx 425 _ rfl) rfl rfl (codeRec_of W.kx rfl) rfl (names := ["_law_script"]) (bind1 rfl fun _ => rfl) rfl (by decide) (fun n => mem1 (.inl rfl)) rfl rfl rfl fun A L frs hE R O => ?_
  have R1 : Room 1 A := R.le (by exact om368)
  have R2 : Room 2 A := R.le (by exact om369)
  have R3 : Room 3 A := R.le (by exact om370)
  have R4 : Room 4 A := R.le (by exact om371)
  have R5 : Room 5 A := R.le (by exact om372)
  have R6 : Room 6 A := R.le (by exact om373)
  have R7 : Room 7 A := R.le (by exact om374)
  have hu : A.units + 400 < cLine := by have := R.units; exact om375 this
  refine Ex_assign (Ev_F1 W.ok (W.glob rfl) (W.kx 359 _ rfl) rfl R1 O.frames (Pe_cell W R1 O.frames rfl) (Fn.mono (sp_bound_by W _ (cellAt ns 0)) (fun d H1 z => ?_) fun _ _ z => z.elim)) (.inl rfl)
  obtain ⟨rfl, bd, rfl, b0, b1⟩ := z
  refine Ex_assign (Ev_pack W R3 O.frames (Pe_var rfl) b0 b1 fun x dx hd H2 e2 hx hdx hhd PA => ?_) (.inl rfl)
  refine Ex_assign (Ev_dict0 W.ok fun ta ot ht => ?_) (.inl rfl)
  have PA3 := PA.ext (Ext.set (x := ⟨ot, .dict []⟩) (Ext.refl _) ht)
  have T3 := DictIs.same H2 ta ot []
  have th : ta ≠ hd := (PA.d.ne_new ht).symm
  generalize H2.set ta ⟨ot, .dict []⟩ = H3 at PA3 T3 ⊢
  refine Ex_assign (Ev_list W.ok (Pes.evs (Pes_cons Pe_int (Pes_cons (Pe_strl (l := []) (by decide)) Pes_nil)) ⟨by show 2 ≤ sizeLine; exact om225 hs, fun la ol hl => ?_⟩)) (.inl rfl)
  have e4 : Ext H3 (H3.set la ⟨ol, .list [.int 0, .s []]⟩) := Ext.set (Ext.refl _) hl
  have PA4 := PA3.ext e4
  have T4 := e4.dict T3
  have l4 := ListAt.same H3 la ol [.int 0, .s []]
  generalize H3.set la ⟨ol, .list [.int 0, .s []]⟩ = H4 at PA4 T4 l4 ⊢
  have J4 : J14 H4 x dx hd ta la bd 0 [] [] (fun _ => []) (fun _ => 0) [] 29 :=
    ⟨PA4, Held.nil fun _ => by exact om132, fun k xs h => (by
      obtain ⟨r, e⟩ := h.head
      obtain ⟨d, q⟩ := h.keys k (by rw [e]; exact .head _)
      cases q), T4, ⟨fun k ⟨d, h⟩ => (nomatch h), fun k ⟨d, h⟩ => (nomatch h), List.nodup_nil, rfl⟩, fun k ⟨d, h⟩ => (nomatch h), by exact om376, b0, fun k ⟨d, h⟩ => (nomatch h), by simp, th, l4, by simp⟩
  refine Ex_assign (Ev_list W.ok (Evs_nil ⟨Nat.zero_le _, fun ah oh hh => ?_⟩)) (.inl rfl)
  have J5 := J4.ext (Ext.set (x := ⟨oh, .list []⟩) (Ext.refl _) hh)
  have la5 := ListAt.same H4 ah oh []
  have hal : ah ≠ la := (l4.ne_new hh).symm
  generalize H4.set ah ⟨oh, .list []⟩ = H5 at J5 la5 ⊢
  refine Ex_ifj (fun m2 H2 => S14 c sc ta la ah bd 14 0 m2 H2) (Tp_cmp (Pe_bin (Pe_cell W R1 O.frames rfl) Pe_int (B_mod (by decide))) Pe_int B_eq beq_iff_eq) (fun _ => ?_) (fun _ => ?_) ?_
  · refine Ex_for O (EvIt_range1 R.handled ((Pe_glob W.ok (gb_range W)).ev ⟨rfl, Pe.ev Pe_int ⟨_, rfl, by decide, by decide, fun i m' H' => i ≤ 15 ∧ S14 c sc ta la ah bd (29 - i) 0 m' H', ⟨by exact om377, x, dx, hd, 0, _, _, _, _, _, (fun _ => none), [], J5, hal, la5, by simp, fun a h => (h rfl).elim, ⟨rfl, rfl, rfl, rfl, rfl⟩, fun d h => (nomatch h), rfl, rfl, rfl, rfl, rfl, rfl⟩, ?_, ?_⟩⟩)) (.inl rfl)
    · rintro i d m' H' kpp hdd ⟨hi3, hS⟩ _
      refine Ex.gen fun QQ hQ => ?_
      refine e1a2 (map_item hdd) fun j hj rq325 => ?_; obtain rfl := rq325
      obtain ⟨hj1, hj2⟩ := List.getElem?_eq_some_iff.mp hj
      rw [List.length_range] at hj1
      rw [List.getElem_range] at hj2
      subst hj2
      have hi2 : i < 15 := hj1
      obtain ⟨u, hu3⟩ : ∃ u, 29 - i = u + 1 := ⟨28 - i, by exact om378 hi2⟩
      rw [hu3] at hS
      have hu4 : 29 - (i + 1) = u := by exact om379 hu3
      clear J5 J4 la5 l4 T4 PA4 PA3 T3 e4
      obtain ⟨x, dx, hd, n, kvs, ts, tx, rk, lt, G, ps, J, hal, la5, pl, g, gn, hp, ms, mb, mp, mt, ml, mh⟩ := hS
      refine Ex_if (Ts_not (Ts_val (Ev_FN W.ok (W.glob rfl) (W.kx 413 _ rfl) rfl R6 O.frames (Pes_cons (Pe_var mp) (Pes_cons (Pe_var mt) (Pes_cons (Pe_var ml) (Pes_cons (Pe_bin Pe_int (Pe_bin (Pe_var rfl) (Pe_bin (Pe_bin (Pe_cell W R1 O.frames ms) Pe_int (B_div (by decide) (by decide))) Pe_int (B_mod (by decide))) (B_mul (mul_small (by rw [Int.natAbs_natCast]; exact Nat.lt_of_lt_of_le hi2 (by decide))))) B_add) (Pes_cons (Pe_bin (Pe_bin Pe_int (Pe_var rfl) (B_mul (mul_small (by decide)))) Pe_int B_add) Pes_nil))))) (Fn.mono (sp_put14 W H' x dx hd ta la bd n _ _ kvs ts tx rk lt u J) (fun d H2 z => ?_) fun _ _ z => z.elim))))
      refine e0a3 z fun rq326 rq327 k4 => ?_; clear z; obtain rfl := rq326; obtain ⟨kvs', ts', tx', rk', lt', J'⟩ := rq327
      exact ⟨_, rfl, (fun q => nomatch q), fun _ => Ex_nil (hQ _ _ _ ⟨⟨by exact om380 hi2, by rw [hu4]; exact ⟨x, dx, hd, n + 1, kvs', ts', tx', rk', lt', G, ps, J', hal, J.keep_list hal la5 k4, pl, ext_keep14 g k4 gn.1 gn.2.1 gn.2.2.1 gn.2.2.2.1, gn, hp, ms, mb, mp, mt, ml, mh⟩⟩, fun _ h => (nomatch h)⟩)⟩
    · rintro m' H' ⟨_, hS⟩ _
      obtain ⟨x, dx, hd, n, kvs, ts, tx, rk, lt, G, ps, J, hal, la5, pl, g, gn, hp, ms, mb, mp, mt, ml, mh⟩ := hS
      exact Ex_nil ⟨rfl, x, dx, hd, n, kvs, ts, tx, rk, lt, G, ps, J.less (by simp), hal, la5, pl, g, gn, hp, ms, mb, mp, mt, ml, mh⟩
  · exact Ex_nil ⟨rfl, x, dx, hd, 0, _, _, _, _, _, (fun _ => none), [], J5.less (by exact om381), hal, la5, by simp, fun a h => (h rfl).elim, ⟨rfl, rfl, rfl, rfl, rfl⟩, fun d h => (nomatch h), rfl, rfl, rfl, rfl, rfl, rfl⟩
  clear J5 J4 la5 l4 T4 PA4 PA3 T3 e4 hal hh oh hl ol th ht ot PA hhd hdx hx e2
  rintro m2 H2 hS
  obtain ⟨many, hmany, m14⟩ : ∃ many : Nat, min 14 ((ns.length : Int) / 2) = (many : Int) ∧ many ≤ 14 := ⟨(min 14 ((ns.length : Int) / 2)).toNat, by exact om382, by exact om383⟩
  have ms0 : m2 (Str.ofString "_law_script") = some (.ref sc) := by
    obtain ⟨x, dx, hd, n, kvs, ts, tx, rk, lt, G, ps, J, hal, la5, pl, g, gn, hp, ms, _⟩ := hS
    exact ms
  refine Ex_for O (EvIt_range1 R.handled ((Pe_glob W.ok (gb_range W)).ev ⟨rfl, Pe.ev (Pe_cast (b := (many : Int)) hmany (Pe_B2 W.ok (gb_min W) Pe_int (Pe_bin (Pe_B1 W.ok (gb_len W) (Pe_var ms0) (L_base W)) Pe_int (B_div (by decide) (by decide))) (M_min R.handled))) ⟨_, rfl, by omega, by omega, fun i m' H' => i ≤ many ∧ S14 c sc ta la ah bd (14 - i) i m' H', ⟨by exact om257, hS⟩, ?_, ?_⟩⟩)) (.inl rfl)
  · clear hS ms0
    rintro i d m' H' kpp hdd ⟨hi3, hS⟩ _
    refine Ex.gen fun QQ hQ => ?_
    refine e1a2 (map_item hdd) fun j hj rq328 => ?_; obtain rfl := rq328
    obtain ⟨hj1, hj2⟩ := List.getElem?_eq_some_iff.mp hj
    rw [List.length_range] at hj1
    rw [List.getElem_range] at hj2
    subst hj2
    have hi2 : i < many := by exact om384 hj1
    obtain ⟨u, hu3⟩ : ∃ u, 14 - i = u + 1 := ⟨13 - i, by exact om385 m14 hi2⟩
    rw [hu3] at hS
    have hu4 : 14 - (i + 1) = u := by exact om386 hu3
    obtain ⟨x, dx, hd, n, kvs, ts, tx, rk, lt, G, ps, J, hal, la5, pl, g, gn, hp, ms, mb, mp, mt, ml, mh⟩ := hS
    refine Ex_assign (Pe.ev (Pe_cellE W R1 O.frames ms (Pe_bin Pe_int (Pe_bin Pe_int (Pe_var rfl) (B_mul (mul_small (by decide)))) B_add) (by exact om387)) ?_) (.inl rfl)
    refine Ex_if (Ts_not (Ts_val (Ev_FN W.ok (W.glob rfl) (W.kx 420 _ rfl) rfl R7 O.frames (Pes_cons (Pe_var mp) (Pes_cons (Pe_var mt) (Pes_cons (Pe_var ml) (Pes_cons (Pe_var rfl) (Pes_cons (Pe_cellE W R1 O.frames ms (Pe_bin Pe_int (Pe_bin Pe_int (Pe_var rfl) (B_mul (mul_small (by decide)))) B_add) (by exact om388)) Pes_nil))))) (Fn.mono (sp_deed14 W U H' x dx hd ta la bd n _ _ kvs ts tx rk lt u J) (fun d H2 z => ?_) fun _ _ z => z.elim))))
    refine e0a3 z fun rq329 rq330 k4 => ?_; clear z; obtain rfl := rq329; obtain ⟨n', kvs', ts', tx', rk', lt', J'⟩ := rq330
    refine ⟨_, rfl, (fun q => nomatch q), fun _ => ?_⟩
    have la6 := J.keep_list hal la5 k4
    have g6 := ext_keep14 g k4 gn.1 gn.2.1 gn.2.2.1 gn.2.2.2.1
    clear J la5 g k4
    refine Ex_ifj (fun m3 H3 => S14 c sc ta la ah bd u i m3 H3 ∧ m3 (Str.ofString "_law_k") = some (.int i)) (Tp_and (Tpa_cons (Tp_cmp (Pe_bin (Pe_var rfl) Pe_int (B_mod (by decide))) Pe_int B_eq beq_iff_eq) fun _ => Tpa_cons (P := ts' ≠ []) (Tp.of_ext (Ts_cmp (Pe.ev (Pe_var mt) (Ev_dict0 W.ok fun a0 o0 h0 => ?_)))) fun _ => Tpa_nil)) (fun hne => ?_) (fun _ => ?_) ?_
    · have ex := Ext.set (x := ⟨o0, .dict []⟩) (Ext.refl H2) h0
      by_cases hkv : ts' = []
      · subst hkv
        exact (B_ned (n := 0) (J'.t.fresh h0) (DictIs.same _ _ _ _) (fun d hd => nomatch hd) (by show A.units + _ < _; exact om389 hu)).op ⟨_, rfl, ex, by simp⟩
      · exact (B_ned_len (kvs' := []) (J'.t.fresh h0) (DictIs.same _ _ _ _) (fun q => hkv (List.length_eq_zero_iff.mp q)) (by show A.units + _ < _; exact om390 hu)).op ⟨_, rfl, ex, by simp [hkv]⟩
    · have few := J'.few
      have tl := J'.X.ln
      have b0' := J'.b0
      have hnk : ¬ Key kvs' n' := fun h => by have := (J'.pos n' h).2; exact om345 this
      refine Ex_assign (Pe.ev (Pe_var mp) ?_) (.inl rfl)
      refine Ex_assign (Ev_F2e W.ok (W.glob rfl) (W.kx 312 _ rfl) rfl R4 O.frames (Ev_M0 W.kx pc R1 O.frames (Pe_var rfl) J'.pa.i rfl fi_rows ft_rows (W.kx 244 _ rfl) rfl (Fn.mono (sp_rows W H2 x dx hd bd n' kvs' tx' rk' J'.pa J'.E) (fun d H3 z => ?_) fun _ _ z => z.elim))) (.inl rfl)
      refine e2a5 z fun ar srt rq331 e3 har S lr => ?_; clear z; obtain rfl := rq331
      refine Pe.ev (Pe_var mb) (Fn.mono (sp_opened W H3 ar bd kvs' srt tx' rk' lr S J'.E b0 b1 (fun k hk => (J'.pos k hk).1) J'.F) (fun d H4 z => ?_) fun _ _ z => z.elim)
      refine e3a6 z fun x2 dx2 hd2 rq332 e4 hx2 hdx2 hhd2 PA2 => ?_; clear z; obtain rfl := rq332
      have sl := S.len
      have tne : ts' ≠ [] := hne.2.1
      have sne : srt ≠ [] := fun e => by rw [e] at sl; exact tne (List.eq_nil_of_length_eq_zero (by rw [tl, ← sl]; rfl))
      have s0 : 0 < srt.length := List.length_pos_iff.mpr sne
      have J3 := J'.ext e3
      have J4 := J3.ext e4
      have lastk : Key kvs' (lastOf srt) := S.mem.mp (List.mem_of_getElem? (lastOf_at sne))
      have l0 : 0 ≤ lastOf srt := (J'.pos _ lastk).1
      have hk0 : srt[0]? = some (srt.getD 0 0) := by rw [List.getD_eq_getElem?_getD, List.getElem?_eq_getElem s0]; rfl
      have firstk : Key kvs' (srt.getD 0 0) := S.mem.mp (List.mem_of_getElem? hk0)
      have gl : ∀ {f : Fx} {HH : AH} {a5 : Addr} {s5 : List Int}, s5 = srt → ListAt HH a5 (s5.map V.int) → G2 c f HH (.ref a5) (.int (-1)) (.int (lastOf srt)) ∧ G2 c f HH (.ref a5) (.int 0) (.int (srt.getD 0 0)) := fun {f HH a5 s5} e h => by
        subst e
        exact ⟨G_list (j := s5.length - 1) h ((seqIndex_neg (by exact om173) (by rw [List.length_map]; exact om312 s0)).trans (congrArg some (by rw [List.length_map]; exact om326))) (map_item' (lastOf_at sne)) (by exact om176), G_list (j := 0) h (seqIndex_pos (by decide) (by rw [List.length_map]; exact om311 s0)) (map_item' hk0) (by decide)⟩
      have un : ∀ {s5 : List Int}, s5.Perm (ts'.map (·.1)) → s5.Pairwise (· ≤ ·) → s5 = srt := fun pm pw => (J'.X.srt J'.E.nd ⟨pm, pw⟩).uniq S
      refine Ex_storeL (Pe.ev (Pe_bin (Pe.of_ext (d := .int (lastOf srt)) (Ev_sub (Ev_B1e W.ok (gb_sorted W) (Pe.ev (Pe_var mt) (O_sorted W.ok R.handled J4.t (by exact om391 few tl) fun a5 o5 s5 h5 pm5 pw5 => (Pe_neg Pe_int).ev ⟨_, (gl (un pm5 pw5) (ListAt.same _ _ _ _)).1, rfl, Ext.set (Ext.refl _) h5⟩))))) Pe_int B_add) (Pe.ev (Pe_var ml) (Pe.ev Pe_int ⟨la, _, 0, rfl, rfl, J4.l, by simp, by decide, fun o5 => ?_⟩)))
      have nl4 := J4.pa.i.ne_list J4.l
      have nl2 := PA2.i.ne_list J4.l
      have l5 : ListAt (H4.set la ⟨o5, .list ([V.int n', .s lt'].set 0 (.int (lastOf srt + 1)))⟩) la [.int (lastOf srt + 1), .s lt'] := ListAt.same _ _ _ _
      have t5 := J4.t.ne (x := ⟨o5, .list ([V.int n', .s lt'].set 0 (.int (lastOf srt + 1)))⟩) (J4.l.ne_dict J4.t).symm
      have pa5 : PackAt (H4.set la ⟨o5, .list ([V.int n', .s lt'].set 0 (.int (lastOf srt + 1)))⟩) x dx hd bd n' kvs' := ⟨J4.pa.i.ne nl4.1 nl4.2, J4.pa.d.ne (J4.l.ne_dict J4.pa.d).symm⟩
      have pb5 : PackAt (H4.set la ⟨o5, .list ([V.int n', .s lt'].set 0 (.int (lastOf srt + 1)))⟩) x2 dx2 hd2 bd (lastOf srt + 1) (Mine.heldOf kvs' srt) := ⟨PA2.i.ne nl2.1 nl2.2, PA2.d.ne (J4.l.ne_dict PA2.d).symm⟩
      have a5 := ((e3.trans e4).list la6).ne (x := ⟨o5, .list ([V.int n', .s lt'].set 0 (.int (lastOf srt + 1)))⟩) hal
      have g5 : Ext G (H4.set la ⟨o5, .list ([V.int n', .s lt'].set 0 (.int (lastOf srt + 1)))⟩) := fun a h => (set_ne _ _ (show a ≠ la from fun e => h (by rw [e]; exact gn.2.2.2.1))).trans (((g6.trans e3).trans e4) a h)
      generalize H4.set la ⟨o5, .list ([V.int n', .s lt'].set 0 (.int (lastOf srt + 1)))⟩ = H5 at l5 t5 pa5 pb5 a5 g5 ⊢
      refine Ex_exprA (Ev_M2 W.kx pc R5 O.frames (Pe_var rfl) pa5.i rfl fi_store ft_store (W.kx 204 _ rfl) rfl (Pe_strl (l := [97]) (by decide)) (Pe.of_ext (d := .int (srt.getD 0 0)) (Ev_sub (Ev_B1e W.ok (gb_sorted W) (Pe.ev (Pe_var mt) (O_sorted W.ok R.handled t5 (by exact om391 few tl) fun a5 o5 s5 h5 pm5 pw5 => Pe_int.ev ⟨_, (gl (un pm5 pw5) (ListAt.same _ _ _ _)).2, rfl, Ext.set (Ext.refl _) h5⟩))))) (Fn.mono (sp_store W H5 x dx hd bd n' (.int (srt.getD 0 0)) kvs' tx' rk' [97] pa5 J'.E (by exact om392 few) (by decide) hnk b0' (.inr ⟨_, rfl, firstk⟩)) (fun d H6 z => ?_) fun _ _ z => z.elim))
      refine e0a3 z fun rq333 rq334 kp6 => ?_; clear z; obtain rfl := rq333; obtain ⟨kv6, PA6, ST⟩ := rq334
      obtain ⟨⟨rk6, E6⟩, key6, len6, _⟩ := ST.facts J'.E hnk (by exact om392 few) (by decide) b0'
      have old : H3 dx ≠ none ∧ H3 hd ≠ none := ⟨J3.pa.some_x.2.1, J3.pa.some_x.2.2⟩
      have ap : ∀ {a : Addr}, H3 a = none → a ≠ dx ∧ a ≠ hd := fun h => ⟨fun e => old.1 (e ▸ h), fun e => old.2 (e ▸ h)⟩
      have kd : ∀ {HH HH' : AH}, Keeps HH HH' dx hd → ∀ {a : Addr} {ds : List (Int × V)}, DictIs HH a ds → a ≠ dx ∧ a ≠ hd → DictIs HH' a ds := fun k a ds ⟨o, e⟩ h => ⟨o, (k a (by rw [e]; exact fun z => nomatch z) h.1 h.2).trans e⟩
      have kl : ∀ {HH HH' : AH}, Keeps HH HH' dx hd → ∀ {a : Addr} {ds : List V}, ListAt HH a ds → a ≠ dx ∧ a ≠ hd → ListAt HH' a ds := fun k a ds ⟨o, e⟩ h => ⟨o, (k a (by rw [e]; exact fun z => nomatch z) h.1 h.2).trans e⟩
      have kpk : ∀ {HH HH' : AH}, Keeps HH HH' dx hd → PackAt HH x2 dx2 hd2 bd (lastOf srt + 1) (Mine.heldOf kvs' srt) → PackAt HH' x2 dx2 hd2 bd (lastOf srt + 1) (Mine.heldOf kvs' srt) := fun k p => by
        obtain ⟨⟨⟨o1, q1⟩, o2, q2⟩, p2⟩ := p
        exact ⟨⟨⟨o1, (k x2 (by rw [q1]; exact fun z => nomatch z) (ap hx2).1 (ap hx2).2).trans q1⟩, o2, (k dx2 (by rw [q2]; exact fun z => nomatch z) (ap hdx2).1 (ap hdx2).2).trans q2⟩, kd k p2 (ap hhd2)⟩
      have kg : ∀ {HH HH' : AH}, Keeps HH HH' dx hd → Ext G HH → Ext G HH' := fun k g a h => (k a (by rw [g a h]; exact h) (fun e => h (e ▸ gn.1)) (fun e => h (e ▸ gn.2.1))).trans (g a h)
      have nta : ta ≠ dx ∧ ta ≠ hd := ⟨(pa5.i.ne_dict t5).2.symm, J'.th⟩
      have nla : la ≠ dx ∧ la ≠ hd := ⟨(pa5.i.ne_list l5).2.symm, l5.ne_dict pa5.d⟩
      have nah : ah ≠ dx ∧ ah ≠ hd := ⟨(pa5.i.ne_list a5).2.symm, a5.ne_dict pa5.d⟩
      have t6 := kd kp6 t5 nta
      obtain ⟨s6, S6⟩ := exists_srt kv6
      refine Ex_exprA (Ev_M1 W.kx pc R4 O.frames (Pe_var rfl) PA6.i rfl fi_forget ft_forget (W.kx 284 _ rfl) rfl (Pe.of_ext (d := .int (lastOf srt)) (Ev_sub (Ev_B1e W.ok (gb_sorted W) (Pe.ev (Pe_var mt) (O_sorted W.ok R.handled t6 (by exact om391 few tl) fun a5 o5 s5 h5 pm5 pw5 => (Pe_neg Pe_int).ev ⟨_, (gl (un pm5 pw5) (ListAt.same _ _ _ _)).1, rfl, Ext.set (Ext.refl _) h5⟩))))) (Fn.mono (sp_forget W H6 x dx hd bd (n' + 1) (lastOf srt) kv6 _ rk6 _ PA6 E6 ((key6 _).mpr (.inl lastk)) (leans_of S6 E6.nd _)) (fun d H7 z => ?_) fun _ _ z => z.elim))
      refine e0a3 z fun _ _ kp7 => ?_; clear z
      have sm := heldOf_sim S
      have EH := J'.E.heldOf S
      have key : ∀ k, Key (Mine.heldOf kvs' srt) k → Key kvs' k := fun k h => sm.key.mp h
      refine Ex_nil ⟨rfl, ⟨x2, dx2, hd2, lastOf srt + 1, Mine.heldOf kvs' srt, ts', tx', rk', lt', G, ps, ?_, hal, kl kp7 (kl kp6 a5 nah) nah, pl, kg kp7 (kg kp6 g5), ⟨(g6.trans e3).none hdx2, (g6.trans e3).none hhd2, gn.2.2⟩, hp, ms, mb, rfl, mt, ml, mh⟩, rfl⟩
      exact ⟨kpk kp7 (kpk kp6 pb5), EH, fun k xs h => J'.F k xs (sm.bases.chain h), kd kp7 t6 nta, Tx.of (fun k h => J'.X.tt k (key k h)) (fun k h => sm.key.mpr (J'.X.kk k h)) J'.X.nd EH.nd, fun k h => (by have := (J'.pos k (key k h)).1; have := le_lastOf S.pw (S.mem.mpr (key k h)); exact om393 (by assumption) this), by exact om252 l0, b0', fun k h => J'.sh k (key k h), (by unfold Mine.heldOf; rw [List.length_map]; exact om394 few sl), J3.t.ne_new hhd2, kl kp7 (kl kp6 l5 nla) nla, J'.lh⟩
    · exact Ex_nil ⟨rfl, ⟨x, dx, hd, n', kvs', ts', tx', rk', lt', G, ps, J', hal, la6, pl, g6, gn, hp, ms, mb, mp, mt, ml, mh⟩, rfl⟩
    clear ms mb mp mt ml mh J' la6 g6 gn hp pl hal
    clear x dx hd n' kvs' ts' tx' rk' lt' G ps n kvs ts tx rk lt
    rintro m3 H3 rz43; obtain ⟨⟨x, dx, hd, n, kvs, ts, tx, rk, lt, G, ps, J, hal, la5, pl, g, gn, hp, ms, mb, mp, mt, ml, mh⟩, mk⟩ := rz43
    refine Ex_ifp (Tp_not (Tp_val (P := True) (Pe_FN W.ok (W.glob rfl) (W.kx 399 _ rfl) rfl R5 O.frames (Pes_cons (Pe_var mp) (Pes_cons (Pe_var mt) (Pes_cons (Pe_var mb) (Pes_cons (Pe_bin (Pe_cellE W R1 O.frames ms (Pe_bin Pe_int (Pe_bin Pe_int (Pe_var mk) (B_mul (mul_small (by decide)))) B_add) (by exact om387)) Pe_int (B_div (by decide) (by decide))) Pes_nil)))) (sp_sound14 W H3 x dx hd ta bd n _ kvs ts tx rk J.pa J.E J.t J.X J.F fun k hk => (J.pos k hk).1)) (by simp))) (fun g => by simp at g) (fun _ => ?_)
    have few := J.few
    have fewE := J.E.few
    have hah : H3 ah ≠ none := by obtain ⟨o, e⟩ := la5; rw [e]; exact fun z => nomatch z
    refine Ex_assign (Ev_list W.ok (Evs_cons (Ev_M0 W.kx pc R1 O.frames (Pe_var mp) J.pa.i rfl fi_rows ft_rows (W.kx 244 _ rfl) rfl (Fn.mono (sp_rows W H3 x dx hd bd n kvs tx rk J.pa J.E) (fun d H4 z => ?_) fun _ _ z => z.elim)))) (.inl rfl)
    refine e2a5 z fun r1 s1 rq335 e4 hr1 S1 lr1 => ?_; clear z; obtain rfl := rq335
    have PA4 := J.pa.ext e4
    refine Evs_cons (Ev_M0 W.kx pc R1 O.frames (Pe_var mp) PA4.i rfl fi_numbers ft_numbers (W.kx 232 _ rfl) rfl (Fn.mono (sp_numbers W H4 x dx hd bd n kvs PA4 fewE) (fun d H5 z => ?_) fun _ _ z => z.elim))
    refine e2a5 z fun r2 s2 rq336 f2 hr2 S2 lr2 => ?_; clear z; obtain rfl := rq336
    obtain rfl := S2.uniq S1
    have e5 := e4.trans f2
    have hr2 := e4.none hr2
    have lr1 := f2.list lr1
    have PA5 := J.pa.ext e5
    refine Evs_cons (Ev_M0 W.kx pc R1 O.frames (Pe_var mp) PA5.i rfl fi_bases ft_bases (W.kx 239 _ rfl) rfl (Fn.mono (sp_bases W H5 x dx hd bd n kvs tx rk PA5 J.E) (fun d H6 z => ?_) fun _ _ z => z.elim))
    refine e2a5 z fun r3 s3 rq337 f3 hr3 S3 lr3 => ?_; clear z; obtain rfl := rq337
    obtain rfl := S3.uniq S1
    have e6 := e5.trans f3
    have hr3 := e5.none hr3
    have lr1 := f3.list lr1
    have lr2 := f3.list lr2
    have sl := S1.len
    have s40 : s3.length ≤ 40 := by exact om395 fewE sl
    refine Evs_nil ⟨by show 3 ≤ sizeLine; exact om367 hs, fun at_ ot hat => ?_⟩
    have f5 := Ext.set (x := ⟨ot, .list [.ref r1, .ref r2, .ref r3]⟩) (Ext.refl H6) hat
    have lt7 := ListAt.same H6 at_ ot [.ref r1, .ref r2, .ref r3]
    generalize H6.set at_ ⟨ot, .list [.ref r1, .ref r2, .ref r3]⟩ = H7 at f5 lt7 ⊢
    have hat := e6.none hat
    have e7 := e6.trans f5
    have lr1 := f5.list lr1
    have lr2 := f5.list lr2
    have lr3 := f5.dict lr3
    refine Ex_expr (Ev_meth plainAttrs_list PySem.slot_list_append (Pe.ev (Pe_var mh) ⟨has_listAt (e7.list la5), Evs_cons (Ev_list W.ok (Evs_cons (Pe.ev (Pe_var rfl) (Evs_cons (Ev_told3 W rfl lt7 lr1 lr2 lr3 (by unfold rowsOf; rw [List.length_map]; exact om396 fewE sl) (by rw [List.length_map]; exact om396 fewE sl) (by unfold bases Mine.heldOf; rw [List.length_map, List.length_map]; exact om396 fewE sl) fun ac b1 b2 b3 H11 k6 hb1 hb2 hb3 hac lb1 lb2 lb3 lc => ?_)))))⟩) PySem.type_list_append)
    have hb1 := e7.none hb1
    have hb2 := e7.none hb2
    have hb3 := e7.none hb3
    have hac := e7.none hac
    have e11 := e7.trans k6
    refine Evs_nil ⟨by show 2 ≤ sizeLine; exact om225 hs, fun aq oq haq => ?_⟩
    have f11 := Ext.set (x := ⟨oq, .list [.ref at_, .ref ac]⟩) (Ext.refl H11) haq
    have lq := ListAt.same H11 aq oq [.ref at_, .ref ac]
    generalize H11.set aq ⟨oq, .list [.ref at_, .ref ac]⟩ = H12 at f11 lq ⊢
    have haq := e11.none haq
    have e12 := e11.trans f11
    have k6 := k6.trans f11
    have la12 := e12.list la5
    refine Evs_nil (O_append la12 (by exact om397 hs m14 hi2 pl) fun op => ⟨no_ref rfl, ?_⟩)
    have PR : Pair c (over G H3 H12) (.ref aq) := by
      refine ⟨aq, at_, ac, _, _, rfl, over_list lq haq, over_list (k6.list lt7) hat, over_list (f11.list lc) hac, rfl, three (Alike.list (over_list (k6.list lr1) hr1) (over_list (f11.list lb1) hb1) rfl (J.E.alike_rows S1)) (Alike.list (over_list (k6.list lr2) hr2) (over_list (f11.list lb2) hb2) rfl alike_ints) (Alike.up (Alike.dict (over_dict (k6.dict lr3) hr3) (over_dict (f11.dict lb3) hb3) (base_eqA J.E S1)) (by exact om398))⟩
    have g1 : Ext G (over G H3 H12) := ext_over g
    have g2 : Ext (over G H3 H12) H12 := over_ext g e12
    have g3 : ∀ a, H3 a ≠ none → over G H3 H12 a = G a := fun a h => over_old h
    generalize over G H3 H12 = G' at PR g1 g2 g3
    have g4 : G' ah = none := (g3 ah hah).trans gn.2.2.2.2
    have g5 : Ext G' (H12.set ah ⟨op, .list (ps ++ [.ref aq])⟩) := fun a h => (set_ne _ _ (show a ≠ ah from fun e => h (by rw [e]; exact g4))).trans (g2 a h)
    have J12 := J.ext e12
    have nl := J12.pa.i.ne_list la12
    have J13 : J14 (H12.set ah ⟨op, .list (ps ++ [.ref aq])⟩) x dx hd ta la bd n kvs ts tx rk lt u := { J12 with pa := ⟨J12.pa.i.ne nl.1 nl.2, J12.pa.d.ne (la12.ne_dict J12.pa.d).symm⟩, t := J12.t.ne (la12.ne_dict J12.t).symm, l := J12.l.ne hal.symm }
    have la13 := ListAt.same H12 ah op (ps ++ [.ref aq])
    have alive : H3 dx ≠ none ∧ H3 hd ≠ none ∧ H3 ta ≠ none ∧ H3 la ≠ none := ⟨J.pa.some_x.2.1, J.pa.some_x.2.2, (by obtain ⟨o, e⟩ := J.t; rw [e]; exact fun z => nomatch z), (by obtain ⟨o, e⟩ := J.l; rw [e]; exact fun z => nomatch z)⟩
    have hp' : ∀ d ∈ ps ++ [V.ref aq], Pair c G' d := fun d hd => by
      rcases List.mem_append.mp hd with h | h
      · exact (hp d h).ext g1
      · rw [List.mem_singleton] at h; subst h; exact PR
    exact Ex_nil (hQ _ _ _ ⟨⟨by exact om72 hi2, by rw [hu4]; exact ⟨x, dx, hd, n, kvs, ts, tx, rk, lt, G', ps ++ [.ref aq], J13, hal, la13, by rw [List.length_append, List.length_singleton]; exact om54 pl, g5, ⟨(g3 _ alive.1).trans gn.1, (g3 _ alive.2.1).trans gn.2.1, (g3 _ alive.2.2.1).trans gn.2.2.1, (g3 _ alive.2.2.2).trans gn.2.2.2.1, g4⟩, hp', ms, mb, mp, mt, ml, mh⟩⟩, fun _ h => (nomatch h)⟩)
  · clear hS ms0
    rintro m' H' ⟨_, hS⟩ _
    obtain ⟨x, dx, hd, n, kvs, ts, tx, rk, lt, G, ps, J, hal, la5, pl, g, gn, hp, ms, mb, mp, mt, ml, mh⟩ := hS
    refine Ex_ret (Ev_and (Pe.pb (Pe_FN W.ok (W.glob rfl) (W.kx 399 _ rfl) rfl R5 O.frames (Pes_cons (Pe_var mp) (Pes_cons (Pe_var mt) (Pes_cons (Pe_var mb) (Pes_cons Pe_int Pes_nil)))) (sp_sound14 W H' x dx hd ta bd n 0 kvs ts tx rk J.pa J.E J.t J.X J.F fun k hk => (J.pos k hk).1)) Iff.rfl) rfl (Ev_and1 (Ev_cmp (Ev_comp W.ok (EvIt_list R.handled (Pe.ev (Pe_var mh) ⟨ah, ps, rfl, la5, ?_⟩)) rfl (by decide) rfl (by decide) rfl cl0))))
    refine CompOk_filter (fun _ => V.none) (fun _ => false) (by exact om399 hs m14 (by assumption) pl) (fun i d C hE hdd => ?_) (fun i d C hE hdd q => nomatch q) (fun a o ha => ?_)
    · refine e5a6 ((hp d (List.mem_of_getElem? hdd)).ext g) fun q a1 a2 l1 l2 rq338 hq h1 h2 hl hh => ?_; obtain rfl := rq338
      exact Tp_cmp (Pe_sub (Pe_var rfl) Pe_int (G_list (d := .ref a1) (j := 0) hq rfl rfl (by decide))) (Pe_sub (Pe_var rfl) Pe_int (G_list (d := .ref a2) (j := 1) hq rfl rfl (by decide))) (B_nelT h1 h2 hl hh (by show A.units + _ < _; exact om400 hu)) (by simp)
    · have e : ((List.range ps.length).filter fun _ => false).map (fun _ => V.none) = ([] : List Int).map V.int := by simp
      rw [e]
      exact Ev_list W.ok (Evs_nil ⟨Nat.zero_le _, fun a0 o0 h0 => (B_eql_ints (l := []) (l' := []) ((ListAt.same _ _ _ _).fresh h0) (ListAt.same _ _ _ _) (by show A.units + _ < _; exact om390 hu)).op rfl⟩)
end
end Mine
namespace Mine
open PySem PySem.W PyProof.Rows
def hd.tw11210553801493137410 : Unit := ()
def hd.tw9228397985900620932 : Unit := ()
def hd.tw17650839729002327288 : Unit := ()
def hd.tw9702936160620672325 : Unit := ()
def hd.tw12092154237167983948 : Unit := ()
def hd.tw14955159897011116063 : Unit := ()
def hd.tw1097998534492414930 : Unit := ()
def hd.tw3919010098100093602 : Unit := ()
def hd.tw13431754692932380062 : Unit := ()
def hd.tw6830512106363814048 : Unit := ()
def hd.tw10792051664901133789 : Unit := ()
def hd.tw7523672394736509286 : Unit := ()
def hd.tw10919297434634762262 : Unit := ()
def hd.tw361874862225718299 : Unit := ()
def hd.tw9421340871869096474 : Unit := ()
def hd.tw7366208706002141716 : Unit := ()
def hd.tw2788664435532181463 : Unit := ()
def hd.tw226724450230711188 : Unit := ()
def hd.tw18264374347568628810 : Unit := ()
def hd.tw13321331477185743149 : Unit := ()
def hd.tw18343703819029505601 : Unit := ()
def hd.tw10246146449241189800 : Unit := ()
def hd.tw5238241317806426387 : Unit := ()
def hd.tw15508949281206285077 : Unit := ()
def hd.tw2608437505485318709 : Unit := ()
def hd.tw3309697970292668127 : Unit := ()
def hd.tw17062030032774818151 : Unit := ()
def hd.tw512641396559190090 : Unit := ()
def hd.tw17252143746492648416 : Unit := ()
def hd.tw7752767780024739350 : Unit := ()
def hd.tw9908193460736022307 : Unit := ()
def hd.tw11319097763535126812 : Unit := ()
def hd.tw8934143017859847078 : Unit := ()
def hd.tw2887051446865420828 : Unit := ()
def hd.tw5902613922787404954 : Unit := ()
def hd.tw13217225542625558698 : Unit := ()
def hd.tw13285133528070534704 : Unit := ()
def hd.tw16056359734778111409 : Unit := ()
def hd.tw16772102934027710169 : Unit := ()
def hd.tw10170382586518783626 : Unit := ()
def hd.tw2323474266016966308 : Unit := ()
def hd.tw7618839834802901398 : Unit := ()
def hd.tw16640546478005224243 : Unit := ()
def hd.tw991583007596301734 : Unit := ()
def hd.tw3109861748172591687 : Unit := ()
def hd.tw5781342201191254626 : Unit := ()
def hd.tw18293732401869909652 : Unit := ()
def hd.tw3795277891434052102 : Unit := ()
def hd.tw14906377314874228009 : Unit := ()
def hd.tw6838551448383532254 : Unit := ()
def hd.tw16853341256802265648 : Unit := ()
def hd.tw7191915735439097106 : Unit := ()
def hd.tw6818987989461384207 : Unit := ()
def hd.tw11465210709893060100 : Unit := ()
def hd.tw2101469004524951375 : Unit := ()
def hd.tw10403243965636340961 : Unit := ()
def hd.tw3915529967508079626 : Unit := ()
def hd.tw4402725079659364252 : Unit := ()
def hd.tw12127338746724423809 : Unit := ()
def hd.tw16432713993328977331 : Unit := ()
def hd.tw10678649693572172417 : Unit := ()
def hd.tw11251137523995926341 : Unit := ()
def hd.tw6804821044290156842 : Unit := ()
def hd.tw15615537253650120727 : Unit := ()
def hd.tw5054737718236178183 : Unit := ()
def hd.tw10738003575532504788 : Unit := ()
def hd.tw9499510787657705874 : Unit := ()
def hd.tw11151547217846952531 : Unit := ()
def hd.tw12058812876911547015 : Unit := ()
def hd.tw17542962492245011380 : Unit := ()
def hd.tw11801993109049149486 : Unit := ()
def hd.tw17562767543260142214 : Unit := ()
def hd.tw17893044597097874663 : Unit := ()
def hd.tw10216474801634566288 : Unit := ()
def hd.tw17739348878880393726 : Unit := ()
def hd.tw14960593345356199642 : Unit := ()
def hd.tw9759069670290863418 : Unit := ()
def hd.tw14560493823538711346 : Unit := ()
def hd.tw13047593935725612058 : Unit := ()
def hd.tw18291419657060728153 : Unit := ()
def hd.tw9763420282994701918 : Unit := ()
def hd.tw4138081844389336918 : Unit := ()
def hd.tw8735263284916673568 : Unit := ()
def hd.tw6394381022753523788 : Unit := ()
def hd.tw14457593812595234344 : Unit := ()
def hd.tw4272726840584523970 : Unit := ()
def hd.tw11631947586910100387 : Unit := ()
def hd.tw10030107230732127627 : Unit := ()
def hd.tw13277076834127875243 : Unit := ()
def hd.tw3694398316872202419 : Unit := ()
def hd.tw6411954120941647267 : Unit := ()
def hd.tw1760603350576429475 : Unit := ()
def hd.tw4870687313549177768 : Unit := ()
def hd.tw5130813555471234732 : Unit := ()
def hd.tw3443669649825651883 : Unit := ()
def hd.tw9244321171653502345 : Unit := ()
def hd.tw7540655947842036084 : Unit := ()
def hd.tw7355570028127101125 : Unit := ()
def hd.tw16345102440705955213 : Unit := ()
def hd.tw16634568088961857937 : Unit := ()
def hd.tw15463257786427224491 : Unit := ()
def hd.tw3085183777334472315 : Unit := ()
def hd.tw11953376511379268794 : Unit := ()
def hd.tw10727248033764811480 : Unit := ()
def hd.tw10424393626065333798 : Unit := ()
def hd.tw3828038474966422129 : Unit := ()
def hd.tw17311223219408574766 : Unit := ()
def hd.tw189712035060473897 : Unit := ()
def hd.tw6196171512934965099 : Unit := ()
def hd.tw17387473266821786944 : Unit := ()
def hd.tw9345929723534960622 : Unit := ()
def hd.tw14896477498954680388 : Unit := ()
def hd.tw18093812233618175256 : Unit := ()
def hd.tw16868993833207775613 : Unit := ()
def hd.tw17903497710992402801 : Unit := ()
def hd.tw701787995468756871 : Unit := ()
def hd.tw16155205043701107222 : Unit := ()
def hd.tw10879034167726328663 : Unit := ()
def hd.tw6164396464334811476 : Unit := ()
def hd.tw16029623286316568529 : Unit := ()
def hd.tw1589133516308662214 : Unit := ()
def hd.tw6759412095888398321 : Unit := ()
def hd.tw15422856539912107476 : Unit := ()
def hd.tw3381375190539634487 : Unit := ()
def hd.tw15852365999677673905 : Unit := ()
def hd.tw15411387601460861337 : Unit := ()
def hd.tw16154546982801380032 : Unit := ()
def hd.tw15166520500009309586 : Unit := ()
def hd.tw1384543813281530044 : Unit := ()
def hd.tw13638418597567726942 : Unit := ()
def hd.tw6882427118574961969 : Unit := ()
def hd.tw2502866573005156581 : Unit := ()
def hd.tw4185656317496899905 : Unit := ()
def hd.tw15948780112781908787 : Unit := ()
def hd.tw7270182246851987180 : Unit := ()
def hd.tw1194904439430580092 : Unit := ()
def hd.tw4225703048834024713 : Unit := ()
def hd.tw3350844169311001129 : Unit := ()
def hd.tw5245234834050458271 : Unit := ()
def hd.tw18245042118932799458 : Unit := ()
def hd.tw17588044629489971554 : Unit := ()
def hd.tw7510230149288206974 : Unit := ()
def hd.tw1197925565968671727 : Unit := ()
def hd.tw18322514126500204803 : Unit := ()
def hd.tw8052382678804489345 : Unit := ()
def hd.tw16649331688326792143 : Unit := ()
def hd.tw1848646778235469078 : Unit := ()
def hd.tw11213053971927718326 : Unit := ()
def hd.tw6407587892757256292 : Unit := ()
def hd.tw6264232113106981867 : Unit := ()
def hd.tw11128854368766332075 : Unit := ()
def hd.tw17681399029576232318 : Unit := ()
def hd.tw14353793391729792155 : Unit := ()
def hd.tw16722109127936396110 : Unit := ()
def hd.tw3008623586974134963 : Unit := ()
def hd.tw13267510147771200024 : Unit := ()
def hd.tw2391449824757734642 : Unit := ()
def hd.tw5732804406350252772 : Unit := ()
def hd.tw8977307856219701671 : Unit := ()
def hd.tw5363564295841288755 : Unit := ()
def hd.tw11032806212648032379 : Unit := ()
def hd.tw5009564483982726761 : Unit := ()
def hd.tw6924109203229866365 : Unit := ()
def hd.tw402640490398009360 : Unit := ()
def hd.tw519851828213033955 : Unit := ()
def hd.tw8684328023851190084 : Unit := ()
def hd.tw9657781627882305391 : Unit := ()
def hd.tw2051048951616859547 : Unit := ()
def hd.tw17177331786930743035 : Unit := ()
def hd.tw10949625832625181284 : Unit := ()
def hd.tw15615420239508185596 : Unit := ()
def hd.tw4671938312737486695 : Unit := ()
def hd.tw8959176491354863721 : Unit := ()
def hd.tw3571134770919094901 : Unit := ()
def hd.tw2658371784675547251 : Unit := ()
def hd.tw728884934406724761 : Unit := ()
def hd.tw1013155817946168525 : Unit := ()
def hd.tw11389486352061984695 : Unit := ()
def hd.tw18219598855577627918 : Unit := ()
def hd.tw6982297934935202809 : Unit := ()
def hd.tw18293851220164018083 : Unit := ()
def hd.tw1580110805410547442 : Unit := ()
def hd.tw11778180911958503814 : Unit := ()
def hd.tw10583446816852156582 : Unit := ()
def hd.tw2274498078352570744 : Unit := ()
def hd.tw11709330566771433103 : Unit := ()
def hd.tw12614811148066621264 : Unit := ()
def hd.tw15967140613478806237 : Unit := ()
def hd.tw8134915037123179040 : Unit := ()
def hd.tw11631869004601391166 : Unit := ()
def hd.tw2442259710966052079 : Unit := ()
def hd.tw5416991563250132298 : Unit := ()
def hd.tw13790719812936386609 : Unit := ()
def hd.tw1011335219593555734 : Unit := ()
def hd.tw15790720579355451973 : Unit := ()
def hd.tw8545014587354053640 : Unit := ()
def hd.tw4315991029959535628 : Unit := ()
def hd.tw2329189449893159454 : Unit := ()
def hd.tw432457690288141553 : Unit := ()
def hd.tw4014540891139286612 : Unit := ()
def hd.tw16171809288044610508 : Unit := ()
def hd.tw4702841417184801058 : Unit := ()
def hd.tw1359830224848277088 : Unit := ()
def hd.tw8716120427605611371 : Unit := ()
def hd.tw18433733373944582078 : Unit := ()
def hd.tw12936449754285732098 : Unit := ()
def hd.tw1241404454085649124 : Unit := ()
def hd.tw8671608845466749128 : Unit := ()
def hd.tw15344866539931968096 : Unit := ()
def hd.tw8458067239894703972 : Unit := ()
def hd.tw8609351116199087170 : Unit := ()
def hd.tw697623264460660564 : Unit := ()
def hd.tw9277588360372424766 : Unit := ()
def hd.tw16211521421427940678 : Unit := ()
def hd.tw15910714762333108613 : Unit := ()
def hd.tw920214292312260371 : Unit := ()
def hd.tw15089522573102190283 : Unit := ()
def hd.tw442638132926106271 : Unit := ()
def hd.tw13828106393651249627 : Unit := ()
def hd.tw14768889098011018680 : Unit := ()
def hd.tw10784824025267889561 : Unit := ()
def hd.tw8047900516022102942 : Unit := ()
def hd.tw9398405308114057262 : Unit := ()
def hd.tw5987830557187376847 : Unit := ()
def hd.tw17258206423299326598 : Unit := ()
def hd.tw3480954088277226078 : Unit := ()
def hd.tw7494724483528729301 : Unit := ()
def hd.tw2999033326186475339 : Unit := ()
def hd.tw12588582704262371052 : Unit := ()
def hd.tw212345690472687942 : Unit := ()
def hd.tw12633595827127266219 : Unit := ()
def hd.tw13518370688599389936 : Unit := ()
def hd.tw15367242080415987702 : Unit := ()
def hd.tw6184460063843016694 : Unit := ()
def hd.tw2315301623876862497 : Unit := ()
def hd.tw18219297243305740317 : Unit := ()
def hd.tw6528754448969337418 : Unit := ()
def hd.tw5282504435634884242 : Unit := ()
def hd.tw16412773359747925120 : Unit := ()
def hd.tw16713699803418581334 : Unit := ()
def hd.tw17213754286329925777 : Unit := ()
def hd.tw1882180444382439491 : Unit := ()
def hd.tw8493152586797012548 : Unit := ()
def hd.tw16194383521188589630 : Unit := ()
def hd.tw8068729725432388964 : Unit := ()
def hd.tw4360684699965382250 : Unit := ()
def hd.tw14892549342360969540 : Unit := ()
def hd.tw10458740792067480800 : Unit := ()
def hd.tw6423634429210846174 : Unit := ()
def hd.tw11652457597714270106 : Unit := ()
def hd.tw4851647983119433812 : Unit := ()
def hd.tw5978321128707920903 : Unit := ()
def hd.tw10126750691676969038 : Unit := ()
def hd.tw978945382295711627 : Unit := ()
def hd.tw13483081372092288885 : Unit := ()
def hd.tw7534799579077118603 : Unit := ()
def hd.tw12112201142124510154 : Unit := ()
def hd.tw7296583596125217682 : Unit := ()
def hd.tw15643275761693703936 : Unit := ()
def hd.tw2252305205657439004 : Unit := ()
def hd.tw3219085151875037572 : Unit := ()
def hd.tw17975533764899295144 : Unit := ()
def hd.tw16225743686406366006 : Unit := ()
def hd.tw2708950531961675432 : Unit := ()
def hd.tw3789350110615891812 : Unit := ()
def hd.tw9014375795449043846 : Unit := ()
def hd.tw11079593142295127227 : Unit := ()
def hd.tw461538923250603899 : Unit := ()
def hd.tw13642289790063256904 : Unit := ()
def hd.tw12647368939536790636 : Unit := ()
def hd.tw17711083657039698284 : Unit := ()
def hd.tw17986969038992634876 : Unit := ()
def hd.tw280609765759037681 : Unit := ()
def hd.tw8457440626546761165 : Unit := ()
def hd.tw13783031573616600631 : Unit := ()
def hd.tw2930668341846507884 : Unit := ()
def hd.tw3442329435671937591 : Unit := ()
def hd.tw13220430256171166289 : Unit := ()
def hd.tw3704167492566942397 : Unit := ()
def hd.tw11402939732021071671 : Unit := ()
def hd.tw6906073325868019850 : Unit := ()
def hd.tw11026324117731225655 : Unit := ()
def hd.tw6123773746684550334 : Unit := ()
def hd.tw5716766192118558609 : Unit := ()
def hd.tw6785817131721698500 : Unit := ()
def hd.tw8789358453043137523 : Unit := ()
def hd.tw6931407450589930559 : Unit := ()
def hd.tw4297731678662094536 : Unit := ()
def hd.tw2457190517430149469 : Unit := ()
def hd.tw8081886968326746073 : Unit := ()
def hd.tw11713075325732132258 : Unit := ()
def hd.tw17234923516513369237 : Unit := ()
def hd.tw9566141503761928105 : Unit := ()
def hd.tw10404513684093684653 : Unit := ()
def hd.tw14103535550066685397 : Unit := ()
def hd.tw9430268157657104642 : Unit := ()
def hd.tw14620637471214046174 : Unit := ()
def hd.tw9533747618267967006 : Unit := ()
def hd.tw14294001040229213422 : Unit := ()
def hd.tw15683763237869141255 : Unit := ()
def hd.tw5608270528595127837 : Unit := ()
def hd.tw13855946660403688772 : Unit := ()
def hd.tw5480042469492414594 : Unit := ()
def hd.tw9641152695372364146 : Unit := ()
def hd.tw4478166936697009375 : Unit := ()
def hd.tw5264063981939063851 : Unit := ()
def hd.tw7519716089354478335 : Unit := ()
def hd.tw3646829019195819677 : Unit := ()
def hd.tw2304311442786299043 : Unit := ()
def hd.tw16477043939570097188 : Unit := ()
def hd.tw12901994302517312135 : Unit := ()
def hd.tw16037735763661986305 : Unit := ()
def hd.tw11220892185045867188 : Unit := ()
def hd.tw7120233287515763914 : Unit := ()
def hd.tw1781861727890032366 : Unit := ()
def hd.tw15616948245753086127 : Unit := ()
def hd.tw7914949630228597729 : Unit := ()
def hd.tw5629675986466331604 : Unit := ()
def hd.tw15759970867653108152 : Unit := ()
def hd.tw16299908979028503884 : Unit := ()
def hd.tw7763873220885509757 : Unit := ()
def hd.tw4065347644161347641 : Unit := ()
def hd.tw845060206244984605 : Unit := ()
def hd.tw13372043803930879067 : Unit := ()
def hd.tw5190246844813560578 : Unit := ()
def hd.tw8228950375871286339 : Unit := ()
def hd.tw15416985209724490359 : Unit := ()
def hd.tw9741134391959003819 : Unit := ()
def hd.tw12070051907170230399 : Unit := ()
def hd.tw4856431653887292112 : Unit := ()
def hd.tw10012880186880212623 : Unit := ()
def hd.tw7721951785955056133 : Unit := ()
def hd.tw12487502673411948298 : Unit := ()
def hd.tw7746578258024575070 : Unit := ()
def hd.tw15595854959937240912 : Unit := ()
def hd.tw12949589719889679912 : Unit := ()
def hd.tw17599816209265215132 : Unit := ()
def hd.tw11513968764499736323 : Unit := ()
def hd.tw6291416237084387574 : Unit := ()
def hd.tw15527848837575444561 : Unit := ()
def hd.tw9345676750909349944 : Unit := ()
def hd.tw15813434630575017362 : Unit := ()
def hd.tw5278057926702712004 : Unit := ()
def hd.tw15103106377680225435 : Unit := ()
def hd.tw3451239065008710300 : Unit := ()
def hd.tw11893437276241958245 : Unit := ()
def hd.tw16240987189780228909 : Unit := ()
def hd.tw7028611270464810887 : Unit := ()
def hd.tw1865391376527767206 : Unit := ()
def hd.tw13409441903868389331 : Unit := ()
def hd.tw4086058157674990017 : Unit := ()
def hd.tw16157073509204512506 : Unit := ()
def hd.tw15987713032478767096 : Unit := ()
def hd.tw3493717111155160527 : Unit := ()
def hd.tw15673258824015622330 : Unit := ()
def hd.tw12575139184659369484 : Unit := ()
def hd.tw6555240042291301478 : Unit := ()
def hd.tw17901334829092211166 : Unit := ()
def hd.tw7082855905992002993 : Unit := ()
def hd.tw5657824000916062451 : Unit := ()
def hd.tw8025032847418708242 : Unit := ()
def hd.tw12023040214023829324 : Unit := ()
def hd.tw6767318904944593275 : Unit := ()
def hd.tw7526368328331116154 : Unit := ()
def hd.tw15946388913382835224 : Unit := ()
def hd.tw1847840615245081061 : Unit := ()
def hd.tw12050417470231563642 : Unit := ()
def hd.tw1506431575118746342 : Unit := ()
def hd.tw15220180469806662145 : Unit := ()
def hd.tw8727321023445011275 : Unit := ()
def hd.tw3259873300814134281 : Unit := ()
def hd.tw464777395874653626 : Unit := ()
def hd.tw4993660671451451078 : Unit := ()
def hd.tw15279998641719260112 : Unit := ()
def hd.tw6305734824756694309 : Unit := ()
def hd.tw17377529257436501650 : Unit := ()
def hd.tw8343274005884668182 : Unit := ()
def hd.tw12113243949977362033 : Unit := ()
def hd.tw1610171440888473627 : Unit := ()
def hd.tw10024716035694756283 : Unit := ()
def hd.tw10601615944963115059 : Unit := ()
def hd.tw16904818350239718627 : Unit := ()
def hd.tw8184699220007379433 : Unit := ()
def hd.tw22551697357593593 : Unit := ()
def hd.tw7023726343779634624 : Unit := ()
def hd.tw17950676927832955104 : Unit := ()
def hd.tw10360471539772378328 : Unit := ()
def hd.tw6819123309680001836 : Unit := ()
def hd.tw1413172679324656950 : Unit := ()
def hd.tw16011055738799735888 : Unit := ()
def hd.tw6060742912462422084 : Unit := ()
def hd.tw17574625026820762457 : Unit := ()
def hd.tw8004679753235328684 : Unit := ()
def hd.tw3452082135128663414 : Unit := ()
def hd.tw7289634563603522867 : Unit := ()
def hd.tw1409312971732116557 : Unit := ()
def hd.tw7628703163842673926 : Unit := ()
def hd.tw6965799899956892507 : Unit := ()
def hd.tw16945582573551092051 : Unit := ()
def hd.tw3182187488490625086 : Unit := ()
def hd.tw12271959270614036898 : Unit := ()
def hd.tw11802353813225856 : Unit := ()
def hd.tw6990203504111849199 : Unit := ()
def hd.tw18300207936620678264 : Unit := ()
def hd.tw9427301549700849589 : Unit := ()
def hd.tw4172343393113369950 : Unit := ()
def hd.tw12629568148972539762 : Unit := ()
def hd.tw2603259988358896889 : Unit := ()
def hd.tw13903934854276604550 : Unit := ()
def hd.tw17054507655720011243 : Unit := ()
def hd.tw13330244855972007585 : Unit := ()
def hd.tw18103342009636024947 : Unit := ()
def hd.tw9170477692918782315 : Unit := ()
def hd.tw8381844023166312768 : Unit := ()
def hd.tw6438293893037913957 : Unit := ()
def hd.tw16302227732802510677 : Unit := ()
def hd.tw11054480109507316185 : Unit := ()
def hd.tw3759623122121258479 : Unit := ()
def hd.tw3429492842335990350 : Unit := ()
def hd.tw16631945168110365508 : Unit := ()
def hd.tw11232374478483605306 : Unit := ()
def hd.tw4706079058837389440 : Unit := ()
def hd.tw7891253978561527248 : Unit := ()
def hd.tw17919194246423945575 : Unit := ()
def hd.tw2216850387143573719 : Unit := ()
def hd.tw12631932088317031055 : Unit := ()
def hd.tw2167537188350426706 : Unit := ()
def hd.tw4478964076566166474 : Unit := ()
def hd.tw16920754564084929960 : Unit := ()
def hd.tw11319892378374348655 : Unit := ()
def hd.tw1699103778626983548 : Unit := ()
def hd.tw12399718760709695909 : Unit := ()
def hd.tw5635641802508607975 : Unit := ()
def hd.tw1836080755315867724 : Unit := ()
def hd.tw1129884963351977449 : Unit := ()
def hd.tw26425463804135960 : Unit := ()
def hd.tw5343241284826551009 : Unit := ()
def hd.tw8883835196101046400 : Unit := ()
def hd.tw6598312636042714100 : Unit := ()
def hd.tw11754176132448286083 : Unit := ()
def hd.tw6998783941825042932 : Unit := ()
def hd.tw10603584201595350602 : Unit := ()
def hd.tw13866372431405929976 : Unit := ()
def hd.tw5961118342813265553 : Unit := ()
def hd.tw2386827423013361158 : Unit := ()
def hd.tw9719896912496429819 : Unit := ()
def hd.tw11551083187376567056 : Unit := ()
def hd.tw16970440968685349367 : Unit := ()
def hd.tw7880807054014371918 : Unit := ()
def hd.tw14478148883734587675 : Unit := ()
def hd.tw17948085552500728524 : Unit := ()
def hd.tw12602439190401603521 : Unit := ()
def hd.tw10752148897807903841 : Unit := ()
def hd.tw11660266114150955751 : Unit := ()
def hd.tw5355321495217300903 : Unit := ()
def hd.tw13289513938125300765 : Unit := ()
def hd.tw18166333605607142505 : Unit := ()
def hd.tw13723031510162244379 : Unit := ()
def hd.tw12173100003817136821 : Unit := ()
def hd.tw15368132723985388332 : Unit := ()
def hd.tw8960069828448710407 : Unit := ()
def hd.tw6578402527460240241 : Unit := ()
def hd.tw13181700845877081190 : Unit := ()
def hd.tw17330945745186091897 : Unit := ()
def hd.tw17001982702790524580 : Unit := ()
def hd.tw10111801491309104144 : Unit := ()
def hd.tw6547078798241139092 : Unit := ()
def hd.tw8428860471423672150 : Unit := ()
def hd.tw15042006015671813226 : Unit := ()
def hd.tw13770079208771991547 : Unit := ()
def hd.tw3229955645248102723 : Unit := ()
def hd.tw5511420028821071320 : Unit := ()
def hd.tw15529170255622000948 : Unit := ()
def hd.tw4971549296188076032 : Unit := ()
def hd.tw14980023328507725902 : Unit := ()
def hd.tw6868836192036940282 : Unit := ()
def hd.tw17714235663813219645 : Unit := ()
def hd.tw15837987909243819085 : Unit := ()
set_option Elab.async true in
set_option maxRecDepth 100000 in
set_option maxHeartbeats 8000000 in
theorem hd : PySem.Challenge.rw_uf040024_14.Holds := by
  w_on
  o_law
  k_head
  case hw => w_witness2
  k_fill
  intro w s₀ s₁ mg mb G Y fa o pm cd doc dV kV ho hd hcd hD hmg hg args vals as hpre hlay hrd hwl hlo
  have KX0 := kIn_of Y
  have T := G.T
  clear hd hcd hD
  have KX : (Mine.KK w.params).In s₁.heap := by
    refine Eq.mp (congrArg (fun K : Frag => K.In s₁.heap) (?_ : _ = Mine.KK w.params)) KX0
    kernel_rfl
  have ea : fa = 425 := by have e := hmg.symm.trans (mg_of KX T.g (v := .ref 425) rfl); injection e with e; injection e
  subst ea
  wrow_args hpre hlay hrd hwl hlo
  rename_i ns _ _ _ _ _ _ _ sc vs _ hL _ _ _ hI _ hc _
  refine wpAny_mono (Mine.glue (Mine.law14 (c := ⟨_, w, s₁.heap, mg, mb, s₁.os⟩) (P := w.params) ⟨⟨T.g, T.b, T.nolimit⟩, KX, T.builtins, ⟨vs, hL, hI⟩, by omega⟩ ⟨fun x C bm id h q => own_of_in KX (topRead_of T) h q⟩) hg) (fun v s' z => ?_) fun _ _ z => z.elim
  obtain ⟨rfl, old, os, bare⟩ := z
  refine ⟨.inl ⟨_, .bool true, [], rfl, ?_, ?_, ?_, ?_⟩, old, os, bare⟩
  · exact raisesW_false (by wrow_none_raised)
  · exact .bool true
  · wrow_post
  · exact fun _ => ⟨List.nodup_nil, fun a h => nomatch h⟩
end Mine
open PySem PySem.W PyProof.Rows
theorem PySem.Challenge.cw_uf040024_14_holds : PySem.Challenge.rw_uf040024_14.Holds :=
  Mine.hd
