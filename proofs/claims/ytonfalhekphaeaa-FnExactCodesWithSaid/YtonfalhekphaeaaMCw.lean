/- Codes of samples with noise, both sides. -/
import Derived.Test.YtonfalhekphaeaaMKb
import Derived.Test.YtonfalhekphaeaaMKw
import Derived.Test.YtonfalhekphaeaaMH
set_option linter.unusedVariables false
set_option linter.unusedSimpArgs false
namespace Go.E
open Go
def L15 : LFn := ⟨3, (.seq (.reg [⟨(.some 6), (.mv (.c (.lf .nils))), none⟩, ⟨(.some 7), (.mv (.c (.lf (.bool false)))), none⟩])
 (.seq (.seq (.reg [⟨(.some 12), (.mv (.t 0)), none⟩, ⟨(.some 13), (.call true 71 [(.t 12)]), none⟩, ⟨(.some 14), (.una .not (.t 13)), none⟩, ⟨(.some 15), (.mv (.t 14)), none⟩, ⟨(.some 16), (.mv (.t 1)), (.some (15, false))⟩, ⟨(.some 17), (.call true 72 [(.t 16)]), (.some (15, false))⟩, ⟨(.some 18), (.una .not (.t 17)), (.some (15, false))⟩, ⟨(.some 19), (.pick (.t 15) (.c (.lf (.bool true))) (.t 18)), none⟩, ⟨(.some 20), (.mv (.t 19)), none⟩, ⟨(.some 21), (.mv (.t 2)), (.some (20, false))⟩, ⟨(.some 22), (.len (.t 21)), (.some (20, false))⟩, ⟨(.some 23), (.mv (.t 1)), (.some (20, false))⟩, ⟨(.some 24), (.len (.t 23)), (.some (20, false))⟩, ⟨(.some 25), (.bin .mul (.c (.lf (.int .i64 2))) (.t 24)), (.some (20, false))⟩, ⟨(.some 26), (.bin .neq (.t 22) (.t 25)), (.some (20, false))⟩, ⟨(.some 27), (.pick (.t 20) (.c (.lf (.bool true))) (.t 26)), none⟩])
 (.cond (.t 27) (.seq (.reg [⟨(.some 6), (.mv (.c (.lf .nils))), none⟩, ⟨(.some 7), (.mv (.c (.lf (.bool false)))), none⟩])
 .ret) .skip))
 (.seq (.seq (.reg [⟨(.some 8), (.mv (.c (.lf (.int .i64 0)))), none⟩])
 (.block 0 (.loop (.seq (.seq (.reg [⟨(.some 28), (.mv (.t 8)), none⟩, ⟨(.some 29), (.mv (.t 2)), none⟩, ⟨(.some 30), (.len (.t 29)), none⟩, ⟨(.some 31), (.bin .lss (.t 28) (.t 30)), none⟩])
 (.cond (.t 31) .skip (.exit 0)))
 (.seq (.block 1 (.seq (.reg [⟨(.some 34), (.mv (.t 2)), none⟩, ⟨(.some 35), (.mv (.t 8)), none⟩, ⟨(.some 36), (.iaddr 1 (.t 34) (.t 35)), none⟩, ⟨(.some 37), (.load false 1 (.t 36)), none⟩, ⟨(.some 38), (.call true 73 [(.t 37), (.c (.lf (.int .i64 0))), (.c (.lf (.int .i64 255)))]), none⟩, ⟨(.some 39), (.una .not (.t 38)), none⟩])
 (.cond (.t 39) (.seq (.reg [⟨(.some 6), (.mv (.c (.lf .nils))), none⟩, ⟨(.some 7), (.mv (.c (.lf (.bool false)))), none⟩])
 .ret) .skip)))
 (.reg [⟨(.some 32), (.mv (.t 8)), none⟩, ⟨(.some 33), (.bin .add (.t 32) (.c (.lf (.int .i64 1)))), none⟩, ⟨(.some 8), (.mv (.t 33)), none⟩]))))))
 (.seq (.reg [⟨(.some 40), (.lit 2 1 0 [] []), none⟩, ⟨(.some 9), (.mv (.t 40)), none⟩])
 (.seq (.seq (.reg [⟨(.some 10), (.mv (.c (.lf (.int .i64 0)))), none⟩])
 (.block 2 (.loop (.seq (.seq (.reg [⟨(.some 41), (.mv (.t 10)), none⟩, ⟨(.some 42), (.mv (.t 1)), none⟩, ⟨(.some 43), (.len (.t 42)), none⟩, ⟨(.some 44), (.bin .lss (.t 41) (.t 43)), none⟩])
 (.cond (.t 44) .skip (.exit 2)))
 (.seq (.block 3 (.seq (.reg [⟨(.some 47), (.mv (.t 1)), none⟩, ⟨(.some 48), (.mv (.t 10)), none⟩, ⟨(.some 49), (.iaddr 1 (.t 47) (.t 48)), none⟩, ⟨(.some 50), (.load false 1 (.t 49)), none⟩, ⟨(.some 51), (.toflt .f64 (.t 50)), none⟩, ⟨(.some 52), (.mv (.t 0)), none⟩, ⟨(.some 53), (.call true 74 [(.t 52)]), none⟩, ⟨(.some 54), (.toflt .f64 (.t 53)), none⟩, ⟨(.some 55), (.bin .mul (.t 51) (.t 54)), none⟩, ⟨(.some 11), (.mv (.t 55)), none⟩])
 (.reg [⟨(.some 56), (.mv (.t 9)), none⟩, ⟨(.some 57), (.mv (.t 0)), none⟩, ⟨(.some 58), (.mv (.t 11)), none⟩, ⟨(.some 59), (.mv (.t 2)), none⟩, ⟨(.some 60), (.mv (.t 10)), none⟩, ⟨(.some 61), (.bin .mul (.c (.lf (.int .i64 2))) (.t 60)), none⟩, ⟨(.some 62), (.iaddr 1 (.t 59) (.t 61)), none⟩, ⟨(.some 63), (.load false 1 (.t 62)), none⟩, ⟨(.some 64), (.mv (.t 2)), none⟩, ⟨(.some 65), (.mv (.t 10)), none⟩, ⟨(.some 66), (.bin .mul (.c (.lf (.int .i64 2))) (.t 65)), none⟩, ⟨(.some 67), (.bin .add (.t 66) (.c (.lf (.int .i64 1)))), none⟩, ⟨(.some 68), (.iaddr 1 (.t 64) (.t 67)), none⟩, ⟨(.some 69), (.load false 1 (.t 68)), none⟩, ⟨(.some 70), (.bin .sub (.t 63) (.t 69)), none⟩, ⟨(.some 71), (.toflt .f64 (.t 70)), none⟩, ⟨(.some 72), (.bin .quo (.t 71) (.c (.lf (.flt .f64 4643211215818981376)))), none⟩, ⟨(.some 73), (.bin .add (.t 58) (.t 72)), none⟩, ⟨(.some 74), (.call true 75 [(.t 57), (.t 73)]), none⟩, ⟨(.some 75), (.lit 2 1 1 [(.int .i64 0)] [(0, (1, (.t 74)))]), none⟩, ⟨(.some 76), (.app 2 1 8 (.t 56) (.t 75)), none⟩, ⟨(.some 9), (.mv (.t 76)), none⟩])))
 (.reg [⟨(.some 45), (.mv (.t 10)), none⟩, ⟨(.some 46), (.bin .add (.t 45) (.c (.lf (.int .i64 1)))), none⟩, ⟨(.some 10), (.mv (.t 46)), none⟩]))))))
 (.seq (.reg [⟨(.some 77), (.mv (.t 9)), none⟩, ⟨(.some 6), (.mv (.t 77)), none⟩, ⟨(.some 7), (.mv (.c (.lf (.bool true)))), none⟩])
 .ret)))))), [(.tmp 6), (.tmp 7)]⟩
def L18 : LFn := ⟨3, (.seq (.reg [⟨(.some 6), (.mv (.c (.lf .nils))), none⟩, ⟨(.some 7), (.mv (.c (.lf (.bool false)))), none⟩])
 (.seq (.seq (.reg [⟨(.some 11), (.mv (.t 0)), none⟩, ⟨(.some 12), (.call true 76 [(.t 11)]), none⟩, ⟨(.some 13), (.una .not (.t 12)), none⟩, ⟨(.some 14), (.mv (.t 13)), none⟩, ⟨(.some 15), (.mv (.t 1)), (.some (14, false))⟩, ⟨(.some 16), (.call true 77 [(.t 15)]), (.some (14, false))⟩, ⟨(.some 17), (.una .not (.t 16)), (.some (14, false))⟩, ⟨(.some 18), (.pick (.t 14) (.c (.lf (.bool true))) (.t 17)), none⟩, ⟨(.some 19), (.mv (.t 18)), none⟩, ⟨(.some 20), (.mv (.t 2)), (.some (19, false))⟩, ⟨(.some 21), (.len (.t 20)), (.some (19, false))⟩, ⟨(.some 22), (.mv (.t 1)), (.some (19, false))⟩, ⟨(.some 23), (.len (.t 22)), (.some (19, false))⟩, ⟨(.some 24), (.bin .mul (.c (.lf (.int .i64 2))) (.t 23)), (.some (19, false))⟩, ⟨(.some 25), (.bin .neq (.t 21) (.t 24)), (.some (19, false))⟩, ⟨(.some 26), (.pick (.t 19) (.c (.lf (.bool true))) (.t 25)), none⟩, ⟨(.some 27), (.mv (.t 26)), none⟩, ⟨(.some 28), (.mv (.t 2)), (.some (27, false))⟩, ⟨(.some 29), (.call true 78 [(.t 28), (.c (.lf (.int .i64 0))), (.c (.lf (.int .i64 255)))]), (.some (27, false))⟩, ⟨(.some 30), (.una .not (.t 29)), (.some (27, false))⟩, ⟨(.some 31), (.pick (.t 27) (.c (.lf (.bool true))) (.t 30)), none⟩])
 (.cond (.t 31) (.seq (.reg [⟨(.some 6), (.mv (.c (.lf .nils))), none⟩, ⟨(.some 7), (.mv (.c (.lf (.bool false)))), none⟩])
 .ret) .skip))
 (.seq (.reg [⟨(.some 8), (.mv (.c (.lf .nils))), none⟩])
 (.seq (.seq (.reg [⟨(.some 32), (.mv (.t 1)), none⟩, ⟨(.some 33), (.len (.t 32)), none⟩, ⟨(.some 34), (.mv (.c (.lf (.int .i64 0)))), none⟩])
 (.block 0 (.loop (.seq (.reg [⟨(.some 35), (.bin .lss (.t 34) (.t 33)), none⟩])
 (.seq (.cond (.t 35) .skip (.exit 0))
 (.seq (.block 1 (.seq (.reg [⟨(.some 36), (.mv (.t 34)), none⟩, ⟨(.some 37), (.iaddr 1 (.t 32) (.t 34)), none⟩, ⟨(.some 38), (.load false 1 (.t 37)), none⟩, ⟨(.some 9), (.mv (.t 36)), none⟩, ⟨(.some 10), (.mv (.t 38)), none⟩])
 (.reg [⟨(.some 39), (.mv (.t 8)), none⟩, ⟨(.some 40), (.mv (.t 0)), none⟩, ⟨(.some 41), (.mv (.t 0)), none⟩, ⟨(.some 42), (.mv (.t 10)), none⟩, ⟨(.some 43), (.call true 80 [(.t 41), (.t 42)]), none⟩, ⟨(.some 44), (.mv (.t 2)), none⟩, ⟨(.some 45), (.mv (.t 9)), none⟩, ⟨(.some 46), (.bin .mul (.c (.lf (.int .i64 2))) (.t 45)), none⟩, ⟨(.some 47), (.iaddr 1 (.t 44) (.t 46)), none⟩, ⟨(.some 48), (.load false 1 (.t 47)), none⟩, ⟨(.some 49), (.mv (.t 2)), none⟩, ⟨(.some 50), (.mv (.t 9)), none⟩, ⟨(.some 51), (.bin .mul (.c (.lf (.int .i64 2))) (.t 50)), none⟩, ⟨(.some 52), (.bin .add (.t 51) (.c (.lf (.int .i64 1)))), none⟩, ⟨(.some 53), (.iaddr 1 (.t 49) (.t 52)), none⟩, ⟨(.some 54), (.load false 1 (.t 53)), none⟩, ⟨(.some 55), (.bin .sub (.t 48) (.t 54)), none⟩, ⟨(.some 56), (.toflt .f64 (.t 55)), none⟩, ⟨(.some 57), (.bin .quo (.t 56) (.c (.lf (.flt .f64 4643211215818981376)))), none⟩, ⟨(.some 58), (.bin .add (.t 43) (.t 57)), none⟩, ⟨(.some 59), (.call true 79 [(.t 40), (.t 58)]), none⟩, ⟨(.some 60), (.lit 2 1 1 [(.int .i64 0)] [(0, (1, (.t 59)))]), none⟩, ⟨(.some 61), (.app 2 1 8 (.t 39) (.t 60)), none⟩, ⟨(.some 8), (.mv (.t 61)), none⟩])))
 (.reg [⟨(.some 62), (.bin .add (.t 34) (.c (.lf (.int .i64 1)))), none⟩, ⟨(.some 34), (.mv (.t 62)), none⟩])))))))
 (.seq (.reg [⟨(.some 63), (.mv (.t 8)), none⟩, ⟨(.some 6), (.mv (.t 63)), none⟩, ⟨(.some 7), (.mv (.c (.lf (.bool true)))), none⟩])
 .ret))))), [(.tmp 6), (.tmp 7)]⟩
class HasCw (S : Sys) : Prop extends HasKb S, HasP S, HasW S where
  f15 : S.fs 15 = some L15
  f18 : S.fs 18 = some L18
noncomputable def cowN (b : Int) (xs : List Nat) (ns : List Int) (i : Nat) : Int :=
  codeN (mst b) (fbin .add .f64 (fbin .mul .f64 (wid (xs.getD i 0)) (fofint .f64 (mst b))) (fbin .quo .f64 (fofint .f64 (ns.getD (2 * i) 0 - ns.getD (2 * i + 1) 0)) 4643211215818981376))
def okCw (b : Int) (n : Nat) (ns : List Int) : Prop := (2 ≤ b ∧ b ≤ 16) ∧ n ≤ 256 ∧ ns.length = 2 * n ∧ allIn 0 255 ns
noncomputable instance {b : Int} {n : Nat} {ns : List Int} : Decidable (okCw b n ns) := Classical.propDecidable _
noncomputable def codesW (b : Int) (xs : List Nat) (ns : List Int) : List Int := if okCw b xs.length ns then tabTo (cowN b xs ns) xs.length else []
theorem codesW_len {b : Int} {xs : List Nat} {ns : List Int} : (codesW b xs ns).length ≤ 256 := by
  unfold codesW
  split
  · rename_i hk; rw [tabTo_len]; exact hk.2.1
  · simp
section
variable {S : Sys} {lim : Nat} {h : Hp} {K : CV → Hp → Prop} [HasCw S] {l l2 : Lf} {xs : List Nat} {ns : List Int}
theorem c_specCodesWith {b : Int} (hA : Arr h l 1 (xs.map fl)) (hB : Arr h l2 1 (ns.map il)) (hl : lim ≤ h.length) (hT : okCw b xs.length ns → ∀ o g, New h g o 2 1 ((tabTo (cowN b xs ns) xs.length).map il) → K (.tup [.lf o, .lf (.bool true)]) g) (hF : ¬ okCw b xs.length ns → K (.tup [.lf .nils, .lf (.bool false)]) h) :
    CallT S false 15 [.lf (.int .i64 b), .lf l, .lf l2] h lim K := by
  have hbA := hA.bound
  have hbB := hB.bound
  by_cases h1 : 2 ≤ b ∧ b ≤ 16
  · by_cases h2 : xs.length ≤ 256
    · by_cases h3 : ns.length = 2 * xs.length
      · have h3' : (ns.length : Int) = 2 * xs.length := by omega
        refine CallT_of_body (F := L15) (HasCw.f15) rfl ?_; unfold L15; dsimp only []
        repeat' (first | (simp (disch := first | omega | assumption | (simp only [List.length_set]; omega) | (simp [*] <;> fail) | assumption) [-Bool.decide_and, -Bool.decide_or, -Bool.not_and, -Bool.not_or, toNat_pred, toNat_succ, wrap64, wr_new, wr_new0, ok_if, ok_ifn, iadV_sl, makeV_int, decT, decF, over_at, *, c_l01Few hA, hA.len, hB.len, leavesAll, fillL]) | (with_reducible refine Gd_split (fun hc => ?_) (fun hc => ?_) <;> (have hc2 := hc; try simp at hc2)) | (with_reducible refine Br_split (fun hc => ?_) (fun hc => ?_) <;> (have hc2 := hc; try simp at hc2)) | (with_reducible refine GdT_split (fun hc => ?_) (fun hc => ?_) <;> (have hc2 := hc; try simp at hc2)) | (with_reducible refine WT_alt ?_ ?_) | omega)
        refine WL_forM 1099243192768 (by decide +kernel) (ns.length) (fun i b' g => i ≤ ns.length ∧ b' 8 = .lf (.int .i64 i) ∧ h = g ∧ withinUpto 0 255 ns i) (fun _ _ _ hi => hi.1) ⟨by simp, by simp, rfl, withinUpto.zero⟩ ?_
        rintro i b' g ⟨hi, e8, rfl, hin⟩
        by_cases hlt : i < ns.length
        · by_cases hw : 0 ≤ ns[i] ∧ ns[i] ≤ 255
          · have hin2 := hin.succ hlt hw
            clear hT hF
            repeat' (first | (simp (disch := first | omega | assumption | (simp only [List.length_set]; omega) | (simp [*] <;> fail) | assumption) [-Bool.decide_and, -Bool.decide_or, -Bool.not_and, -Bool.not_or, toNat_pred, toNat_succ, wrap64, wr_new, wr_new0, ok_if, ok_ifn, iadV_sl, makeV_int, decT, decF, over_at, *, hB.len, hB.at_, hB.at_', hB.rd, hB.rdIn, hB.rdIn0, hB.rdA, hB.rdInA, hB.rdIn0A, hB.rd1, il]) | (with_reducible refine Gd_split (fun hc => ?_) (fun hc => ?_) <;> (have hc2 := hc; try simp at hc2)) | (with_reducible refine Br_split (fun hc => ?_) (fun hc => ?_) <;> (have hc2 := hc; try simp at hc2)) | (with_reducible refine GdT_split (fun hc => ?_) (fun hc => ?_) <;> (have hc2 := hc; try simp at hc2)) | (with_reducible refine WT_alt ?_ ?_) | omega)
            all_goals ((repeat' apply And.intro) <;> first | omega | assumption)
          · have hF2 := hF fun q => not_allIn hlt hw q.2.2.2
            clear hT hF
            repeat' (first | (simp (disch := first | omega | assumption | (simp only [List.length_set]; omega) | (simp [*] <;> fail) | assumption) [-Bool.decide_and, -Bool.decide_or, -Bool.not_and, -Bool.not_or, toNat_pred, toNat_succ, wrap64, wr_new, wr_new0, ok_if, ok_ifn, iadV_sl, makeV_int, decT, decF, over_at, *, hB.len, hB.at_, hB.at_', hB.rd, hB.rdIn, hB.rdIn0, hB.rdA, hB.rdInA, hB.rdIn0A, hB.rd1, il]) | (with_reducible refine Gd_split (fun hc => ?_) (fun hc => ?_) <;> (have hc2 := hc; try simp at hc2)) | (with_reducible refine Br_split (fun hc => ?_) (fun hc => ?_) <;> (have hc2 := hc; try simp at hc2)) | (with_reducible refine GdT_split (fun hc => ?_) (fun hc => ?_) <;> (have hc2 := hc; try simp at hc2)) | (with_reducible refine WT_alt ?_ ?_) | omega)
        · have e : i = ns.length := by omega
          subst e
          have hk : okCw b xs.length ns := ⟨h1, h2, h3, hin⟩
          have hT2 := hT hk
          clear hT hF hk
          replace hin : Hid (withinUpto 0 255 ns ns.length) := hin
          repeat' (first | (simp (disch := first | omega | assumption | (simp only [List.length_set]; omega) | (simp [*] <;> fail) | assumption) [-Bool.decide_and, -Bool.decide_or, -Bool.not_and, -Bool.not_or, toNat_pred, toNat_succ, wrap64, wr_new, wr_new0, ok_if, ok_ifn, iadV_sl, makeV_int, decT, decF, over_at, *, hB.len, leavesAll, fillL]) | (with_reducible refine Gd_split (fun hc => ?_) (fun hc => ?_) <;> (have hc2 := hc; try simp at hc2)) | (with_reducible refine Br_split (fun hc => ?_) (fun hc => ?_) <;> (have hc2 := hc; try simp at hc2)) | (with_reducible refine GdT_split (fun hc => ?_) (fun hc => ?_) <;> (have hc2 := hc; try simp at hc2)) | (with_reducible refine WT_alt ?_ ?_) | omega)
          refine WL_forM 151115727449629623586304 (by decide +kernel) (xs.length) (fun i b' g => i ≤ xs.length ∧ b' 10 = .lf (.int .i64 i) ∧ ∃ o, b' 9 = .lf o ∧ New h g o 2 1 ((tabTo (cowN b xs ns) i).map il)) (fun _ _ _ hi => hi.1) ⟨by simp, by simp, .sl h.length 0 0 1, by simp, by simpa using New.lit0⟩ ?_
          rintro i b' g ⟨hi, e10, o, e9, hN⟩
          have hA1 := hA.kept hN.kept
          have hB1 := hB.kept hN.kept
          have hlo := tabTo_len (f := cowN b xs ns) (n := i)
          by_cases hlt : i < xs.length
          · have s1 := tabTo_il (f := cowN b xs ns) (n := i)
            have hlt2 : 2 * i < ns.length := by omega
            have hlt3 : 2 * i + 1 < ns.length := by omega
            have p1 := hB1.at_ (k := .i64) hlt2
            have p2 := hB1.at_ (k := .i64) hlt3
            have p3 := hB1.rd1 hlt2
            have p4 := hB1.rd1 hlt3
            simp only [Int.natCast_mul, Int.natCast_add, Int.natCast_one, Int.cast_ofNat_Int, Nat.mul_one] at p1 p2
            have w1 := hin (2 * i) hlt2 hlt2
            have w2 := hin (2 * i + 1) hlt3 hlt3
            have hcd : codeN (mst b) (fbin .add .f64 (fbin .mul .f64 (wid xs[i]) (fofint .f64 (mst b))) (fbin .quo .f64 (fofint .f64 (ns[2 * i] - ns[2 * i + 1])) 4643211215818981376)) = cowN b xs ns i := by simp [cowN, hlt, hlt2, hlt3]
            have cc := fun h K => c_l06Code (S := S) (lim := lim) (h := h) (K := K) (v := fbin .add .f64 (fbin .mul .f64 (wid xs[i]) (fofint .f64 (mst b))) (fbin .quo .f64 (fofint .f64 (ns[2 * i] - ns[2 * i + 1])) 4643211215818981376)) h1.1 h1.2 CD_bin
            rw [hcd] at cc
            generalize cowN b xs ns i = y at *
            clear hT2 hcd
            repeat' (first | (simp (disch := first | omega | assumption | (simp only [List.length_set]; omega) | (simp [*] <;> fail) | assumption) [-Bool.decide_and, -Bool.decide_or, -Bool.not_and, -Bool.not_or, toNat_pred, toNat_succ, wrap64, wr_new, wr_new0, ok_if, ok_ifn, iadV_sl, makeV_int, decT, decF, over_at, *, hA1.len, hA1.at_, hA1.at_', hA1.rd, hA1.rdIn, hA1.rdIn0, hA1.rdA, hA1.rdInA, hA1.rdIn0A, hA1.rd1, fl, il, c_l06Most h1.1 h1.2, leavesAll, fillL]) | (with_reducible refine Gd_split (fun hc => ?_) (fun hc => ?_) <;> (have hc2 := hc; try simp at hc2)) | (with_reducible refine Br_split (fun hc => ?_) (fun hc => ?_) <;> (have hc2 := hc; try simp at hc2)) | (with_reducible refine GdT_split (fun hc => ?_) (fun hc => ?_) <;> (have hc2 := hc; try simp at hc2)) | (with_reducible refine WT_alt ?_ ?_) | omega)
            refine oc_push hN hl (by simp; omega) fun p g1 hP hC => ?_
            rw [← s1] at hP
            clear s1
            repeat' (first | (simp (disch := first | omega | assumption | (simp only [List.length_set]; omega) | (simp [*] <;> fail) | assumption) [-Bool.decide_and, -Bool.decide_or, -Bool.not_and, -Bool.not_or, toNat_pred, toNat_succ, wrap64, wr_new, wr_new0, ok_if, ok_ifn, iadV_sl, makeV_int, decT, decF, over_at, *]) | (with_reducible refine Gd_split (fun hc => ?_) (fun hc => ?_) <;> (have hc2 := hc; try simp at hc2)) | (with_reducible refine Br_split (fun hc => ?_) (fun hc => ?_) <;> (have hc2 := hc; try simp at hc2)) | (with_reducible refine GdT_split (fun hc => ?_) (fun hc => ?_) <;> (have hc2 := hc; try simp at hc2)) | (with_reducible refine WT_alt ?_ ?_) | omega)
            all_goals ((repeat' apply And.intro) <;> first | omega | assumption)
          · have : i = xs.length := by omega
            subst this
            repeat' (first | (simp (disch := first | omega | assumption | (simp only [List.length_set]; omega) | (simp [*] <;> fail) | assumption) [-Bool.decide_and, -Bool.decide_or, -Bool.not_and, -Bool.not_or, toNat_pred, toNat_succ, wrap64, wr_new, wr_new0, ok_if, ok_ifn, iadV_sl, makeV_int, decT, decF, over_at, *, hA1.len]) | (with_reducible refine Gd_split (fun hc => ?_) (fun hc => ?_) <;> (have hc2 := hc; try simp at hc2)) | (with_reducible refine Br_split (fun hc => ?_) (fun hc => ?_) <;> (have hc2 := hc; try simp at hc2)) | (with_reducible refine GdT_split (fun hc => ?_) (fun hc => ?_) <;> (have hc2 := hc; try simp at hc2)) | (with_reducible refine WT_alt ?_ ?_) | omega)
            all_goals ((repeat' apply And.intro) <;> first | omega | assumption | exact hT2 _ _ hN)
      · have h3' : ¬ (ns.length : Int) = 2 * xs.length := by omega
        have hF2 := hF fun q => h3 q.2.2.1
        clear hF hT
        refine CallT_of_body (F := L15) (HasCw.f15) rfl ?_; unfold L15; dsimp only []
        repeat' (first | (simp (disch := first | omega | assumption | (simp only [List.length_set]; omega) | (simp [*] <;> fail) | assumption) [-Bool.decide_and, -Bool.decide_or, -Bool.not_and, -Bool.not_or, toNat_pred, toNat_succ, wrap64, wr_new, wr_new0, ok_if, ok_ifn, iadV_sl, makeV_int, decT, decF, over_at, *, c_l01Few hA, hA.len, hB.len]) | (with_reducible refine Gd_split (fun hc => ?_) (fun hc => ?_) <;> (have hc2 := hc; try simp at hc2)) | (with_reducible refine Br_split (fun hc => ?_) (fun hc => ?_) <;> (have hc2 := hc; try simp at hc2)) | (with_reducible refine GdT_split (fun hc => ?_) (fun hc => ?_) <;> (have hc2 := hc; try simp at hc2)) | (with_reducible refine WT_alt ?_ ?_) | omega)
    · have hF2 := hF fun q => h2 q.2.1
      clear hF hT
      refine CallT_of_body (F := L15) (HasCw.f15) rfl ?_; unfold L15; dsimp only []
      repeat' (first | (simp (disch := first | omega | assumption | (simp only [List.length_set]; omega) | (simp [*] <;> fail) | assumption) [-Bool.decide_and, -Bool.decide_or, -Bool.not_and, -Bool.not_or, toNat_pred, toNat_succ, wrap64, wr_new, wr_new0, ok_if, ok_ifn, iadV_sl, makeV_int, decT, decF, over_at, *, c_l01Few hA]) | (with_reducible refine Gd_split (fun hc => ?_) (fun hc => ?_) <;> (have hc2 := hc; try simp at hc2)) | (with_reducible refine Br_split (fun hc => ?_) (fun hc => ?_) <;> (have hc2 := hc; try simp at hc2)) | (with_reducible refine GdT_split (fun hc => ?_) (fun hc => ?_) <;> (have hc2 := hc; try simp at hc2)) | (with_reducible refine WT_alt ?_ ?_) | omega)
  · have hF2 := hF fun q => h1 q.1
    clear hF hT
    refine CallT_of_body (F := L15) (HasCw.f15) rfl ?_; unfold L15; dsimp only []
    repeat' (first | (simp (disch := first | omega | assumption | (simp only [List.length_set]; omega) | (simp [*] <;> fail) | assumption) [-Bool.decide_and, -Bool.decide_or, -Bool.not_and, -Bool.not_or, toNat_pred, toNat_succ, wrap64, wr_new, wr_new0, ok_if, ok_ifn, iadV_sl, makeV_int, decT, decF, over_at, *, c_l01Few hA]) | (with_reducible refine Gd_split (fun hc => ?_) (fun hc => ?_) <;> (have hc2 := hc; try simp at hc2)) | (with_reducible refine Br_split (fun hc => ?_) (fun hc => ?_) <;> (have hc2 := hc; try simp at hc2)) | (with_reducible refine GdT_split (fun hc => ?_) (fun hc => ?_) <;> (have hc2 := hc; try simp at hc2)) | (with_reducible refine WT_alt ?_ ?_) | omega)
theorem c_implCodesWith {b : Int} (hA : Arr h l 1 (xs.map fl)) (hB : Arr h l2 1 (ns.map il)) (hl : lim ≤ h.length) (hT : okCw b xs.length ns → ∀ o g, New h g o 2 1 ((tabTo (cowN b xs ns) xs.length).map il) → K (.tup [.lf o, .lf (.bool true)]) g) (hF : ¬ okCw b xs.length ns → K (.tup [.lf .nils, .lf (.bool false)]) h) :
    CallT S false 18 [.lf (.int .i64 b), .lf l, .lf l2] h lim K := by
  have hbA := hA.bound
  have hbB := hB.bound
  by_cases h1 : 2 ≤ b ∧ b ≤ 16
  · by_cases h2 : xs.length ≤ 256
    · by_cases h3 : ns.length = 2 * xs.length
      · have h3' : (ns.length : Int) = 2 * xs.length := by omega
        by_cases h4 : allIn 0 255 ns
        · have hT2 := hT ⟨h1, h2, h3, h4⟩
          have hin : Hid (withinUpto 0 255 ns ns.length) := h4
          clear hT hF
          refine CallT_of_body (F := L18) (HasCw.f18) rfl ?_; unfold L18; dsimp only []
          repeat' (first | (simp (disch := first | omega | assumption | (simp only [List.length_set]; omega) | (simp [*] <;> fail) | assumption) [-Bool.decide_and, -Bool.decide_or, -Bool.not_and, -Bool.not_or, toNat_pred, toNat_succ, wrap64, wr_new, wr_new0, ok_if, ok_ifn, iadV_sl, makeV_int, decT, decF, over_at, *, c_areSamples hA, hA.len, hB.len, c_allWithin hB]) | (with_reducible refine Gd_split (fun hc => ?_) (fun hc => ?_) <;> (have hc2 := hc; try simp at hc2)) | (with_reducible refine Br_split (fun hc => ?_) (fun hc => ?_) <;> (have hc2 := hc; try simp at hc2)) | (with_reducible refine GdT_split (fun hc => ?_) (fun hc => ?_) <;> (have hc2 := hc; try simp at hc2)) | (with_reducible refine WT_alt ?_ ?_) | omega)
          refine WL_forM 9223372019674908416 (by decide +kernel) (xs.length) (fun i b' g => i ≤ xs.length ∧ b' 34 = .lf (.int .i64 i) ∧ ∃ o, b' 8 = .lf o ∧ New h g o 2 1 ((tabTo (cowN b xs ns) i).map il)) (fun _ _ _ hi => hi.1) ⟨by simp, by simp, .nils, by simp, by simpa using New.nil (Kept.refl h)⟩ ?_
          rintro i b' g ⟨hi, e10, o, e9, hN⟩
          have hA1 := hA.kept hN.kept
          have hB1 := hB.kept hN.kept
          have hlo := tabTo_len (f := cowN b xs ns) (n := i)
          clear h4
          by_cases hlt : i < xs.length
          · have s1 := tabTo_il (f := cowN b xs ns) (n := i)
            have hlt2 : 2 * i < ns.length := by omega
            have hlt3 : 2 * i + 1 < ns.length := by omega
            have p1 := hB1.at_ (k := .i64) hlt2
            have p2 := hB1.at_ (k := .i64) hlt3
            have p3 := hB1.rd1 hlt2
            have p4 := hB1.rd1 hlt3
            simp only [Int.natCast_mul, Int.natCast_add, Int.natCast_one, Int.cast_ofNat_Int, Nat.mul_one] at p1 p2
            have w1 := hin (2 * i) hlt2 hlt2
            have w2 := hin (2 * i + 1) hlt3 hlt3
            have hcd : codeN (mst b) (fbin .add .f64 (fbin .mul .f64 (wid xs[i]) (fofint .f64 (mst b))) (fbin .quo .f64 (fofint .f64 (ns[2 * i] - ns[2 * i + 1])) 4643211215818981376)) = cowN b xs ns i := by simp [cowN, hlt, hlt2, hlt3]
            have cc := fun h K => c_codeOf (S := S) (lim := lim) (h := h) (K := K) (v := fbin .add .f64 (fbin .mul .f64 (wid xs[i]) (fofint .f64 (mst b))) (fbin .quo .f64 (fofint .f64 (ns[2 * i] - ns[2 * i + 1])) 4643211215818981376)) h1.1 h1.2 CD_bin
            rw [hcd] at cc
            generalize cowN b xs ns i = y at *
            clear hT2 hcd
            repeat' (first | (simp (disch := first | omega | assumption | (simp only [List.length_set]; omega) | (simp [*] <;> fail) | assumption) [-Bool.decide_and, -Bool.decide_or, -Bool.not_and, -Bool.not_or, toNat_pred, toNat_succ, wrap64, wr_new, wr_new0, ok_if, ok_ifn, iadV_sl, makeV_int, decT, decF, over_at, *, hA1.len, hA1.at_, hA1.at_', hA1.rd, hA1.rdIn, hA1.rdIn0, hA1.rdA, hA1.rdInA, hA1.rdIn0A, hA1.rd1, fl, il, c_raised h1.1 h1.2, leavesAll, fillL]) | (with_reducible refine Gd_split (fun hc => ?_) (fun hc => ?_) <;> (have hc2 := hc; try simp at hc2)) | (with_reducible refine Br_split (fun hc => ?_) (fun hc => ?_) <;> (have hc2 := hc; try simp at hc2)) | (with_reducible refine GdT_split (fun hc => ?_) (fun hc => ?_) <;> (have hc2 := hc; try simp at hc2)) | (with_reducible refine WT_alt ?_ ?_) | omega)
            refine oc_push hN hl (by simp; omega) fun p g1 hP hC => ?_
            rw [← s1] at hP
            clear s1
            repeat' (first | (simp (disch := first | omega | assumption | (simp only [List.length_set]; omega) | (simp [*] <;> fail) | assumption) [-Bool.decide_and, -Bool.decide_or, -Bool.not_and, -Bool.not_or, toNat_pred, toNat_succ, wrap64, wr_new, wr_new0, ok_if, ok_ifn, iadV_sl, makeV_int, decT, decF, over_at, *]) | (with_reducible refine Gd_split (fun hc => ?_) (fun hc => ?_) <;> (have hc2 := hc; try simp at hc2)) | (with_reducible refine Br_split (fun hc => ?_) (fun hc => ?_) <;> (have hc2 := hc; try simp at hc2)) | (with_reducible refine GdT_split (fun hc => ?_) (fun hc => ?_) <;> (have hc2 := hc; try simp at hc2)) | (with_reducible refine WT_alt ?_ ?_) | omega)
            all_goals ((repeat' apply And.intro) <;> first | omega | assumption)
          · have : i = xs.length := by omega
            subst this
            repeat' (first | (simp (disch := first | omega | assumption | (simp only [List.length_set]; omega) | (simp [*] <;> fail) | assumption) [-Bool.decide_and, -Bool.decide_or, -Bool.not_and, -Bool.not_or, toNat_pred, toNat_succ, wrap64, wr_new, wr_new0, ok_if, ok_ifn, iadV_sl, makeV_int, decT, decF, over_at, *, hA1.len]) | (with_reducible refine Gd_split (fun hc => ?_) (fun hc => ?_) <;> (have hc2 := hc; try simp at hc2)) | (with_reducible refine Br_split (fun hc => ?_) (fun hc => ?_) <;> (have hc2 := hc; try simp at hc2)) | (with_reducible refine GdT_split (fun hc => ?_) (fun hc => ?_) <;> (have hc2 := hc; try simp at hc2)) | (with_reducible refine WT_alt ?_ ?_) | omega)
            all_goals ((repeat' apply And.intro) <;> first | omega | assumption | exact hT2 _ _ hN)
        · have hF2 := hF fun q => h4 q.2.2.2
          clear hF hT
          refine CallT_of_body (F := L18) (HasCw.f18) rfl ?_; unfold L18; dsimp only []
          repeat' (first | (simp (disch := first | omega | assumption | (simp only [List.length_set]; omega) | (simp [*] <;> fail) | assumption) [-Bool.decide_and, -Bool.decide_or, -Bool.not_and, -Bool.not_or, toNat_pred, toNat_succ, wrap64, wr_new, wr_new0, ok_if, ok_ifn, iadV_sl, makeV_int, decT, decF, over_at, *, c_areSamples hA, hA.len, hB.len, c_allWithin hB]) | (with_reducible refine Gd_split (fun hc => ?_) (fun hc => ?_) <;> (have hc2 := hc; try simp at hc2)) | (with_reducible refine Br_split (fun hc => ?_) (fun hc => ?_) <;> (have hc2 := hc; try simp at hc2)) | (with_reducible refine GdT_split (fun hc => ?_) (fun hc => ?_) <;> (have hc2 := hc; try simp at hc2)) | (with_reducible refine WT_alt ?_ ?_) | omega)
      · have h3' : ¬ (ns.length : Int) = 2 * xs.length := by omega
        have hF2 := hF fun q => h3 q.2.2.1
        clear hF hT
        refine CallT_of_body (F := L18) (HasCw.f18) rfl ?_; unfold L18; dsimp only []
        repeat' (first | (simp (disch := first | omega | assumption | (simp only [List.length_set]; omega) | (simp [*] <;> fail) | assumption) [-Bool.decide_and, -Bool.decide_or, -Bool.not_and, -Bool.not_or, toNat_pred, toNat_succ, wrap64, wr_new, wr_new0, ok_if, ok_ifn, iadV_sl, makeV_int, decT, decF, over_at, *, c_areSamples hA, hA.len, hB.len]) | (with_reducible refine Gd_split (fun hc => ?_) (fun hc => ?_) <;> (have hc2 := hc; try simp at hc2)) | (with_reducible refine Br_split (fun hc => ?_) (fun hc => ?_) <;> (have hc2 := hc; try simp at hc2)) | (with_reducible refine GdT_split (fun hc => ?_) (fun hc => ?_) <;> (have hc2 := hc; try simp at hc2)) | (with_reducible refine WT_alt ?_ ?_) | omega)
    · have hF2 := hF fun q => h2 q.2.1
      clear hF hT
      refine CallT_of_body (F := L18) (HasCw.f18) rfl ?_; unfold L18; dsimp only []
      repeat' (first | (simp (disch := first | omega | assumption | (simp only [List.length_set]; omega) | (simp [*] <;> fail) | assumption) [-Bool.decide_and, -Bool.decide_or, -Bool.not_and, -Bool.not_or, toNat_pred, toNat_succ, wrap64, wr_new, wr_new0, ok_if, ok_ifn, iadV_sl, makeV_int, decT, decF, over_at, *, c_areSamples hA]) | (with_reducible refine Gd_split (fun hc => ?_) (fun hc => ?_) <;> (have hc2 := hc; try simp at hc2)) | (with_reducible refine Br_split (fun hc => ?_) (fun hc => ?_) <;> (have hc2 := hc; try simp at hc2)) | (with_reducible refine GdT_split (fun hc => ?_) (fun hc => ?_) <;> (have hc2 := hc; try simp at hc2)) | (with_reducible refine WT_alt ?_ ?_) | omega)
  · have hF2 := hF fun q => h1 q.1
    clear hF hT
    refine CallT_of_body (F := L18) (HasCw.f18) rfl ?_; unfold L18; dsimp only []
    repeat' (first | (simp (disch := first | omega | assumption | (simp only [List.length_set]; omega) | (simp [*] <;> fail) | assumption) [-Bool.decide_and, -Bool.decide_or, -Bool.not_and, -Bool.not_or, toNat_pred, toNat_succ, wrap64, wr_new, wr_new0, ok_if, ok_ifn, iadV_sl, makeV_int, decT, decF, over_at, *, c_areSamples hA]) | (with_reducible refine Gd_split (fun hc => ?_) (fun hc => ?_) <;> (have hc2 := hc; try simp at hc2)) | (with_reducible refine Br_split (fun hc => ?_) (fun hc => ?_) <;> (have hc2 := hc; try simp at hc2)) | (with_reducible refine GdT_split (fun hc => ?_) (fun hc => ?_) <;> (have hc2 := hc; try simp at hc2)) | (with_reducible refine WT_alt ?_ ?_) | omega)
theorem d_specCodesWith {b : Int} (hA : Arr h l 1 (xs.map fl)) (hB : Arr h l2 1 (ns.map il)) (hl : lim ≤ h.length) (hK : ∀ o g, New h g o 2 1 ((codesW b xs ns).map il) → K (.tup [.lf o, .lf (.bool (decide (okCw b xs.length ns)))]) g) :
    CallT S false 15 [.lf (.int .i64 b), .lf l, .lf l2] h lim K :=
  c_specCodesWith hA hB hl (fun hk o g hN => by simpa [hk] using hK o g (by rw [codesW, if_pos hk]; exact hN)) (fun hk => by simpa [hk] using hK .nils h (by rw [codesW, if_neg hk]; exact New.nil (Kept.refl h)))
theorem d_implCodesWith {b : Int} (hA : Arr h l 1 (xs.map fl)) (hB : Arr h l2 1 (ns.map il)) (hl : lim ≤ h.length) (hK : ∀ o g, New h g o 2 1 ((codesW b xs ns).map il) → K (.tup [.lf o, .lf (.bool (decide (okCw b xs.length ns)))]) g) :
    CallT S false 18 [.lf (.int .i64 b), .lf l, .lf l2] h lim K :=
  c_implCodesWith hA hB hl (fun hk o g hN => by simpa [hk] using hK o g (by rw [codesW, if_pos hk]; exact hN)) (fun hk => by simpa [hk] using hK .nils h (by rw [codesW, if_neg hk]; exact New.nil (Kept.refl h)))
end
end Go.E
