/- RunFilters, both sides. -/
import Derived.Test.YtpakemggfjmfcaaMRf
import Derived.Test.YtpakemggfjmfcaaMSm
set_option linter.unusedVariables false
set_option linter.unusedSimpArgs false
namespace Go.E
open Go
def L74 : LFn := ⟨5, (.seq (.reg [⟨(.some 10), (.mv (.c (.lf .nils))), none⟩, ⟨(.some 11), (.mv (.c (.lf .nils))), none⟩, ⟨(.some 12), (.mv (.c (.lf (.bool false)))), none⟩])
 (.seq (.seq (.reg [⟨(.some 18), (.mv (.t 1)), none⟩, ⟨(.some 19), (.call true 85 [(.t 18)]), none⟩, ⟨(.some 20), (.una .not (.t 19)), none⟩, ⟨(.some 21), (.mv (.t 20)), none⟩, ⟨(.some 22), (.mv (.t 4)), (.some (21, false))⟩, ⟨(.some 23), (.call true 86 [(.t 22)]), (.some (21, false))⟩, ⟨(.some 24), (.una .not (.t 23)), (.some (21, false))⟩, ⟨(.some 25), (.pick (.t 21) (.c (.lf (.bool true))) (.t 24)), none⟩, ⟨(.some 26), (.mv (.t 25)), none⟩, ⟨(.some 27), (.mv (.t 0)), (.some (26, false))⟩, ⟨(.some 28), (.len (.t 27)), (.some (26, false))⟩, ⟨(.some 29), (.bin .gtr (.t 28) (.c (.lf (.int .i64 6)))), (.some (26, false))⟩, ⟨(.some 30), (.pick (.t 26) (.c (.lf (.bool true))) (.t 29)), none⟩, ⟨(.some 31), (.mv (.t 30)), none⟩, ⟨(.some 32), (.mv (.t 3)), (.some (31, false))⟩, ⟨(.some 33), (.len (.t 32)), (.some (31, false))⟩, ⟨(.some 34), (.mv (.t 0)), (.some (31, false))⟩, ⟨(.some 35), (.len (.t 34)), (.some (31, false))⟩, ⟨(.some 36), (.bin .neq (.t 33) (.t 35)), (.some (31, false))⟩, ⟨(.some 37), (.pick (.t 31) (.c (.lf (.bool true))) (.t 36)), none⟩])
 (.cond (.t 37) (.seq (.reg [⟨(.some 10), (.mv (.c (.lf .nils))), none⟩, ⟨(.some 11), (.mv (.c (.lf .nils))), none⟩, ⟨(.some 12), (.mv (.c (.lf (.bool false)))), none⟩])
 .ret) .skip))
 (.seq (.reg [⟨(.some 38), (.lit 22 1 0 [] []), none⟩, ⟨(.some 39), (.mv (.t 4)), none⟩, ⟨(.some 40), (.app 22 1 4 (.t 38) (.t 39)), none⟩, ⟨(.some 13), (.mv (.t 40)), none⟩])
 (.seq (.reg [⟨(.some 41), (.lit 28 4 0 [] []), none⟩, ⟨(.some 14), (.mv (.t 41)), none⟩])
 (.seq (.seq (.reg [⟨(.some 15), (.mv (.c (.lf (.int .i64 0)))), none⟩])
 (.block 0 (.loop (.seq (.seq (.reg [⟨(.some 42), (.mv (.t 15)), none⟩, ⟨(.some 43), (.mv (.t 0)), none⟩, ⟨(.some 44), (.len (.t 43)), none⟩, ⟨(.some 45), (.bin .lss (.t 42) (.t 44)), none⟩])
 (.cond (.t 45) .skip (.exit 0)))
 (.seq (.block 1 (.seq (.any (.op ⟨(.some 49), (.mv (.t 0)), none⟩ (.op ⟨(.some 50), (.mv (.t 15)), none⟩ (.op ⟨(.some 51), (.iaddr 5 (.t 49) (.t 50)), none⟩ (.op ⟨(.some 52), (.mv (.t 1)), none⟩ (.op ⟨(.some 53), (.mv (.t 2)), none⟩ (.op ⟨(.some 54), (.mv (.t 3)), none⟩ (.op ⟨(.some 55), (.mv (.t 15)), none⟩ (.op ⟨(.some 56), (.iaddr 4 (.t 54) (.t 55)), none⟩ (.op ⟨(.some 57), (.load true 4 (.t 56)), none⟩ (.op ⟨(.some 58), (.mv (.t 13)), none⟩ (.alt (.op ⟨(.some 59), (.call false 87 [(.t 51), (.t 52), (.t 53), (.t 57), (.t 58)]), none⟩ (.op ⟨(.some 48), (.mv (.t 59)), none⟩ (.op ⟨(.some 60), (.ext (.t 48) 0), none⟩ (.op ⟨(.some 61), (.ext (.t 48) 1), none⟩ (.op ⟨(.some 17), (.alloc 28 [(.flt .f32 0), (.flt .f32 0), (.flt .f32 0), (.flt .f32 0)]), none⟩ (.op ⟨(.some 16), (.mv (.t 60)), none⟩ (.op ⟨none, (.store 4 (.t 17) (.t 61)), none⟩ .nil))))))) (.op ⟨(.some 17), (.alloc 28 [(.flt .f32 0), (.flt .f32 0), (.flt .f32 0), (.flt .f32 0)]), none⟩ (.op ⟨(.some 59), (.call false 87 [(.t 51), (.t 52), (.t 53), (.t 57), (.t 58)]), none⟩ (.op ⟨(.some 48), (.mv (.t 59)), none⟩ (.op ⟨(.some 60), (.ext (.t 48) 0), none⟩ (.op ⟨(.some 61), (.ext (.t 48) 1), none⟩ (.op ⟨(.some 16), (.mv (.t 60)), none⟩ (.op ⟨none, (.store 4 (.t 17) (.t 61)), none⟩ .nil)))))))))))))))))))
 (.seq (.reg [⟨(.some 62), (.mv (.t 16)), none⟩, ⟨(.some 13), (.mv (.t 62)), none⟩])
 (.reg [⟨(.some 63), (.mv (.t 14)), none⟩, ⟨(.some 64), (.load true 4 (.t 17)), none⟩, ⟨(.some 65), (.lit 28 4 1 [(.flt .f32 0), (.flt .f32 0), (.flt .f32 0), (.flt .f32 0)] [(0, (4, (.t 64)))]), none⟩, ⟨(.some 66), (.app 28 4 16 (.t 63) (.t 65)), none⟩, ⟨(.some 14), (.mv (.t 66)), none⟩]))))
 (.reg [⟨(.some 46), (.mv (.t 15)), none⟩, ⟨(.some 47), (.bin .add (.t 46) (.c (.lf (.int .i64 1)))), none⟩, ⟨(.some 15), (.mv (.t 47)), none⟩]))))))
 (.seq (.reg [⟨(.some 67), (.mv (.t 13)), none⟩, ⟨(.some 68), (.mv (.t 14)), none⟩, ⟨(.some 10), (.mv (.t 67)), none⟩, ⟨(.some 11), (.mv (.t 68)), none⟩, ⟨(.some 12), (.mv (.c (.lf (.bool true)))), none⟩])
 .ret)))))), [(.tmp 10), (.tmp 11), (.tmp 12)]⟩
def L77 : LFn := ⟨5, (.seq (.reg [⟨(.some 10), (.mv (.c (.lf .nils))), none⟩, ⟨(.some 11), (.mv (.c (.lf .nils))), none⟩, ⟨(.some 12), (.mv (.c (.lf (.bool false)))), none⟩])
 (.seq (.seq (.reg [⟨(.some 19), (.mv (.t 1)), none⟩, ⟨(.some 20), (.call true 88 [(.t 19)]), none⟩, ⟨(.some 21), (.una .not (.t 20)), none⟩, ⟨(.some 22), (.mv (.t 21)), none⟩, ⟨(.some 23), (.mv (.t 4)), (.some (22, false))⟩, ⟨(.some 24), (.call true 89 [(.t 23)]), (.some (22, false))⟩, ⟨(.some 25), (.una .not (.t 24)), (.some (22, false))⟩, ⟨(.some 26), (.pick (.t 22) (.c (.lf (.bool true))) (.t 25)), none⟩, ⟨(.some 27), (.mv (.t 26)), none⟩, ⟨(.some 28), (.mv (.t 0)), (.some (27, false))⟩, ⟨(.some 29), (.len (.t 28)), (.some (27, false))⟩, ⟨(.some 30), (.bin .gtr (.t 29) (.c (.lf (.int .i64 6)))), (.some (27, false))⟩, ⟨(.some 31), (.pick (.t 27) (.c (.lf (.bool true))) (.t 30)), none⟩, ⟨(.some 32), (.mv (.t 31)), none⟩, ⟨(.some 33), (.mv (.t 3)), (.some (32, false))⟩, ⟨(.some 34), (.len (.t 33)), (.some (32, false))⟩, ⟨(.some 35), (.mv (.t 0)), (.some (32, false))⟩, ⟨(.some 36), (.len (.t 35)), (.some (32, false))⟩, ⟨(.some 37), (.bin .neq (.t 34) (.t 36)), (.some (32, false))⟩, ⟨(.some 38), (.pick (.t 32) (.c (.lf (.bool true))) (.t 37)), none⟩])
 (.cond (.t 38) (.seq (.reg [⟨(.some 10), (.mv (.c (.lf .nils))), none⟩, ⟨(.some 11), (.mv (.c (.lf .nils))), none⟩, ⟨(.some 12), (.mv (.c (.lf (.bool false)))), none⟩])
 .ret) .skip))
 (.seq (.reg [⟨(.some 39), (.mv (.t 4)), none⟩, ⟨(.some 40), (.call false 145 [(.t 39)]), none⟩, ⟨(.some 13), (.mv (.t 40)), none⟩])
 (.seq (.reg [⟨(.some 14), (.mv (.c (.lf .nils))), none⟩])
 (.seq (.seq (.reg [⟨(.some 41), (.mv (.t 0)), none⟩, ⟨(.some 42), (.len (.t 41)), none⟩, ⟨(.some 43), (.mv (.c (.lf (.int .i64 0)))), none⟩])
 (.block 0 (.loop (.seq (.reg [⟨(.some 44), (.bin .lss (.t 43) (.t 42)), none⟩])
 (.seq (.cond (.t 44) .skip (.exit 0))
 (.seq (.block 1 (.seq (.reg [⟨(.some 45), (.mv (.t 43)), none⟩, ⟨(.some 46), (.iaddr 5 (.t 41) (.t 43)), none⟩, ⟨(.some 47), (.load true 5 (.t 46)), none⟩, ⟨(.some 16), (.alloc 31 [(.flt .f32 0), (.flt .f32 0), (.flt .f32 0), (.flt .f32 0), (.flt .f32 0)]), none⟩, ⟨(.some 15), (.mv (.t 45)), none⟩, ⟨none, (.store 5 (.t 16) (.t 47)), none⟩])
 (.seq (.any (.op ⟨(.some 49), (.load true 5 (.t 16)), none⟩ (.op ⟨(.some 50), (.mv (.t 1)), none⟩ (.op ⟨(.some 51), (.mv (.t 2)), none⟩ (.op ⟨(.some 52), (.mv (.t 3)), none⟩ (.op ⟨(.some 53), (.mv (.t 15)), none⟩ (.op ⟨(.some 54), (.iaddr 4 (.t 52) (.t 53)), none⟩ (.op ⟨(.some 55), (.load true 4 (.t 54)), none⟩ (.op ⟨(.some 56), (.mv (.t 13)), none⟩ (.alt (.op ⟨(.some 57), (.call false 90 [(.t 49), (.t 50), (.t 51), (.t 55), (.t 56)]), none⟩ (.op ⟨(.some 48), (.mv (.t 57)), none⟩ (.op ⟨(.some 58), (.ext (.t 48) 0), none⟩ (.op ⟨(.some 59), (.ext (.t 48) 1), none⟩ (.op ⟨(.some 18), (.alloc 28 [(.flt .f32 0), (.flt .f32 0), (.flt .f32 0), (.flt .f32 0)]), none⟩ (.op ⟨(.some 17), (.mv (.t 58)), none⟩ (.op ⟨none, (.store 4 (.t 18) (.t 59)), none⟩ .nil))))))) (.op ⟨(.some 18), (.alloc 28 [(.flt .f32 0), (.flt .f32 0), (.flt .f32 0), (.flt .f32 0)]), none⟩ (.op ⟨(.some 57), (.call false 90 [(.t 49), (.t 50), (.t 51), (.t 55), (.t 56)]), none⟩ (.op ⟨(.some 48), (.mv (.t 57)), none⟩ (.op ⟨(.some 58), (.ext (.t 48) 0), none⟩ (.op ⟨(.some 59), (.ext (.t 48) 1), none⟩ (.op ⟨(.some 17), (.mv (.t 58)), none⟩ (.op ⟨none, (.store 4 (.t 18) (.t 59)), none⟩ .nil)))))))))))))))))
 (.seq (.reg [⟨(.some 60), (.mv (.t 17)), none⟩, ⟨(.some 13), (.mv (.t 60)), none⟩])
 (.reg [⟨(.some 61), (.mv (.t 14)), none⟩, ⟨(.some 62), (.load true 4 (.t 18)), none⟩, ⟨(.some 63), (.lit 28 4 1 [(.flt .f32 0), (.flt .f32 0), (.flt .f32 0), (.flt .f32 0)] [(0, (4, (.t 62)))]), none⟩, ⟨(.some 64), (.app 28 4 16 (.t 61) (.t 63)), none⟩, ⟨(.some 14), (.mv (.t 64)), none⟩])))))
 (.reg [⟨(.some 65), (.bin .add (.t 43) (.c (.lf (.int .i64 1)))), none⟩, ⟨(.some 43), (.mv (.t 65)), none⟩])))))))
 (.seq (.reg [⟨(.some 66), (.mv (.t 13)), none⟩, ⟨(.some 67), (.mv (.t 14)), none⟩, ⟨(.some 10), (.mv (.t 66)), none⟩, ⟨(.some 11), (.mv (.t 67)), none⟩, ⟨(.some 12), (.mv (.c (.lf (.bool true)))), none⟩])
 .ret)))))), [(.tmp 10), (.tmp 11), (.tmp 12)]⟩
class HasRs (S : Sys) : Prop extends HasFr S, HasP S, HasCn S, HasFo S where
  f74 : S.fs 74 = some L74
  f77 : S.fs 77 = some L77
def Fil.zero : Fil := ⟨0, 0, 0, 0, 0⟩
noncomputable def rfs (form : Int) (fb : Bool) (fs : List Fil) (ms : List Mem) (xs : List Nat) : Nat → List Nat × List Mem
  | 0 => (xs, [])
  | i + 1 => ((scan (stepF (fs.getD i Fil.zero) form fb) (ms.getD i Mem.zero) (rfs form fb fs ms xs i).1).1, (rfs form fb fs ms xs i).2 ++ [(scan (stepF (fs.getD i Fil.zero) form fb) (ms.getD i Mem.zero) (rfs form fb fs ms xs i).1).2])
section
variable {form : Int} {fb : Bool} {fs : List Fil} {ms : List Mem} {xs : List Nat}
theorem getD_CF (hm : ∀ m ∈ ms, m.CF) {i : Nat} : (ms.getD i Mem.zero).CF := by
  by_cases h : i < ms.length
  · have e : ms.getD i Mem.zero = ms[i] := by simp [h]
    rw [e]; exact hm _ (List.getElem_mem h)
  · have e : ms.getD i Mem.zero = Mem.zero := by simp [h]
    rw [e]; exact CF_memz
theorem rfs_len : ∀ {i : Nat}, (rfs form fb fs ms xs i).1.length = xs.length ∧ (rfs form fb fs ms xs i).2.length = i
  | 0 => ⟨rfl, rfl⟩
  | i + 1 => by
    obtain ⟨h1, h2⟩ := rfs_len (i := i)
    simp only [rfs, scan_len, h1, List.length_append, h2, List.length_singleton, and_self]
theorem rfs_CF (hm : ∀ m ∈ ms, m.CF) (hx : ∀ x ∈ xs, CF x) : ∀ {i : Nat}, ∀ x ∈ (rfs form fb fs ms xs i).1, CF x
  | 0 => hx
  | i + 1 => CF_scan (getD_CF hm) (rfs_CF hm hx)
theorem rfs_succ {i : Nat} (h1 : i < fs.length) (h2 : i < ms.length) : rfs form fb fs ms xs (i + 1) = ((scan (stepF fs[i] form fb) ms[i] (rfs form fb fs ms xs i).1).1, (rfs form fb fs ms xs i).2 ++ [(scan (stepF fs[i] form fb) ms[i] (rfs form fb fs ms xs i).1).2]) := by
  simp [rfs, h1, h2]
end
def okRs (form : Int) (n nf nm : Nat) : Prop := (0 ≤ form ∧ form ≤ 2) ∧ n ≤ 256 ∧ nf ≤ 6 ∧ nm = nf
instance {form : Int} {n nf nm : Nat} : Decidable (okRs form n nf nm) := by unfold okRs; infer_instance
noncomputable def runFs (form : Int) (fb : Bool) (fs : List Fil) (ms : List Mem) (xs : List Nat) : List Nat × List Mem := if okRs form xs.length fs.length ms.length then rfs form fb fs ms xs fs.length else ([], [])
theorem runFs_len {form : Int} {fb : Bool} {fs : List Fil} {ms : List Mem} {xs : List Nat} : (runFs form fb fs ms xs).1.length ≤ 256 ∧ (runFs form fb fs ms xs).2.length ≤ 6 := by
  unfold runFs
  split
  · rename_i hk
    have := rfs_len (form := form) (fb := fb) (fs := fs) (ms := ms) (xs := xs) (i := fs.length)
    have := hk.2
    omega
  · simp
section
variable {S : Sys} {lim : Nat} {h : Hp} {K : CV → Hp → Prop} [HasRs S] {l lf lm : Lf} {xs : List Nat} {fs : List Fil} {ms : List Mem}
theorem c_specRunFilters {form : Int} {fb : Bool} (hS : Sm h l xs) (hF : Arr h lf 5 (fs.map Fil.cells)) (hM : Arr h lm 4 (ms.map Mem.cells)) (hm : ∀ m ∈ ms, m.CF) (hx : ∀ x ∈ xs, CF x) (hl : lim ≤ h.length)
    (hT : okRs form xs.length fs.length ms.length → ∀ o q g, New h g o 22 1 ((rfs form fb fs ms xs fs.length).1.map fl) → New h g q 28 4 ((rfs form fb fs ms xs fs.length).2.map Mem.cells) → Far o q → K (.tup [.lf o, .lf q, .lf (.bool true)]) g)
    (hN : ¬ okRs form xs.length fs.length ms.length → K (.tup [.lf .nils, .lf .nils, .lf (.bool false)]) h) :
    CallT S false 74 [.lf lf, .lf (.int .i64 form), .lf (.bool fb), .lf lm, .lf l] h lim K := by
  have few := fun K => c_l01Few (S := S) (K := K) (lim := lim) hS.arr
  by_cases hk : okRs form xs.length fs.length ms.length
  · have hT2 := hT hk
    clear hT hN
    obtain ⟨hk1, hk2, hk3, hk4⟩ := hk
    obtain ⟨l', g', e1, hO, hBo⟩ := (New.lit0 (h := h) (ty := 22) (sz := 1)).joined (ys := []) (lim := lim) (hS.kept (Kept.app h _)) hl (by simp; omega)
    rw [List.nil_append] at hO
    refine CallT_of_body (F := L74) (HasRs.f74) rfl ?_; unfold L74; dsimp only []
    repeat' (first | (simp (disch := first | omega | assumption | (simp only [List.length_set]; omega) | (simp [*] <;> fail) | assumption) [-Bool.decide_and, -Bool.decide_or, -Bool.not_and, -Bool.not_or, toNat_pred, toNat_succ, wrap64, wr_new, wr_new0, ok_if, ok_ifn, iadV_sl, makeV_int, decT, decF, over_at, *, few, hF.len, hM.len, leavesAll, fillL]) | (with_reducible refine Gd_split (fun hc => ?_) (fun hc => ?_) <;> (have hc2 := hc; try simp at hc2)) | (with_reducible refine Br_split (fun hc => ?_) (fun hc => ?_) <;> (have hc2 := hc; try simp at hc2)) | (with_reducible refine GdT_split (fun hc => ?_) (fun hc => ?_) <;> (have hc2 := hc; try simp at hc2)) | (with_reducible refine WT_alt ?_ ?_) | omega)
    have hQ0 : New h (g' ++ [⟨[], .own 28 4⟩]) (.sl g'.length 0 0 4) 28 4 ([].map Mem.cells) := New.litN hO.kept
    refine WL_forM 147573948191630155776 (by decide +kernel) (fs.length) (fun i b g => i ≤ fs.length ∧ b 15 = .lf (.int .i64 i) ∧ ∃ o q, b 13 = .lf o ∧ b 14 = .lf q ∧ New h g o 22 1 ((rfs form fb fs ms xs i).1.map fl) ∧ New h g q 28 4 ((rfs form fb fs ms xs i).2.map Mem.cells) ∧ Far o q) (fun _ _ _ hi => hi.1) ⟨by simp, by simp, l', .sl g'.length 0 0 4, by simp, by simp, hO.app, hQ0, fun q1 q2 => by have := (hO.lt q1).2; simp; omega⟩ ?_
    rintro i b g ⟨hi, e15, o, q, e13, e14, hO1, hQ1, hOQ⟩
    have hF1 := hF.kept hO1.kept
    have hM1 := hM.kept hO1.kept
    by_cases hlt : i < fs.length
    · have hlt2 : i < ms.length := by omega
      have s1 := rfs_succ (form := form) (fb := fb) (xs := xs) hlt hlt2
      have hcf := rfs_CF (form := form) (fb := fb) (fs := fs) (i := i) hm hx
      have hmi := hm _ (List.getElem_mem hlt2)
      have hlen := rfs_len (form := form) (fb := fb) (fs := fs) (ms := ms) (xs := xs) (i := i)
      generalize rfs form fb fs ms xs i = st at *
      have hq := hO1.kept.1
      clear hT2
      repeat' (first | (simp (disch := first | omega | assumption | (simp only [List.length_set]; omega) | (simp [*] <;> fail) | assumption) [-Bool.decide_and, -Bool.decide_or, -Bool.not_and, -Bool.not_or, toNat_pred, toNat_succ, wrap64, wr_new, wr_new0, ok_if, ok_ifn, iadV_sl, makeV_int, decT, decF, over_at, *, hF1.len, hF1.at_, hF1.at_', hF1.rd, hF1.rdIn, hF1.rdIn0, hF1.rdA, hF1.rdInA, hF1.rdIn0A, hM1.len, hM1.at_, hM1.at_', hM1.rd, hM1.rdIn, hM1.rdIn0, hM1.rdA, hM1.rdInA, hM1.rdIn0A, -W_any]) | (with_reducible refine Gd_split (fun hc => ?_) (fun hc => ?_) <;> (have hc2 := hc; try simp at hc2)) | (with_reducible refine Br_split (fun hc => ?_) (fun hc => ?_) <;> (have hc2 := hc; try simp at hc2)) | (with_reducible refine GdT_split (fun hc => ?_) (fun hc => ?_) <;> (have hc2 := hc; try simp at hc2)) | (with_reducible refine WT_alt ?_ ?_) | omega)
      rw [W_any]
      refine WT_cutM 4611404543450873856 (by decide +kernel) (fun b g' => ∃ o2 id, b 16 = .lf o2 ∧ b 17 = .lf (.ptr id 0) ∧ New g g' o2 22 1 ((scan (stepF fs[i] form fb) ms[i] st.1).1.map fl) ∧ Cel g' id 28 (scan (stepF fs[i] form fb) ms[i] st.1).2.cells ∧ g.length ≤ id ∧ Not o2 id) ?_ ?_
      · have hr1 := hF1.rd hlt
        have hy4 : ∀ q : Mem, q.cells.length = 4 := fun _ => rfl
        have ht4 : ∀ q : Mem, List.take 4 q.cells = q.cells := fun _ => rfl
        have c1 : ∀ (t : Hp) (K : CV → Hp → Prop), (∀ o g', New (g ++ t) g' o 22 1 ((scan (stepF fs[i] form fb) ms[i] st.1).1.map fl) → K (.tup [.lf o, .agg (scan (stepF fs[i] form fb) ms[i] st.1).2.cells]) g') → CallT S false 87 [.lf (.ptr lf.id (lf.off + i * 5)), .lf (.int .i64 form), .lf (.bool fb), .agg ms[i].cells, .lf o] (g ++ t) lim K := fun t K hk => c_l02Run (f := fs[i]) (rd_app' hr1) hmi hO1.arr.app hcf (by omega) (by simp; omega) hk
        have c0 := fun K => c1 [] K
        simp only [List.append_nil] at c0
        clear hr1
        generalize scan (stepF fs[i] form fb) ms[i] st.1 = r at *
        repeat' (first | (simp (disch := first | omega | assumption | (simp only [List.length_set]; omega) | (simp [*] <;> fail) | assumption) [-Bool.decide_and, -Bool.decide_or, -Bool.not_and, -Bool.not_or, toNat_pred, toNat_succ, wrap64, wr_new, wr_new0, ok_if, ok_ifn, iadV_sl, makeV_int, decT, decF, over_at, *, hF1.len, hF1.at_, hF1.at_', hF1.rd, hF1.rdIn, hF1.rdIn0, hF1.rdA, hF1.rdInA, hF1.rdIn0A, hM1.len, hM1.at_, hM1.at_', hM1.rd, hM1.rdIn, hM1.rdIn0, hM1.rdA, hM1.rdInA, hM1.rdIn0A, leavesAll, fillL]) | (with_reducible refine Gd_split (fun hc => ?_) (fun hc => ?_) <;> (have hc2 := hc; try simp at hc2)) | (with_reducible refine Br_split (fun hc => ?_) (fun hc => ?_) <;> (have hc2 := hc; try simp at hc2)) | (with_reducible refine GdT_split (fun hc => ?_) (fun hc => ?_) <;> (have hc2 := hc; try simp at hc2)) | (with_reducible refine WT_alt ?_ ?_) | omega)
        · refine c0 _ fun o2 g2 hO2 => ?_
          have z2 := hO2.kept.1
          have w := wr_last (ty := 28) (cs := [.flt .f32 0, .flt .f32 0, .flt .f32 0, .flt .f32 0]) (new := r.2.cells) (show lim ≤ g2.length by omega) rfl
          have p1 : New g (g2 ++ [⟨r.2.cells, .own 28 1⟩]) o2 22 1 (r.1.map fl) := hO2.app
          have p2 : Cel (g2 ++ [⟨r.2.cells, .own 28 1⟩]) g2.length 28 r.2.cells := Cel.new
          have p3 : Not o2 g2.length := fun q1 => by have := (hO2.lt q1).2; omega
          clear c0 c1
          repeat' (first | (simp (disch := first | omega | assumption | (simp only [List.length_set]; omega) | (simp [*] <;> fail) | assumption) [-Bool.decide_and, -Bool.decide_or, -Bool.not_and, -Bool.not_or, toNat_pred, toNat_succ, wrap64, wr_new, wr_new0, ok_if, ok_ifn, iadV_sl, makeV_int, decT, decF, over_at, *, leavesAll, fillL]) | (with_reducible refine Gd_split (fun hc => ?_) (fun hc => ?_) <;> (have hc2 := hc; try simp at hc2)) | (with_reducible refine Br_split (fun hc => ?_) (fun hc => ?_) <;> (have hc2 := hc; try simp at hc2)) | (with_reducible refine GdT_split (fun hc => ?_) (fun hc => ?_) <;> (have hc2 := hc; try simp at hc2)) | (with_reducible refine WT_alt ?_ ?_) | omega)
          all_goals exact ⟨p1, p2, z2, p3⟩
        · refine c1 _ _ fun o2 g2 hO2 => ?_
          have z2 := hO2.kept.1
          simp only [List.length_append, List.length_singleton] at z2
          have nO := hO2.lt
          simp only [List.length_append, List.length_singleton] at nO
          have c9 := (Cel.new (g := g) (t := []) (ty := 28) (cs := [.flt .f32 0, .flt .f32 0, .flt .f32 0, .flt .f32 0])).kept hO2.kept
          have c9l := c9.lt
          have w := c9.wr (lim := lim) (new := r.2.cells) (by omega) rfl
          have p3 : Not o2 g.length := fun q1 => by have := (nO q1).1; omega
          have p1 : New g (g2.set g.length ⟨r.2.cells, .own 28 1⟩) o2 22 1 (r.1.map fl) := (hO2.base (Kept.app _ _)).set_other (Nat.le_refl _) p3
          have p2 : Cel (g2.set g.length ⟨r.2.cells, .own 28 1⟩) g.length 28 r.2.cells := Cel.put c9l
          clear c0 c1 nO
          repeat' (first | (simp (disch := first | omega | assumption | (simp only [List.length_set]; omega) | (simp [*] <;> fail) | assumption) [-Bool.decide_and, -Bool.decide_or, -Bool.not_and, -Bool.not_or, toNat_pred, toNat_succ, wrap64, wr_new, wr_new0, ok_if, ok_ifn, iadV_sl, makeV_int, decT, decF, over_at, *, leavesAll, fillL]) | (with_reducible refine Gd_split (fun hc => ?_) (fun hc => ?_) <;> (have hc2 := hc; try simp at hc2)) | (with_reducible refine Br_split (fun hc => ?_) (fun hc => ?_) <;> (have hc2 := hc; try simp at hc2)) | (with_reducible refine GdT_split (fun hc => ?_) (fun hc => ?_) <;> (have hc2 := hc; try simp at hc2)) | (with_reducible refine WT_alt ?_ ?_) | omega)
          all_goals exact ⟨p1, p2, p3⟩
      · rintro b2 g2 ⟨o2, id, f16, f17, hO2, hC, hid, hn⟩
        have hy4 := (scan (stepF fs[i] form fb) ms[i] st.1).2.len
        generalize scan (stepF fs[i] form fb) ms[i] st.1 = r at *
        have rC : rdCells g2 id 0 4 = some r.2.cells := hC.rd (by simp [Mem.len])
        have ht4 : List.take 4 r.2.cells = r.2.cells := rfl
        have hQ2 := hQ1.later hO2.kept
        have hO3 := hO2.base hO1.kept
        have hf : Far q o2 := fun q1 q2 => by have := (hQ1.lt q1).2; have := (hO2.lt q2).1; omega
        repeat' (first | (simp (disch := first | omega | assumption | (simp only [List.length_set]; omega) | (simp [*] <;> fail) | assumption) [-Bool.decide_and, -Bool.decide_or, -Bool.not_and, -Bool.not_or, toNat_pred, toNat_succ, wrap64, wr_new, wr_new0, ok_if, ok_ifn, iadV_sl, makeV_int, decT, decF, over_at, *, leavesAll, fillL]) | (with_reducible refine Gd_split (fun hc => ?_) (fun hc => ?_) <;> (have hc2 := hc; try simp at hc2)) | (with_reducible refine Br_split (fun hc => ?_) (fun hc => ?_) <;> (have hc2 := hc; try simp at hc2)) | (with_reducible refine GdT_split (fun hc => ?_) (fun hc => ?_) <;> (have hc2 := hc; try simp at hc2)) | (with_reducible refine WT_alt ?_ ?_) | omega)
        refine oc_push hQ2 hl (by simp; omega) fun q' g3 hQ3 hB => ?_
        obtain ⟨hO4, hf4⟩ := hB.other hQ2 hO3 hf
        have t1 : (rfs form fb fs ms xs (i + 1)).1 = r.1 := by rw [s1]
        have t2 : (rfs form fb fs ms xs (i + 1)).2.map Mem.cells = st.2.map Mem.cells ++ [r.2.cells] := by rw [s1]; simp
        rw [← t1] at hO4
        rw [← t2] at hQ3
        clear t1 t2 s1
        repeat' (first | (simp (disch := first | omega | assumption | (simp only [List.length_set]; omega) | (simp [*] <;> fail) | assumption) [-Bool.decide_and, -Bool.decide_or, -Bool.not_and, -Bool.not_or, toNat_pred, toNat_succ, wrap64, wr_new, wr_new0, ok_if, ok_ifn, iadV_sl, makeV_int, decT, decF, over_at, *]) | (with_reducible refine Gd_split (fun hc => ?_) (fun hc => ?_) <;> (have hc2 := hc; try simp at hc2)) | (with_reducible refine Br_split (fun hc => ?_) (fun hc => ?_) <;> (have hc2 := hc; try simp at hc2)) | (with_reducible refine GdT_split (fun hc => ?_) (fun hc => ?_) <;> (have hc2 := hc; try simp at hc2)) | (with_reducible refine WT_alt ?_ ?_) | omega)
        all_goals ((repeat' apply And.intro) <;> first | omega | assumption | exact hf4.symm)
    · have : i = fs.length := by omega
      subst this
      repeat' (first | (simp (disch := first | omega | assumption | (simp only [List.length_set]; omega) | (simp [*] <;> fail) | assumption) [-Bool.decide_and, -Bool.decide_or, -Bool.not_and, -Bool.not_or, toNat_pred, toNat_succ, wrap64, wr_new, wr_new0, ok_if, ok_ifn, iadV_sl, makeV_int, decT, decF, over_at, *, hF1.len]) | (with_reducible refine Gd_split (fun hc => ?_) (fun hc => ?_) <;> (have hc2 := hc; try simp at hc2)) | (with_reducible refine Br_split (fun hc => ?_) (fun hc => ?_) <;> (have hc2 := hc; try simp at hc2)) | (with_reducible refine GdT_split (fun hc => ?_) (fun hc => ?_) <;> (have hc2 := hc; try simp at hc2)) | (with_reducible refine WT_alt ?_ ?_) | omega)
      all_goals ((repeat' apply And.intro) <;> first | omega | assumption | exact hT2 _ _ _ hO1 hQ1 hOQ)
  · have hN2 := hN hk
    clear hN hT
    refine CallT_of_body (F := L74) (HasRs.f74) rfl ?_; unfold L74; dsimp only []
    by_cases h1 : 0 ≤ form ∧ form ≤ 2
    · by_cases h2 : xs.length ≤ 256
      · by_cases h3 : fs.length ≤ 6
        · have h4 : ¬ ms.length = fs.length := fun q => hk ⟨h1, h2, h3, q⟩
          repeat' (first | (simp (disch := first | omega | assumption | (simp only [List.length_set]; omega) | (simp [*] <;> fail) | assumption) [-Bool.decide_and, -Bool.decide_or, -Bool.not_and, -Bool.not_or, toNat_pred, toNat_succ, wrap64, wr_new, wr_new0, ok_if, ok_ifn, iadV_sl, makeV_int, decT, decF, over_at, *, few, hF.len, hM.len]) | (with_reducible refine Gd_split (fun hc => ?_) (fun hc => ?_) <;> (have hc2 := hc; try simp at hc2)) | (with_reducible refine Br_split (fun hc => ?_) (fun hc => ?_) <;> (have hc2 := hc; try simp at hc2)) | (with_reducible refine GdT_split (fun hc => ?_) (fun hc => ?_) <;> (have hc2 := hc; try simp at hc2)) | (with_reducible refine WT_alt ?_ ?_) | omega)
        · repeat' (first | (simp (disch := first | omega | assumption | (simp only [List.length_set]; omega) | (simp [*] <;> fail) | assumption) [-Bool.decide_and, -Bool.decide_or, -Bool.not_and, -Bool.not_or, toNat_pred, toNat_succ, wrap64, wr_new, wr_new0, ok_if, ok_ifn, iadV_sl, makeV_int, decT, decF, over_at, *, few, hF.len, hM.len]) | (with_reducible refine Gd_split (fun hc => ?_) (fun hc => ?_) <;> (have hc2 := hc; try simp at hc2)) | (with_reducible refine Br_split (fun hc => ?_) (fun hc => ?_) <;> (have hc2 := hc; try simp at hc2)) | (with_reducible refine GdT_split (fun hc => ?_) (fun hc => ?_) <;> (have hc2 := hc; try simp at hc2)) | (with_reducible refine WT_alt ?_ ?_) | omega)
      · repeat' (first | (simp (disch := first | omega | assumption | (simp only [List.length_set]; omega) | (simp [*] <;> fail) | assumption) [-Bool.decide_and, -Bool.decide_or, -Bool.not_and, -Bool.not_or, toNat_pred, toNat_succ, wrap64, wr_new, wr_new0, ok_if, ok_ifn, iadV_sl, makeV_int, decT, decF, over_at, *, few, hF.len, hM.len]) | (with_reducible refine Gd_split (fun hc => ?_) (fun hc => ?_) <;> (have hc2 := hc; try simp at hc2)) | (with_reducible refine Br_split (fun hc => ?_) (fun hc => ?_) <;> (have hc2 := hc; try simp at hc2)) | (with_reducible refine GdT_split (fun hc => ?_) (fun hc => ?_) <;> (have hc2 := hc; try simp at hc2)) | (with_reducible refine WT_alt ?_ ?_) | omega)
    · repeat' (first | (simp (disch := first | omega | assumption | (simp only [List.length_set]; omega) | (simp [*] <;> fail) | assumption) [-Bool.decide_and, -Bool.decide_or, -Bool.not_and, -Bool.not_or, toNat_pred, toNat_succ, wrap64, wr_new, wr_new0, ok_if, ok_ifn, iadV_sl, makeV_int, decT, decF, over_at, *, few, hF.len, hM.len]) | (with_reducible refine Gd_split (fun hc => ?_) (fun hc => ?_) <;> (have hc2 := hc; try simp at hc2)) | (with_reducible refine Br_split (fun hc => ?_) (fun hc => ?_) <;> (have hc2 := hc; try simp at hc2)) | (with_reducible refine GdT_split (fun hc => ?_) (fun hc => ?_) <;> (have hc2 := hc; try simp at hc2)) | (with_reducible refine WT_alt ?_ ?_) | omega)
theorem c_implRunFilters {form : Int} {fb : Bool} (hS : Sm h l xs) (hF : Arr h lf 5 (fs.map Fil.cells)) (hM : Arr h lm 4 (ms.map Mem.cells)) (hm : ∀ m ∈ ms, m.CF) (hx : ∀ x ∈ xs, CF x) (hl : lim ≤ h.length)
    (hT : okRs form xs.length fs.length ms.length → ∀ o q g, New h g o 22 1 ((rfs form fb fs ms xs fs.length).1.map fl) → New h g q 28 4 ((rfs form fb fs ms xs fs.length).2.map Mem.cells) → Far o q → K (.tup [.lf o, .lf q, .lf (.bool true)]) g)
    (hN : ¬ okRs form xs.length fs.length ms.length → K (.tup [.lf .nils, .lf .nils, .lf (.bool false)]) h) :
    CallT S false 77 [.lf lf, .lf (.int .i64 form), .lf (.bool fb), .lf lm, .lf l] h lim K := by
  have few := fun K => c_areSamples (S := S) (K := K) (lim := lim) hS.arr
  by_cases hk : okRs form xs.length fs.length ms.length
  · have hT2 := hT hk
    clear hT hN
    obtain ⟨hk1, hk2, hk3, hk4⟩ := hk
    refine CallT_of_body (F := L77) (HasRs.f77) rfl ?_; unfold L77; dsimp only []
    repeat' (first | (simp (disch := first | omega | assumption | (simp only [List.length_set]; omega) | (simp [*] <;> fail) | assumption) [-Bool.decide_and, -Bool.decide_or, -Bool.not_and, -Bool.not_or, toNat_pred, toNat_succ, wrap64, wr_new, wr_new0, ok_if, ok_ifn, iadV_sl, makeV_int, decT, decF, over_at, *, few, hF.len, hM.len]) | (with_reducible refine Gd_split (fun hc => ?_) (fun hc => ?_) <;> (have hc2 := hc; try simp at hc2)) | (with_reducible refine Br_split (fun hc => ?_) (fun hc => ?_) <;> (have hc2 := hc; try simp at hc2)) | (with_reducible refine GdT_split (fun hc => ?_) (fun hc => ?_) <;> (have hc2 := hc; try simp at hc2)) | (with_reducible refine WT_alt ?_ ?_) | omega)
    refine c_copyNumbers hS (by omega) hl fun l' g' hO => ?_
    have z0 := hO.kept.1
    have hF0 := hF.kept hO.kept
    repeat' (first | (simp (disch := first | omega | assumption | (simp only [List.length_set]; omega) | (simp [*] <;> fail) | assumption) [-Bool.decide_and, -Bool.decide_or, -Bool.not_and, -Bool.not_or, toNat_pred, toNat_succ, wrap64, wr_new, wr_new0, ok_if, ok_ifn, iadV_sl, makeV_int, decT, decF, over_at, *, hF0.len]) | (with_reducible refine Gd_split (fun hc => ?_) (fun hc => ?_) <;> (have hc2 := hc; try simp at hc2)) | (with_reducible refine Br_split (fun hc => ?_) (fun hc => ?_) <;> (have hc2 := hc; try simp at hc2)) | (with_reducible refine GdT_split (fun hc => ?_) (fun hc => ?_) <;> (have hc2 := hc; try simp at hc2)) | (with_reducible refine WT_alt ?_ ?_) | omega)
    refine WL_forM 73786967498745700352 (by decide +kernel) (fs.length) (fun i b g => i ≤ fs.length ∧ b 43 = .lf (.int .i64 i) ∧ ∃ o q, b 13 = .lf o ∧ b 14 = .lf q ∧ New h g o 22 1 ((rfs form fb fs ms xs i).1.map fl) ∧ New h g q 28 4 ((rfs form fb fs ms xs i).2.map Mem.cells) ∧ Far o q) (fun _ _ _ hi => hi.1) ⟨by simp, by simp, l', .nils, by simp, by simp, hO, New.nil hO.kept, fun q1 q2 => absurd rfl q2⟩ ?_
    rintro i b g ⟨hi, e43, o, q, e13, e14, hO1, hQ1, hOQ⟩
    have hF1 := hF.kept hO1.kept
    have hM1 := hM.kept hO1.kept
    by_cases hlt : i < fs.length
    · have hlt2 : i < ms.length := by omega
      have s1 := rfs_succ (form := form) (fb := fb) (xs := xs) hlt hlt2
      have hcf := rfs_CF (form := form) (fb := fb) (fs := fs) (i := i) hm hx
      have hmi := hm _ (List.getElem_mem hlt2)
      have hlen := rfs_len (form := form) (fb := fb) (fs := fs) (ms := ms) (xs := xs) (i := i)
      generalize rfs form fb fs ms xs i = st at *
      have hq := hO1.kept.1
      have hf5 : fs[i].cells.length = 5 := rfl
      have ht5 : List.take 5 fs[i].cells = fs[i].cells := rfl
      clear hT2
      repeat' (first | (simp (disch := first | omega | assumption | (simp only [List.length_set]; omega) | (simp [*] <;> fail) | assumption) [-Bool.decide_and, -Bool.decide_or, -Bool.not_and, -Bool.not_or, toNat_pred, toNat_succ, wrap64, wr_new, wr_new0, ok_if, ok_ifn, iadV_sl, makeV_int, decT, decF, over_at, *, hF1.len, hF1.at_, hF1.at_', hF1.rd, hF1.rdIn, hF1.rdIn0, hF1.rdA, hF1.rdInA, hF1.rdIn0A, hM1.len, hM1.at_, hM1.at_', hM1.rd, hM1.rdIn, hM1.rdIn0, hM1.rdA, hM1.rdInA, hM1.rdIn0A, leavesAll, fillL, -W_any]) | (with_reducible refine Gd_split (fun hc => ?_) (fun hc => ?_) <;> (have hc2 := hc; try simp at hc2)) | (with_reducible refine Br_split (fun hc => ?_) (fun hc => ?_) <;> (have hc2 := hc; try simp at hc2)) | (with_reducible refine GdT_split (fun hc => ?_) (fun hc => ?_) <;> (have hc2 := hc; try simp at hc2)) | (with_reducible refine WT_alt ?_ ?_) | omega)
      have hO0 := hO1.app (t := [⟨fs[i].cells, .own 31 1⟩])
      have hQ0 := hQ1.app (t := [⟨fs[i].cells, .own 31 1⟩])
      have hMb := hM1.app (t := [⟨fs[i].cells, .own 31 1⟩])
      have rb : rdCells (g ++ [⟨fs[i].cells, .own 31 1⟩]) g.length 0 5 = some fs[i].cells := Cel.new.rd (by simp [hf5])
      have hoq : o ≠ .nils → o.id < g.length := fun q1 => (hO1.lt q1).2
      have hqq : q ≠ .nils → q.id < g.length := fun q1 => (hQ1.lt q1).2
      have hb16 : g.length < (g ++ [⟨fs[i].cells, .own 31 1⟩] : Hp).length := by simp
      generalize (g ++ [⟨fs[i].cells, .own 31 1⟩] : Hp) = gb at *
      rw [W_any]
      refine WT_cutM 1152640029630529536 (by decide +kernel) (fun b g' => ∃ o2 id, b 17 = .lf o2 ∧ b 18 = .lf (.ptr id 0) ∧ New gb g' o2 22 1 ((scan (stepF fs[i] form fb) ms[i] st.1).1.map fl) ∧ Cel g' id 28 (scan (stepF fs[i] form fb) ms[i] st.1).2.cells ∧ gb.length ≤ id ∧ Not o2 id) ?_ ?_
      · have hy4 : ∀ q : Mem, q.cells.length = 4 := fun _ => rfl
        have ht4 : ∀ q : Mem, List.take 4 q.cells = q.cells := fun _ => rfl
        have c1 : ∀ (t : Hp) (K : CV → Hp → Prop), (∀ o g', New (gb ++ t) g' o 22 1 ((scan (stepF fs[i] form fb) ms[i] st.1).1.map fl) → K (.tup [.lf o, .agg (scan (stepF fs[i] form fb) ms[i] st.1).2.cells]) g') → CallT S false 90 [.agg fs[i].cells, .lf (.int .i64 form), .lf (.bool fb), .agg ms[i].cells, .lf o] (gb ++ t) lim K := fun t K hk => c_implRun (f := fs[i]) hmi hO0.arr.app hcf (by omega) (by simp; omega) hk
        have c0 := fun K => c1 [] K
        simp only [List.append_nil] at c0
        generalize scan (stepF fs[i] form fb) ms[i] st.1 = r at *
        repeat' (first | (simp (disch := first | omega | assumption | (simp only [List.length_set]; omega) | (simp [*] <;> fail) | assumption) [-Bool.decide_and, -Bool.decide_or, -Bool.not_and, -Bool.not_or, toNat_pred, toNat_succ, wrap64, wr_new, wr_new0, ok_if, ok_ifn, iadV_sl, makeV_int, decT, decF, over_at, *, hMb.len, hMb.at_, hMb.at_', hMb.rd, hMb.rdIn, hMb.rdIn0, hMb.rdA, hMb.rdInA, hMb.rdIn0A, leavesAll, fillL]) | (with_reducible refine Gd_split (fun hc => ?_) (fun hc => ?_) <;> (have hc2 := hc; try simp at hc2)) | (with_reducible refine Br_split (fun hc => ?_) (fun hc => ?_) <;> (have hc2 := hc; try simp at hc2)) | (with_reducible refine GdT_split (fun hc => ?_) (fun hc => ?_) <;> (have hc2 := hc; try simp at hc2)) | (with_reducible refine WT_alt ?_ ?_) | omega)
        · refine c0 _ fun o2 g2 hO2 => ?_
          have z2 := hO2.kept.1
          have w := wr_last (ty := 28) (cs := [.flt .f32 0, .flt .f32 0, .flt .f32 0, .flt .f32 0]) (new := r.2.cells) (show lim ≤ g2.length by omega) rfl
          have p1 : New gb (g2 ++ [⟨r.2.cells, .own 28 1⟩]) o2 22 1 (r.1.map fl) := hO2.app
          have p2 : Cel (g2 ++ [⟨r.2.cells, .own 28 1⟩]) g2.length 28 r.2.cells := Cel.new
          have p3 : Not o2 g2.length := fun q1 => by have := (hO2.lt q1).2; omega
          clear c0 c1
          repeat' (first | (simp (disch := first | omega | assumption | (simp only [List.length_set]; omega) | (simp [*] <;> fail) | assumption) [-Bool.decide_and, -Bool.decide_or, -Bool.not_and, -Bool.not_or, toNat_pred, toNat_succ, wrap64, wr_new, wr_new0, ok_if, ok_ifn, iadV_sl, makeV_int, decT, decF, over_at, *, leavesAll, fillL]) | (with_reducible refine Gd_split (fun hc => ?_) (fun hc => ?_) <;> (have hc2 := hc; try simp at hc2)) | (with_reducible refine Br_split (fun hc => ?_) (fun hc => ?_) <;> (have hc2 := hc; try simp at hc2)) | (with_reducible refine GdT_split (fun hc => ?_) (fun hc => ?_) <;> (have hc2 := hc; try simp at hc2)) | (with_reducible refine WT_alt ?_ ?_) | omega)
          all_goals exact ⟨p1, p2, by omega, p3⟩
        · refine c1 _ _ fun o2 g2 hO2 => ?_
          have z2 := hO2.kept.1
          simp only [List.length_append, List.length_singleton] at z2
          have nO := hO2.lt
          simp only [List.length_append, List.length_singleton] at nO
          have c9 := (Cel.new (g := gb) (t := []) (ty := 28) (cs := [.flt .f32 0, .flt .f32 0, .flt .f32 0, .flt .f32 0])).kept hO2.kept
          have c9l := c9.lt
          have w := c9.wr (lim := lim) (new := r.2.cells) (by omega) rfl
          have p3 : Not o2 gb.length := fun q1 => by have := (nO q1).1; omega
          have p1 : New gb (g2.set gb.length ⟨r.2.cells, .own 28 1⟩) o2 22 1 (r.1.map fl) := (hO2.base (Kept.app _ _)).set_other (Nat.le_refl _) p3
          have p2 : Cel (g2.set gb.length ⟨r.2.cells, .own 28 1⟩) gb.length 28 r.2.cells := Cel.put c9l
          clear c0 c1 nO
          repeat' (first | (simp (disch := first | omega | assumption | (simp only [List.length_set]; omega) | (simp [*] <;> fail) | assumption) [-Bool.decide_and, -Bool.decide_or, -Bool.not_and, -Bool.not_or, toNat_pred, toNat_succ, wrap64, wr_new, wr_new0, ok_if, ok_ifn, iadV_sl, makeV_int, decT, decF, over_at, *, leavesAll, fillL]) | (with_reducible refine Gd_split (fun hc => ?_) (fun hc => ?_) <;> (have hc2 := hc; try simp at hc2)) | (with_reducible refine Br_split (fun hc => ?_) (fun hc => ?_) <;> (have hc2 := hc; try simp at hc2)) | (with_reducible refine GdT_split (fun hc => ?_) (fun hc => ?_) <;> (have hc2 := hc; try simp at hc2)) | (with_reducible refine WT_alt ?_ ?_) | omega)
          all_goals exact ⟨p1, p2, by omega, p3⟩
      · rintro b2 g2 ⟨o2, id, f17, f18, hO2, hC, hid, hn⟩
        have hy4 := (scan (stepF fs[i] form fb) ms[i] st.1).2.len
        generalize scan (stepF fs[i] form fb) ms[i] st.1 = r at *
        have rC : rdCells g2 id 0 4 = some r.2.cells := hC.rd (by simp [Mem.len])
        have ht4 : List.take 4 r.2.cells = r.2.cells := rfl
        have hQ2 := hQ0.later hO2.kept
        have hO3 := hO2.base hO0.kept
        have hf : Far q o2 := fun q1 q2 => by have := hqq q1; have := (hO2.lt q2).1; omega
        repeat' (first | (simp (disch := first | omega | assumption | (simp only [List.length_set]; omega) | (simp [*] <;> fail) | assumption) [-Bool.decide_and, -Bool.decide_or, -Bool.not_and, -Bool.not_or, toNat_pred, toNat_succ, wrap64, wr_new, wr_new0, ok_if, ok_ifn, iadV_sl, makeV_int, decT, decF, over_at, *, leavesAll, fillL]) | (with_reducible refine Gd_split (fun hc => ?_) (fun hc => ?_) <;> (have hc2 := hc; try simp at hc2)) | (with_reducible refine Br_split (fun hc => ?_) (fun hc => ?_) <;> (have hc2 := hc; try simp at hc2)) | (with_reducible refine GdT_split (fun hc => ?_) (fun hc => ?_) <;> (have hc2 := hc; try simp at hc2)) | (with_reducible refine WT_alt ?_ ?_) | omega)
        refine oc_push hQ2 hl (by simp; omega) fun q' g3 hQ3 hB => ?_
        obtain ⟨hO4, hf4⟩ := hB.other hQ2 hO3 hf
        have t1 : (rfs form fb fs ms xs (i + 1)).1 = r.1 := by rw [s1]
        have t2 : (rfs form fb fs ms xs (i + 1)).2.map Mem.cells = st.2.map Mem.cells ++ [r.2.cells] := by rw [s1]; simp
        rw [← t1] at hO4
        rw [← t2] at hQ3
        clear t1 t2 s1
        repeat' (first | (simp (disch := first | omega | assumption | (simp only [List.length_set]; omega) | (simp [*] <;> fail) | assumption) [-Bool.decide_and, -Bool.decide_or, -Bool.not_and, -Bool.not_or, toNat_pred, toNat_succ, wrap64, wr_new, wr_new0, ok_if, ok_ifn, iadV_sl, makeV_int, decT, decF, over_at, *]) | (with_reducible refine Gd_split (fun hc => ?_) (fun hc => ?_) <;> (have hc2 := hc; try simp at hc2)) | (with_reducible refine Br_split (fun hc => ?_) (fun hc => ?_) <;> (have hc2 := hc; try simp at hc2)) | (with_reducible refine GdT_split (fun hc => ?_) (fun hc => ?_) <;> (have hc2 := hc; try simp at hc2)) | (with_reducible refine WT_alt ?_ ?_) | omega)
        all_goals ((repeat' apply And.intro) <;> first | omega | assumption | exact hf4.symm)
    · have : i = fs.length := by omega
      subst this
      repeat' (first | (simp (disch := first | omega | assumption | (simp only [List.length_set]; omega) | (simp [*] <;> fail) | assumption) [-Bool.decide_and, -Bool.decide_or, -Bool.not_and, -Bool.not_or, toNat_pred, toNat_succ, wrap64, wr_new, wr_new0, ok_if, ok_ifn, iadV_sl, makeV_int, decT, decF, over_at, *, hF1.len]) | (with_reducible refine Gd_split (fun hc => ?_) (fun hc => ?_) <;> (have hc2 := hc; try simp at hc2)) | (with_reducible refine Br_split (fun hc => ?_) (fun hc => ?_) <;> (have hc2 := hc; try simp at hc2)) | (with_reducible refine GdT_split (fun hc => ?_) (fun hc => ?_) <;> (have hc2 := hc; try simp at hc2)) | (with_reducible refine WT_alt ?_ ?_) | omega)
      all_goals ((repeat' apply And.intro) <;> first | omega | assumption | exact hT2 _ _ _ hO1 hQ1 hOQ)
  · have hN2 := hN hk
    clear hN hT
    refine CallT_of_body (F := L77) (HasRs.f77) rfl ?_; unfold L77; dsimp only []
    by_cases h1 : 0 ≤ form ∧ form ≤ 2
    · by_cases h2 : xs.length ≤ 256
      · by_cases h3 : fs.length ≤ 6
        · have h4 : ¬ ms.length = fs.length := fun q => hk ⟨h1, h2, h3, q⟩
          repeat' (first | (simp (disch := first | omega | assumption | (simp only [List.length_set]; omega) | (simp [*] <;> fail) | assumption) [-Bool.decide_and, -Bool.decide_or, -Bool.not_and, -Bool.not_or, toNat_pred, toNat_succ, wrap64, wr_new, wr_new0, ok_if, ok_ifn, iadV_sl, makeV_int, decT, decF, over_at, *, few, hF.len, hM.len]) | (with_reducible refine Gd_split (fun hc => ?_) (fun hc => ?_) <;> (have hc2 := hc; try simp at hc2)) | (with_reducible refine Br_split (fun hc => ?_) (fun hc => ?_) <;> (have hc2 := hc; try simp at hc2)) | (with_reducible refine GdT_split (fun hc => ?_) (fun hc => ?_) <;> (have hc2 := hc; try simp at hc2)) | (with_reducible refine WT_alt ?_ ?_) | omega)
        · repeat' (first | (simp (disch := first | omega | assumption | (simp only [List.length_set]; omega) | (simp [*] <;> fail) | assumption) [-Bool.decide_and, -Bool.decide_or, -Bool.not_and, -Bool.not_or, toNat_pred, toNat_succ, wrap64, wr_new, wr_new0, ok_if, ok_ifn, iadV_sl, makeV_int, decT, decF, over_at, *, few, hF.len, hM.len]) | (with_reducible refine Gd_split (fun hc => ?_) (fun hc => ?_) <;> (have hc2 := hc; try simp at hc2)) | (with_reducible refine Br_split (fun hc => ?_) (fun hc => ?_) <;> (have hc2 := hc; try simp at hc2)) | (with_reducible refine GdT_split (fun hc => ?_) (fun hc => ?_) <;> (have hc2 := hc; try simp at hc2)) | (with_reducible refine WT_alt ?_ ?_) | omega)
      · repeat' (first | (simp (disch := first | omega | assumption | (simp only [List.length_set]; omega) | (simp [*] <;> fail) | assumption) [-Bool.decide_and, -Bool.decide_or, -Bool.not_and, -Bool.not_or, toNat_pred, toNat_succ, wrap64, wr_new, wr_new0, ok_if, ok_ifn, iadV_sl, makeV_int, decT, decF, over_at, *, few, hF.len, hM.len]) | (with_reducible refine Gd_split (fun hc => ?_) (fun hc => ?_) <;> (have hc2 := hc; try simp at hc2)) | (with_reducible refine Br_split (fun hc => ?_) (fun hc => ?_) <;> (have hc2 := hc; try simp at hc2)) | (with_reducible refine GdT_split (fun hc => ?_) (fun hc => ?_) <;> (have hc2 := hc; try simp at hc2)) | (with_reducible refine WT_alt ?_ ?_) | omega)
    · repeat' (first | (simp (disch := first | omega | assumption | (simp only [List.length_set]; omega) | (simp [*] <;> fail) | assumption) [-Bool.decide_and, -Bool.decide_or, -Bool.not_and, -Bool.not_or, toNat_pred, toNat_succ, wrap64, wr_new, wr_new0, ok_if, ok_ifn, iadV_sl, makeV_int, decT, decF, over_at, *, few, hF.len, hM.len]) | (with_reducible refine Gd_split (fun hc => ?_) (fun hc => ?_) <;> (have hc2 := hc; try simp at hc2)) | (with_reducible refine Br_split (fun hc => ?_) (fun hc => ?_) <;> (have hc2 := hc; try simp at hc2)) | (with_reducible refine GdT_split (fun hc => ?_) (fun hc => ?_) <;> (have hc2 := hc; try simp at hc2)) | (with_reducible refine WT_alt ?_ ?_) | omega)
theorem d_specRunFilters {form : Int} {fb : Bool} (hS : Sm h l xs) (hF : Arr h lf 5 (fs.map Fil.cells)) (hM : Arr h lm 4 (ms.map Mem.cells)) (hm : ∀ m ∈ ms, m.CF) (hx : ∀ x ∈ xs, CF x) (hl : lim ≤ h.length)
    (hK : ∀ o q g, New h g o 22 1 ((runFs form fb fs ms xs).1.map fl) → New h g q 28 4 ((runFs form fb fs ms xs).2.map Mem.cells) → Far o q → K (.tup [.lf o, .lf q, .lf (.bool (decide (okRs form xs.length fs.length ms.length)))]) g) :
    CallT S false 74 [.lf lf, .lf (.int .i64 form), .lf (.bool fb), .lf lm, .lf l] h lim K :=
  c_specRunFilters hS hF hM hm hx hl (fun hk o q g h1 h2 h3 => by simpa [hk] using hK o q g (by simpa [runFs, hk] using h1) (by simpa [runFs, hk] using h2) h3)
    (fun hk => by simpa [hk] using hK .nils .nils h (by simpa [runFs, hk] using New.nil (Kept.refl h)) (by simpa [runFs, hk] using New.nil (Kept.refl h)) (fun q1 _ => absurd rfl q1))
theorem d_implRunFilters {form : Int} {fb : Bool} (hS : Sm h l xs) (hF : Arr h lf 5 (fs.map Fil.cells)) (hM : Arr h lm 4 (ms.map Mem.cells)) (hm : ∀ m ∈ ms, m.CF) (hx : ∀ x ∈ xs, CF x) (hl : lim ≤ h.length)
    (hK : ∀ o q g, New h g o 22 1 ((runFs form fb fs ms xs).1.map fl) → New h g q 28 4 ((runFs form fb fs ms xs).2.map Mem.cells) → Far o q → K (.tup [.lf o, .lf q, .lf (.bool (decide (okRs form xs.length fs.length ms.length)))]) g) :
    CallT S false 77 [.lf lf, .lf (.int .i64 form), .lf (.bool fb), .lf lm, .lf l] h lim K :=
  c_implRunFilters hS hF hM hm hx hl (fun hk o q g h1 h2 h3 => by simpa [hk] using hK o q g (by simpa [runFs, hk] using h1) (by simpa [runFs, hk] using h2) h3)
    (fun hk => by simpa [hk] using hK .nils .nils h (by simpa [runFs, hk] using New.nil (Kept.refl h)) (by simpa [runFs, hk] using New.nil (Kept.refl h)) (fun q1 _ => absurd rfl q1))
end
end Go.E
