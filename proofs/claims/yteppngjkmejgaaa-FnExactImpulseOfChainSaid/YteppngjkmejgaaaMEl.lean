/- The limiter that looks ahead, the program's side. -/
import Derived.Test.YteppngjkmejgaaaMEa
import Derived.Test.YteppngjkmejgaaaMEc
import Derived.Test.YteppngjkmejgaaaMEf
set_option linter.unusedVariables false
set_option linter.unusedSimpArgs false
namespace Go.E
open Go
def L85 : LFn := ⟨1, (.seq (.reg [⟨(.some 2), (.mv (.c (.lf (.flt .f32 0)))), none⟩])
 (.seq (.reg [⟨(.some 3), (.mv (.c (.lf (.flt .f32 0)))), none⟩])
 (.seq (.seq (.reg [⟨(.some 7), (.mv (.t 0)), none⟩, ⟨(.some 8), (.len (.t 7)), none⟩, ⟨(.some 9), (.mv (.c (.lf (.int .i64 0)))), none⟩])
 (.block 0 (.loop (.seq (.reg [⟨(.some 10), (.bin .lss (.t 9) (.t 8)), none⟩])
 (.seq (.cond (.t 10) .skip (.exit 0))
 (.seq (.block 1 (.seq (.reg [⟨(.some 11), (.iaddr 1 (.t 7) (.t 9)), none⟩, ⟨(.some 12), (.load false 1 (.t 11)), none⟩, ⟨(.some 5), (.mv (.t 12)), none⟩])
 (.seq (.reg [⟨(.some 13), (.mv (.t 5)), none⟩, ⟨(.some 14), (.call true 94 [(.t 13)]), none⟩, ⟨(.some 6), (.mv (.t 14)), none⟩])
 (.seq (.reg [⟨(.some 15), (.mv (.t 6)), none⟩, ⟨(.some 16), (.mv (.t 3)), none⟩, ⟨(.some 17), (.bin .gtr (.t 15) (.t 16)), none⟩])
 (.cond (.t 17) (.reg [⟨(.some 18), (.mv (.t 6)), none⟩, ⟨(.some 3), (.mv (.t 18)), none⟩]) .skip)))))
 (.reg [⟨(.some 19), (.bin .add (.t 9) (.c (.lf (.int .i64 1)))), none⟩, ⟨(.some 9), (.mv (.t 19)), none⟩])))))))
 (.seq (.reg [⟨(.some 20), (.mv (.t 3)), none⟩, ⟨(.some 2), (.mv (.t 20)), none⟩])
 .ret)))), [(.tmp 2)]⟩
def L70 : LFn := ⟨2, (.seq (.reg [⟨(.some 2), (.box 91 (.t 0)), none⟩, ⟨(.some 4), (.mv (.c (.lf .nils))), none⟩, ⟨(.some 5), (.alloc 91 [(.flt .f32 0), (.flt .f32 0), (.flt .f32 0), .nils]), none⟩, ⟨(.some 6), (.mv (.c (.lf (.bool false)))), none⟩])
 (.seq (.seq (.reg [⟨(.some 14), (.faddr 0 (.t 2)), none⟩, ⟨(.some 15), (.load false 1 (.t 14)), none⟩, ⟨(.some 16), (.call true 62 [(.t 15)]), none⟩, ⟨(.some 17), (.una .not (.t 16)), none⟩, ⟨(.some 18), (.mv (.t 17)), none⟩, ⟨(.some 19), (.faddr 3 (.t 2)), (.some (18, false))⟩, ⟨(.some 20), (.load false 1 (.t 19)), (.some (18, false))⟩, ⟨(.some 21), (.len (.t 20)), (.some (18, false))⟩, ⟨(.some 22), (.bin .gtr (.t 21) (.c (.lf (.int .i64 64)))), (.some (18, false))⟩, ⟨(.some 23), (.pick (.t 18) (.c (.lf (.bool true))) (.t 22)), none⟩, ⟨(.some 24), (.mv (.t 23)), none⟩, ⟨(.some 25), (.mv (.t 1)), (.some (24, false))⟩, ⟨(.some 26), (.call true 42 [(.t 25)]), (.some (24, false))⟩, ⟨(.some 27), (.una .not (.t 26)), (.some (24, false))⟩, ⟨(.some 28), (.pick (.t 24) (.c (.lf (.bool true))) (.t 27)), none⟩])
 (.cond (.t 28) (.seq (.reg [⟨(.some 29), (.build [(.flt .f32 0), (.flt .f32 0), (.flt .f32 0), .nils] []), none⟩, ⟨(.some 4), (.mv (.c (.lf .nils))), none⟩, ⟨none, (.store 4 (.t 5) (.t 29)), none⟩, ⟨(.some 6), (.mv (.c (.lf (.bool false)))), none⟩])
 .ret) .skip))
 (.seq (.reg [⟨(.some 30), (.faddr 3 (.t 2)), none⟩, ⟨(.some 31), (.load false 1 (.t 30)), none⟩, ⟨(.some 32), (.call false 49 [(.t 31)]), none⟩, ⟨(.some 33), (.faddr 3 (.t 2)), none⟩, ⟨none, (.store 1 (.t 33) (.t 32)), none⟩])
 (.seq (.reg [⟨(.some 7), (.mv (.c (.lf .nils))), none⟩])
 (.seq (.seq (.reg [⟨(.some 34), (.mv (.t 1)), none⟩, ⟨(.some 35), (.len (.t 34)), none⟩, ⟨(.some 36), (.mv (.c (.lf (.int .i64 0)))), none⟩])
 (.block 0 (.loop (.seq (.reg [⟨(.some 37), (.bin .lss (.t 36) (.t 35)), none⟩])
 (.seq (.cond (.t 37) .skip (.exit 0))
 (.seq (.block 1 (.seq (.reg [⟨(.some 38), (.iaddr 1 (.t 34) (.t 36)), none⟩, ⟨(.some 39), (.load false 1 (.t 38)), none⟩, ⟨(.some 9), (.mv (.t 39)), none⟩])
 (.seq (.reg [⟨(.some 40), (.faddr 3 (.t 2)), none⟩, ⟨(.some 41), (.load false 1 (.t 40)), none⟩, ⟨(.some 42), (.call false 49 [(.t 41)]), none⟩, ⟨(.some 43), (.mv (.t 9)), none⟩, ⟨(.some 44), (.lit 50 1 1 [(.flt .f32 0)] [(0, (1, (.t 43)))]), none⟩, ⟨(.some 45), (.app 50 1 4 (.t 42) (.t 44)), none⟩, ⟨(.some 10), (.mv (.t 45)), none⟩])
 (.seq (.reg [⟨(.some 11), (.mv (.c (.lf (.flt .f32 1065353216)))), none⟩])
 (.seq (.seq (.reg [⟨(.some 46), (.mv (.t 10)), none⟩, ⟨(.some 47), (.call true 85 [(.t 46)]), none⟩, ⟨(.some 12), (.mv (.t 47)), none⟩])
 (.seq (.reg [⟨(.some 48), (.mv (.t 12)), none⟩, ⟨(.some 49), (.faddr 0 (.t 2)), none⟩, ⟨(.some 50), (.load false 1 (.t 49)), none⟩, ⟨(.some 51), (.bin .gtr (.t 48) (.t 50)), none⟩])
 (.cond (.t 51) (.reg [⟨(.some 52), (.faddr 0 (.t 2)), none⟩, ⟨(.some 53), (.load false 1 (.t 52)), none⟩, ⟨(.some 54), (.mv (.t 12)), none⟩, ⟨(.some 55), (.bin .quo (.t 53) (.t 54)), none⟩, ⟨(.some 11), (.mv (.t 55)), none⟩]) .skip)))
 (.seq (.reg [⟨(.some 56), (.faddr 2 (.t 2)), none⟩, ⟨(.some 57), (.load false 1 (.t 56)), none⟩, ⟨(.some 58), (.faddr 1 (.t 2)), none⟩, ⟨(.some 59), (.load false 1 (.t 58)), none⟩, ⟨(.some 60), (.bin .add (.t 57) (.t 59)), none⟩, ⟨(.some 13), (.mv (.t 60)), none⟩])
 (.seq (.seq (.reg [⟨(.some 61), (.mv (.t 11)), none⟩, ⟨(.some 62), (.mv (.t 13)), none⟩, ⟨(.some 63), (.bin .lss (.t 61) (.t 62)), none⟩, ⟨(.some 64), (.mv (.t 63)), none⟩, ⟨(.some 65), (.mv (.t 13)), (.some (64, false))⟩, ⟨(.some 66), (.mv (.t 13)), (.some (64, false))⟩, ⟨(.some 67), (.bin .neq (.t 65) (.t 66)), (.some (64, false))⟩, ⟨(.some 68), (.pick (.t 64) (.c (.lf (.bool true))) (.t 67)), none⟩])
 (.cond (.t 68) (.reg [⟨(.some 69), (.mv (.t 11)), none⟩, ⟨(.some 13), (.mv (.t 69)), none⟩]) .skip))
 (.seq (.reg [⟨(.some 70), (.mv (.t 13)), none⟩, ⟨(.some 71), (.faddr 2 (.t 2)), none⟩, ⟨none, (.store 1 (.t 71) (.t 70)), none⟩])
 (.seq (.reg [⟨(.some 72), (.mv (.t 10)), none⟩, ⟨(.some 73), (.slice 1 (.t 72) (.some (.c (.lf (.int .i64 1)))) none), none⟩, ⟨(.some 74), (.faddr 3 (.t 2)), none⟩, ⟨none, (.store 1 (.t 74) (.t 73)), none⟩])
 (.reg [⟨(.some 75), (.mv (.t 7)), none⟩, ⟨(.some 76), (.mv (.t 10)), none⟩, ⟨(.some 77), (.iaddr 1 (.t 76) (.c (.lf (.int .i64 0)))), none⟩, ⟨(.some 78), (.load false 1 (.t 77)), none⟩, ⟨(.some 79), (.mv (.t 13)), none⟩, ⟨(.some 80), (.bin .mul (.t 78) (.t 79)), none⟩, ⟨(.some 81), (.faddr 0 (.t 2)), none⟩, ⟨(.some 82), (.load false 1 (.t 81)), none⟩, ⟨(.some 83), (.call true 84 [(.t 80), (.t 82)]), none⟩, ⟨(.some 84), (.lit 50 1 1 [(.flt .f32 0)] [(0, (1, (.t 83)))]), none⟩, ⟨(.some 85), (.app 50 1 4 (.t 75) (.t 84)), none⟩, ⟨(.some 7), (.mv (.t 85)), none⟩]))))))))))
 (.reg [⟨(.some 86), (.bin .add (.t 36) (.c (.lf (.int .i64 1)))), none⟩, ⟨(.some 36), (.mv (.t 86)), none⟩])))))))
 (.seq (.reg [⟨(.some 87), (.faddr 3 (.t 2)), none⟩, ⟨(.some 88), (.load false 1 (.t 87)), none⟩, ⟨(.some 89), (.call false 49 [(.t 88)]), none⟩, ⟨(.some 90), (.faddr 3 (.t 2)), none⟩, ⟨none, (.store 1 (.t 90) (.t 89)), none⟩])
 (.seq (.reg [⟨(.some 91), (.mv (.t 7)), none⟩, ⟨(.some 92), (.load true 4 (.t 2)), none⟩, ⟨(.some 4), (.mv (.t 91)), none⟩, ⟨none, (.store 4 (.t 5) (.t 92)), none⟩, ⟨(.some 6), (.mv (.c (.lf (.bool true)))), none⟩])
 .ret))))))), [(.tmp 4), (.cell 5 true 4), (.tmp 6)]⟩
class HasLi (S : Sys) : Prop extends HasCl S, HasCn S, HasEf S where
  f85 : S.fs 85 = some L85
  f70 : S.fs 70 = some L70
def pkS (p x : Nat) : Nat := if fcmp .gtr .f32 (fabs x) p = true then fabs x else p
def pkTo (xs : List Nat) (i : Nat) : Nat := (xs.take i).foldl pkS 0
theorem pkTo_zero {xs : List Nat} : pkTo xs 0 = 0 := by simp [pkTo]
theorem pkTo_succ {xs : List Nat} {i : Nat} (hi : i < xs.length) : pkTo xs (i + 1) = pkS (pkTo xs i) xs[i] := by
  unfold pkTo; rw [List.take_succ_eq_append_getElem hi, List.foldl_append]; rfl
def limT (L p : Nat) : Nat := if fcmp .gtr .f32 p L = true then fbin .quo .f32 L p else 1065353216
def limG (t g : Nat) : Nat := if (fcmp .lss .f32 t g || fcmp .neq .f32 g g) = true then t else g
/-- One step of the limiter: the state is its gain and what lies ahead. -/
def limS (L rise : Nat) (st : Nat × List Nat) (x : Nat) : Nat × (Nat × List Nat) :=
  (clipF L (fbin .mul .f32 ((st.2 ++ [x]).getD 0 0) (limG (limT L (pkTo (st.2 ++ [x]) (st.2 ++ [x]).length)) (fbin .add .f32 st.1 rise))), (limG (limT L (pkTo (st.2 ++ [x]) (st.2 ++ [x]).length)) (fbin .add .f32 st.1 rise), (st.2 ++ [x]).drop 1))
theorem from_zero {h : Hp} {l : Lf} {sz : Nat} {rows : List (List Lf)} (hA : Arr h l sz rows) : l.from_ 0 sz = l := by
  have hs := hA.isS
  cases l <;> simp [Lf.isS] at hs <;> simp [Lf.from_]
theorem from_id {l : Lf} {j sz : Nat} : (l.from_ j sz).id = l.id := by cases l <;> rfl
section
variable {S : Sys} {lim : Nat} {h : Hp} {K : CV → Hp → Prop} [HasLi S] {l l2 : Lf} {xs : List Nat}
theorem c_peakOf (hA : Arr h l 1 (xs.map fl)) (hx : ∀ x ∈ xs, CF x) : CallT S true 85 [.lf l] h lim K = K (.lf (.flt .f32 (pkTo xs xs.length))) h := by
  have hb := hA.bound
  refine CallT_pure (F := L85) (HasLi.f85) rfl (by first | rfl | (split <;> rfl) | simp) ?_; unfold L85; dsimp only []
  repeat' (first | (simp (disch := first | omega | assumption | (simp only [List.length_set]; omega) | (simp [*] <;> fail) | assumption) [-Bool.decide_and, -Bool.decide_or, -Bool.not_and, -Bool.not_or, toNat_pred, toNat_succ, wrap64, wr_new, wr_new0, ok_if, ok_ifn, iadV_sl, makeV_int, decT, decF, over_at, *, hA.len]) | (with_reducible refine Gd_split (fun hc => ?_) (fun hc => ?_) <;> (have hc2 := hc; try simp at hc2)) | (with_reducible refine Br_split (fun hc => ?_) (fun hc => ?_) <;> (have hc2 := hc; try simp at hc2)) | (with_reducible refine GdT_split (fun hc => ?_) (fun hc => ?_) <;> (have hc2 := hc; try simp at hc2)) | (with_reducible refine WT_alt ?_ ?_) | omega)
  refine WL_forM 1048168 (by decide +kernel) (xs.length) (fun i b g => i ≤ xs.length ∧ b 9 = .lf (.int .i64 i) ∧ b 3 = .lf (.flt .f32 (pkTo xs i)) ∧ h = g) (fun _ _ _ hi => hi.1) ⟨by omega, by simp, by simp [pkTo_zero], rfl⟩ ?_
  rintro i b g ⟨hi, e9, e3, rfl⟩
  by_cases hlt : i < xs.length
  · have hs := pkTo_succ hlt
    have hxi := hx _ (List.getElem_mem hlt)
    generalize pkTo xs i = p at *
    unfold pkS at hs
    cases hc : fcmp .gtr .f32 (fabs xs[i]) p
    · rw [hc] at hs
      simp only [Bool.false_eq_true, if_false] at hs
      repeat' (first | (simp (disch := first | omega | assumption | (simp only [List.length_set]; omega) | (simp [*] <;> fail) | assumption) [-Bool.decide_and, -Bool.decide_or, -Bool.not_and, -Bool.not_or, toNat_pred, toNat_succ, wrap64, wr_new, wr_new0, ok_if, ok_ifn, iadV_sl, makeV_int, decT, decF, over_at, *, hA.len, hA.at_, hA.at_', hA.rd, hA.rdIn, hA.rdIn0, hA.rdA, hA.rdInA, hA.rdIn0A, hA.rd1, fl, c_absolute hxi]) | (with_reducible refine Gd_split (fun hc => ?_) (fun hc => ?_) <;> (have hc2 := hc; try simp at hc2)) | (with_reducible refine Br_split (fun hc => ?_) (fun hc => ?_) <;> (have hc2 := hc; try simp at hc2)) | (with_reducible refine GdT_split (fun hc => ?_) (fun hc => ?_) <;> (have hc2 := hc; try simp at hc2)) | (with_reducible refine WT_alt ?_ ?_) | omega)
    · rw [hc] at hs
      simp only [if_true] at hs
      repeat' (first | (simp (disch := first | omega | assumption | (simp only [List.length_set]; omega) | (simp [*] <;> fail) | assumption) [-Bool.decide_and, -Bool.decide_or, -Bool.not_and, -Bool.not_or, toNat_pred, toNat_succ, wrap64, wr_new, wr_new0, ok_if, ok_ifn, iadV_sl, makeV_int, decT, decF, over_at, *, hA.len, hA.at_, hA.at_', hA.rd, hA.rdIn, hA.rdIn0, hA.rdA, hA.rdInA, hA.rdIn0A, hA.rd1, fl, c_absolute hxi]) | (with_reducible refine Gd_split (fun hc => ?_) (fun hc => ?_) <;> (have hc2 := hc; try simp at hc2)) | (with_reducible refine Br_split (fun hc => ?_) (fun hc => ?_) <;> (have hc2 := hc; try simp at hc2)) | (with_reducible refine GdT_split (fun hc => ?_) (fun hc => ?_) <;> (have hc2 := hc; try simp at hc2)) | (with_reducible refine WT_alt ?_ ?_) | omega)
  · have : i = xs.length := by omega
    subst this
    repeat' (first | (simp (disch := first | omega | assumption | (simp only [List.length_set]; omega) | (simp [*] <;> fail) | assumption) [-Bool.decide_and, -Bool.decide_or, -Bool.not_and, -Bool.not_or, toNat_pred, toNat_succ, wrap64, wr_new, wr_new0, ok_if, ok_ifn, iadV_sl, makeV_int, decT, decF, over_at, *, hA.len]) | (with_reducible refine Gd_split (fun hc => ?_) (fun hc => ?_) <;> (have hc2 := hc; try simp at hc2)) | (with_reducible refine Br_split (fun hc => ?_) (fun hc => ?_) <;> (have hc2 := hc; try simp at hc2)) | (with_reducible refine GdT_split (fun hc => ?_) (fun hc => ?_) <;> (have hc2 := hc; try simp at hc2)) | (with_reducible refine WT_alt ?_ ?_) | omega)
def aheadOk (st : Nat × List Nat) (n : Nat) : Prop := st.2.length = n ∧ ∀ x ∈ st.2, CF x
theorem limS_ok {L rise n x : Nat} {st : Nat × List Nat} (h : aheadOk st n) (hx : CF x) : aheadOk (limS L rise st x).2 n := by
  refine ⟨by simp [limS, h.1], fun y hy => ?_⟩
  have : y ∈ st.2 ++ [x] := List.mem_of_mem_drop hy
  rcases List.mem_append.1 this with q | q
  · exact h.2 y q
  · simp only [List.mem_singleton] at q; subst q; exact hx
set_option maxHeartbeats 8000000 in
theorem c_RunLimiter {L rise gain : Nat} {ah : List Nat} (hL : limB L = true) (hS : Sm h l2 ah) (hah : ah.length ≤ 64) (hac : ∀ x ∈ ah, CF x) (hA : Arr h l 1 (xs.map fl)) (hx : ∀ x ∈ xs, CF x) (hn : xs.length ≤ 256) (hl : lim ≤ h.length)
    (hK : ∀ o s g, New h g o 50 1 ((scan (limS L rise) (gain, ah) xs).1.map fl) → New h g s 50 1 ((scan (limS L rise) (gain, ah) xs).2.2.map fl) → Far o s → K (.tup [.lf o, .agg [.flt .f32 L, .flt .f32 rise, .flt .f32 (scan (limS L rise) (gain, ah) xs).2.1, s], .lf (.bool true)]) g) :
    CallT S false 70 [.agg [.flt .f32 L, .flt .f32 rise, .flt .f32 gain, l2], .lf l] h lim K := by
  have hll := hS.arr.len
  refine CallT_of_body (F := L70) (HasLi.f70) rfl ?_; unfold L70; dsimp only []
  repeat' (first | (simp (disch := first | omega | assumption | (simp only [List.length_set]; omega) | (simp [*] <;> fail) | assumption) [-Bool.decide_and, -Bool.decide_or, -Bool.not_and, -Bool.not_or, toNat_pred, toNat_succ, wrap64, wr_new, wr_new0, ok_if, ok_ifn, iadV_sl, makeV_int, decT, decF, over_at, *, c_areSamples hA.app]) | (with_reducible refine Gd_split (fun hc => ?_) (fun hc => ?_) <;> (have hc2 := hc; try simp at hc2)) | (with_reducible refine Br_split (fun hc => ?_) (fun hc => ?_) <;> (have hc2 := hc; try simp at hc2)) | (with_reducible refine GdT_split (fun hc => ?_) (fun hc => ?_) <;> (have hc2 := hc; try simp at hc2)) | (with_reducible refine WT_alt ?_ ?_) | omega)
  refine c_copyNumbers (hS.kept (Kept.app h _)) (by omega) (by simp; omega) fun c0 g0 hC => ?_
  obtain ⟨t, rfl⟩ := hC.kept.split
  simp only [List.append_assoc, List.cons_append, List.nil_append] at hC ⊢
  have hC1 := New.swap2 (a' := ⟨[.flt .f32 L, .flt .f32 rise, .flt .f32 gain, c0], .own 91 1⟩) (b' := ⟨[.flt .f32 0, .flt .f32 0, .flt .f32 0, .nils], .own 91 1⟩) hC
  have hCl := hC.lt
  repeat' (first | (simp (disch := first | omega | assumption | (simp only [List.length_set]; omega) | (simp [*] <;> fail) | assumption) [-Bool.decide_and, -Bool.decide_or, -Bool.not_and, -Bool.not_or, toNat_pred, toNat_succ, wrap64, wr_new, wr_new0, ok_if, ok_ifn, iadV_sl, makeV_int, decT, decF, over_at, *, hA.len]) | (with_reducible refine Gd_split (fun hc => ?_) (fun hc => ?_) <;> (have hc2 := hc; try simp at hc2)) | (with_reducible refine Br_split (fun hc => ?_) (fun hc => ?_) <;> (have hc2 := hc; try simp at hc2)) | (with_reducible refine GdT_split (fun hc => ?_) (fun hc => ?_) <;> (have hc2 := hc; try simp at hc2)) | (with_reducible refine WT_alt ?_ ?_) | omega)
  refine WL_forM 154742504910672465642929792 (by decide +kernel) (xs.length) (fun i b g => i ≤ xs.length ∧ b 36 = .lf (.int .i64 i) ∧ ∃ (o al : Lf) (ys : List Nat) (j : Nat), b 7 = .lf o ∧ New h g o 50 1 ((outTo (limS L rise) (gain, ah) xs i).map fl) ∧ New h g al 50 1 (ys.map fl) ∧ j ≤ ys.length ∧ ys.length ≤ 65 ∧ ys.drop j = (stTo (limS L rise) (gain, ah) xs i).2 ∧ Cel g h.length 91 [.flt .f32 L, .flt .f32 rise, .flt .f32 (stTo (limS L rise) (gain, ah) xs i).1, al.from_ j 1] ∧ Cel g (h.length + 1) 91 [.flt .f32 0, .flt .f32 0, .flt .f32 0, .nils] ∧ Not o h.length ∧ Not o (h.length + 1) ∧ Not al h.length ∧ Not al (h.length + 1) ∧ Far o al) (fun _ _ _ hi => hi.1) ?_ ?_
  · refine ⟨by omega, by simp, .nils, c0, ah, 0, by simp, ?_, hC1, by omega, by omega, by simp, ?_, ?_, fun q => absurd rfl q, fun q => absurd rfl q, ?_, ?_, Far.nil_left⟩
    · simpa using New.nil (ty := 50) (sz := 1) hC1.kept
    · rw [from_zero hC1.arr]; simp [Cel]
    · simp [Cel]
    · intro q; have := (hCl q).1; simp at this; omega
    · intro q; have := (hCl q).1; simp at this; omega
  rintro i b g ⟨hi, e36, o, al, ys, j, e7, hN, hM, hj, hyl, hdrop, hc2, hc5, no2, no5, na2, na5, hf⟩
  have hk := hN.kept
  have hk1 := hk.1
  have hA1 := hA.kept hk
  have hlt2 := hc2.lt
  have hlt5 := hc5.lt
  have hol := outTo_len (step := limS L rise) (s := (gain, ah)) hi
  have hsz : aheadOk (stTo (limS L rise) (gain, ah) xs i) ah.length := stTo_inv (I := fun st => aheadOk st ah.length) ⟨rfl, hac⟩ (fun t x ht hx' => limS_ok ht (hx x hx')) hi
  by_cases hlt : i < xs.length
  · have s1 := outTo_fl (step := limS L rise) (s := (gain, ah)) hlt
    have s2 := stTo_succ (step := limS L rise) (s := (gain, ah)) hlt
    generalize stTo (limS L rise) (gain, ah) xs i = st at *
    obtain ⟨gn, ahd⟩ := st
    simp only at hdrop hc2
    obtain ⟨hz1, hz2⟩ := hsz
    simp only at hz1 hz2
    have hxi := hx _ (List.getElem_mem hlt)
    have hSm : Sm g (al.from_ j 1) ahd := by rw [← hdrop]; exact (Sm.new hM).drop hj
    have q3 : rdCells g h.length 3 1 = some [al.from_ j 1] := by have := hc2.rd (off := 3) (n := 1) (by simp); simpa using this
    have hg0 : (ahd ++ [xs[i]]).getD 0 0 = (ahd ++ [xs[i]])[0]'(by simp) := by simp
    obtain ⟨gv, hgv⟩ : ∃ gv, limG (limT L (pkTo (ahd ++ [xs[i]]) (ahd ++ [xs[i]]).length)) (fbin .add .f32 gn rise) = gv := ⟨_, rfl⟩
    unfold limS at s1 s2
    simp only [hg0, hgv] at s1 s2
    have s1H : Hid ((outTo (limS L rise) (gain, ah) xs (i + 1)).map fl = (outTo (limS L rise) (gain, ah) xs i).map fl ++ [[.flt .f32 (clipF L (fbin .mul .f32 ((ahd ++ [xs[i]])[0]'(by simp)) gv))]]) := s1
    have s2H : Hid (stTo (limS L rise) (gain, ah) xs (i + 1) = (gv, (ahd ++ [xs[i]]).drop 1)) := s2
    clear hK s1 s2 hg0 hC hC1 hCl
    repeat' (first | (simp (disch := first | omega | assumption | (simp only [List.length_set]; omega) | (simp [*] <;> fail) | assumption) [-Bool.decide_and, -Bool.decide_or, -Bool.not_and, -Bool.not_or, toNat_pred, toNat_succ, wrap64, wr_new, wr_new0, ok_if, ok_ifn, iadV_sl, makeV_int, decT, decF, over_at, *, hA1.len, hA1.at_, hA1.at_', hA1.rd, hA1.rdIn, hA1.rdIn0, hA1.rdA, hA1.rdInA, hA1.rdIn0A, hA1.rd1, fl]) | (with_reducible refine Gd_split (fun hc => ?_) (fun hc => ?_) <;> (have hc2 := hc; try simp at hc2)) | (with_reducible refine Br_split (fun hc => ?_) (fun hc => ?_) <;> (have hc2 := hc; try simp at hc2)) | (with_reducible refine GdT_split (fun hc => ?_) (fun hc => ?_) <;> (have hc2 := hc; try simp at hc2)) | (with_reducible refine WT_alt ?_ ?_) | omega)
    refine c_copyNumbers hSm (by omega) (by omega) fun c1 g1 hC1 => ?_
    repeat' (first | (simp (disch := first | omega | assumption | (simp only [List.length_set]; omega) | (simp [*] <;> fail) | assumption) [-Bool.decide_and, -Bool.decide_or, -Bool.not_and, -Bool.not_or, toNat_pred, toNat_succ, wrap64, wr_new, wr_new0, ok_if, ok_ifn, iadV_sl, makeV_int, decT, decF, over_at, *, leavesAll, fillL]) | (with_reducible refine Gd_split (fun hc => ?_) (fun hc => ?_) <;> (have hc2 := hc; try simp at hc2)) | (with_reducible refine Br_split (fun hc => ?_) (fun hc => ?_) <;> (have hc2 := hc; try simp at hc2)) | (with_reducible refine GdT_split (fun hc => ?_) (fun hc => ?_) <;> (have hc2 := hc; try simp at hc2)) | (with_reducible refine WT_alt ?_ ?_) | omega)
    refine oc_push (bytes := 4) (r := [.flt .f32 xs[i]]) hC1 ?_ ?_ ?_ (by decide) rfl (by decide)
    · omega
    · simp; omega
    intro al2 g2 hA2 hB2
    have hA2' : New g g2 al2 50 1 ((ahd ++ [xs[i]]).map fl) := by rw [List.map_append]; exact hA2
    have hk2 := hA2'.kept
    have hk21 := hk2.1
    have hc2' := hc2.kept hk2
    have hc5' := hc5.kept hk2
    have hlt2' := hc2'.lt
    have hN2 := hN.later hk2
    have hfo : Far o al2 := fun q1 q2 => by have := (hN.lt q1).2; have := (hA2'.lt q2).1; omega
    have nal2 : Not al2 h.length := fun q => by have := (hA2'.lt q).1; omega
    have nal5 : Not al2 (h.length + 1) := fun q => by have := (hA2'.lt q).1; omega
    have hall : ∀ y ∈ ahd ++ [xs[i]], CF y := fun y hy => by
      rcases List.mem_append.1 hy with q | q
      · exact hz2 y q
      · simp only [List.mem_singleton] at q; subst q; exact hxi
    have hpk := fun lim K => c_peakOf (S := S) (lim := lim) (K := K) hA2'.arr hall
    have e1 : slcV 1 (.lf al2) (some (.lf (.int .i64 1))) none = some (.lf (al2.from_ 1 1)) := slcV_from (j := 1) hA2'.arr (by decide) (by simp)
    have q0 : rdCells g2 h.length 0 1 = some [.flt .f32 L] := by have := hc2'.rd (off := 0) (n := 1) (by simp); simpa using this
    have q1 : rdCells g2 h.length 1 1 = some [.flt .f32 rise] := by have := hc2'.rd (off := 1) (n := 1) (by simp); simpa using this
    have q2 : rdCells g2 h.length 2 1 = some [.flt .f32 gn] := by have := hc2'.rd (off := 2) (n := 1) (by simp); simpa using this
    have w2 : ∀ q, wrCells lim g2 h.length 2 [.flt .f32 q] = some (g2.set h.length ⟨[.flt .f32 L, .flt .f32 rise, .flt .f32 q, al.from_ j 1], .own 91 1⟩) := fun q => by
      rw [wr_get1 hc2' hl (by simp)]; rfl
    have w3 : ∀ q s, wrCells lim (g2.set h.length ⟨[.flt .f32 L, .flt .f32 rise, .flt .f32 q, al.from_ j 1], .own 91 1⟩) h.length 3 [s] = some (g2.set h.length ⟨[.flt .f32 L, .flt .f32 rise, .flt .f32 q, s], .own 91 1⟩) := fun q s => by
      rw [wr_set1 hlt2' hl (by simp)]; rfl
    have h0l : 0 < (ahd ++ [xs[i]]).length := by simp
    generalize pkTo (ahd ++ [xs[i]]) (ahd ++ [xs[i]]).length = pk at *
    clear hA2 hB2 hC1 hM hc2 hc5 hA1 q3 hSm hdrop hN na2 na5 hf
    unfold limG limT at hgv
    cases hT0 : fcmp .gtr .f32 pk L
    · rw [hT0] at hgv
      simp only [Bool.false_eq_true, if_false] at hgv
      cases hG0 : fcmp .lss .f32 1065353216 (fbin .add .f32 gn rise)
      · cases hG1 : fcmp .neq .f32 (fbin .add .f32 gn rise) (fbin .add .f32 gn rise)
        · rw [hG0, hG1] at hgv
          simp only [Bool.or_self, Bool.false_eq_true, if_false] at hgv
          subst hgv
          repeat' (first | (simp (disch := first | omega | assumption | (simp only [List.length_set]; omega) | (simp [*] <;> fail) | assumption) [-Bool.decide_and, -Bool.decide_or, -Bool.not_and, -Bool.not_or, toNat_pred, toNat_succ, wrap64, wr_new, wr_new0, ok_if, ok_ifn, iadV_sl, makeV_int, decT, decF, over_at, *]) | (with_reducible refine Gd_split (fun hc => ?_) (fun hc => ?_) <;> (have hc2 := hc; try simp at hc2)) | (with_reducible refine Br_split (fun hc => ?_) (fun hc => ?_) <;> (have hc2 := hc; try simp at hc2)) | (with_reducible refine GdT_split (fun hc => ?_) (fun hc => ?_) <;> (have hc2 := hc; try simp at hc2)) | (with_reducible refine WT_alt ?_ ?_) | omega)
          have hP := Cel.put (ty := 91) (new := [.flt .f32 L, .flt .f32 rise, .flt .f32 (fbin .add .f32 gn rise), al2.from_ 1 1]) hlt2'
          have p0 : rdCells (g2.set h.length ⟨[.flt .f32 L, .flt .f32 rise, .flt .f32 (fbin .add .f32 gn rise), al2.from_ 1 1], .own 91 1⟩) h.length 0 1 = some [.flt .f32 L] := by have := hP.rd (off := 0) (n := 1) (by simp); simpa using this
          have hA3 := (hA2'.base hk).set_other (o := ⟨[.flt .f32 L, .flt .f32 rise, .flt .f32 (fbin .add .f32 gn rise), al2.from_ 1 1], .own 91 1⟩) (Nat.le_refl _) nal2
          have hN3 := hN2.set_other (o := ⟨[.flt .f32 L, .flt .f32 rise, .flt .f32 (fbin .add .f32 gn rise), al2.from_ 1 1], .own 91 1⟩) (Nat.le_refl _) no2
          have hc53 := hc5'.set (o := ⟨[.flt .f32 L, .flt .f32 rise, .flt .f32 (fbin .add .f32 gn rise), al2.from_ 1 1], .own 91 1⟩) (id2 := h.length) (by omega)
          have hR := hA3.arr
          have hcl := fun h lim K => c_clipped (S := S) (h := h) (lim := lim) (K := K) (y := L) (show CF (fbin .mul .f32 (ahd ++ [xs[i]])[0] (fbin .add .f32 gn rise)) from CF_bin)
          generalize clipF L (fbin .mul .f32 (ahd ++ [xs[i]])[0] (fbin .add .f32 gn rise)) = ov at *
          clear hT0 hG0
          repeat' (first | (simp (disch := first | omega | assumption | (simp only [List.length_set]; omega) | (simp [*] <;> fail) | assumption) [-Bool.decide_and, -Bool.decide_or, -Bool.not_and, -Bool.not_or, toNat_pred, toNat_succ, wrap64, wr_new, wr_new0, ok_if, ok_ifn, iadV_sl, makeV_int, decT, decF, over_at, *, hR.at0, hR.rd0, hR.rd0j, hR.rd0A, hR.rd0jA, fl, leavesAll, fillL]) | (with_reducible refine Gd_split (fun hc => ?_) (fun hc => ?_) <;> (have hc2 := hc; try simp at hc2)) | (with_reducible refine Br_split (fun hc => ?_) (fun hc => ?_) <;> (have hc2 := hc; try simp at hc2)) | (with_reducible refine GdT_split (fun hc => ?_) (fun hc => ?_) <;> (have hc2 := hc; try simp at hc2)) | (with_reducible refine WT_alt ?_ ?_) | omega)
          refine oc_pushS (hN3.app (t := [⟨[.flt .f32 ov], .own 50 1⟩])) (r := [.flt .f32 ov]) (by simp [rdCells, List.getElem?_append_right, Ob.live]) hl (by simp; omega) fun o2 g5 hN5 hB5 => ?_
          obtain ⟨hA5, hf5⟩ := hB5.other (hN3.app (t := [⟨[.flt .f32 ov], .own 50 1⟩])) (hA3.app (t := [⟨[.flt .f32 ov], .own 50 1⟩])) hfo
          have d2 := (hP.app (t := [⟨[.flt .f32 ov], .own 50 1⟩])).but hB5 fun q => (no2 q).symm
          have d5 := (hc53.app (t := [⟨[.flt .f32 ov], .own 50 1⟩])).but hB5 fun q => (no5 q).symm
          have n2 := no2.but hB5 (by simp; omega)
          have n5 := no5.but hB5 (by simp; omega)
          rw [← show (outTo (limS L rise) (gain, ah) xs (i + 1)).map fl = _ from s1H] at hN5
          clear hB5 hP p0 hA3 hN3 hc53 hR hcl
          repeat' (first | (simp (disch := first | omega | assumption | (simp only [List.length_set]; omega) | (simp [*] <;> fail) | assumption) [-Bool.decide_and, -Bool.decide_or, -Bool.not_and, -Bool.not_or, toNat_pred, toNat_succ, wrap64, wr_new, wr_new0, ok_if, ok_ifn, iadV_sl, makeV_int, decT, decF, over_at, *]) | (with_reducible refine Gd_split (fun hc => ?_) (fun hc => ?_) <;> (have hc2 := hc; try simp at hc2)) | (with_reducible refine Br_split (fun hc => ?_) (fun hc => ?_) <;> (have hc2 := hc; try simp at hc2)) | (with_reducible refine GdT_split (fun hc => ?_) (fun hc => ?_) <;> (have hc2 := hc; try simp at hc2)) | (with_reducible refine WT_alt ?_ ?_) | omega)
          exact ⟨hlt, _, _, hA5, 1, by simp, by simp; omega, by rw [show stTo (limS L rise) (gain, ah) xs (i + 1) = _ from s2H], by rw [show stTo (limS L rise) (gain, ah) xs (i + 1) = _ from s2H]; exact d2, nal2, nal5, hf5⟩
        · rw [hG0, hG1] at hgv
          simp only [Bool.or_true, if_true] at hgv
          subst hgv
          repeat' (first | (simp (disch := first | omega | assumption | (simp only [List.length_set]; omega) | (simp [*] <;> fail) | assumption) [-Bool.decide_and, -Bool.decide_or, -Bool.not_and, -Bool.not_or, toNat_pred, toNat_succ, wrap64, wr_new, wr_new0, ok_if, ok_ifn, iadV_sl, makeV_int, decT, decF, over_at, *]) | (with_reducible refine Gd_split (fun hc => ?_) (fun hc => ?_) <;> (have hc2 := hc; try simp at hc2)) | (with_reducible refine Br_split (fun hc => ?_) (fun hc => ?_) <;> (have hc2 := hc; try simp at hc2)) | (with_reducible refine GdT_split (fun hc => ?_) (fun hc => ?_) <;> (have hc2 := hc; try simp at hc2)) | (with_reducible refine WT_alt ?_ ?_) | omega)
          have hP := Cel.put (ty := 91) (new := [.flt .f32 L, .flt .f32 rise, .flt .f32 1065353216, al2.from_ 1 1]) hlt2'
          have p0 : rdCells (g2.set h.length ⟨[.flt .f32 L, .flt .f32 rise, .flt .f32 1065353216, al2.from_ 1 1], .own 91 1⟩) h.length 0 1 = some [.flt .f32 L] := by have := hP.rd (off := 0) (n := 1) (by simp); simpa using this
          have hA3 := (hA2'.base hk).set_other (o := ⟨[.flt .f32 L, .flt .f32 rise, .flt .f32 1065353216, al2.from_ 1 1], .own 91 1⟩) (Nat.le_refl _) nal2
          have hN3 := hN2.set_other (o := ⟨[.flt .f32 L, .flt .f32 rise, .flt .f32 1065353216, al2.from_ 1 1], .own 91 1⟩) (Nat.le_refl _) no2
          have hc53 := hc5'.set (o := ⟨[.flt .f32 L, .flt .f32 rise, .flt .f32 1065353216, al2.from_ 1 1], .own 91 1⟩) (id2 := h.length) (by omega)
          have hR := hA3.arr
          have hcl := fun h lim K => c_clipped (S := S) (h := h) (lim := lim) (K := K) (y := L) (show CF (fbin .mul .f32 (ahd ++ [xs[i]])[0] 1065353216) from CF_bin)
          generalize clipF L (fbin .mul .f32 (ahd ++ [xs[i]])[0] 1065353216) = ov at *
          clear hT0 hG0
          repeat' (first | (simp (disch := first | omega | assumption | (simp only [List.length_set]; omega) | (simp [*] <;> fail) | assumption) [-Bool.decide_and, -Bool.decide_or, -Bool.not_and, -Bool.not_or, toNat_pred, toNat_succ, wrap64, wr_new, wr_new0, ok_if, ok_ifn, iadV_sl, makeV_int, decT, decF, over_at, *, hR.at0, hR.rd0, hR.rd0j, hR.rd0A, hR.rd0jA, fl, leavesAll, fillL]) | (with_reducible refine Gd_split (fun hc => ?_) (fun hc => ?_) <;> (have hc2 := hc; try simp at hc2)) | (with_reducible refine Br_split (fun hc => ?_) (fun hc => ?_) <;> (have hc2 := hc; try simp at hc2)) | (with_reducible refine GdT_split (fun hc => ?_) (fun hc => ?_) <;> (have hc2 := hc; try simp at hc2)) | (with_reducible refine WT_alt ?_ ?_) | omega)
          refine oc_pushS (hN3.app (t := [⟨[.flt .f32 ov], .own 50 1⟩])) (r := [.flt .f32 ov]) (by simp [rdCells, List.getElem?_append_right, Ob.live]) hl (by simp; omega) fun o2 g5 hN5 hB5 => ?_
          obtain ⟨hA5, hf5⟩ := hB5.other (hN3.app (t := [⟨[.flt .f32 ov], .own 50 1⟩])) (hA3.app (t := [⟨[.flt .f32 ov], .own 50 1⟩])) hfo
          have d2 := (hP.app (t := [⟨[.flt .f32 ov], .own 50 1⟩])).but hB5 fun q => (no2 q).symm
          have d5 := (hc53.app (t := [⟨[.flt .f32 ov], .own 50 1⟩])).but hB5 fun q => (no5 q).symm
          have n2 := no2.but hB5 (by simp; omega)
          have n5 := no5.but hB5 (by simp; omega)
          rw [← show (outTo (limS L rise) (gain, ah) xs (i + 1)).map fl = _ from s1H] at hN5
          clear hB5 hP p0 hA3 hN3 hc53 hR hcl
          repeat' (first | (simp (disch := first | omega | assumption | (simp only [List.length_set]; omega) | (simp [*] <;> fail) | assumption) [-Bool.decide_and, -Bool.decide_or, -Bool.not_and, -Bool.not_or, toNat_pred, toNat_succ, wrap64, wr_new, wr_new0, ok_if, ok_ifn, iadV_sl, makeV_int, decT, decF, over_at, *]) | (with_reducible refine Gd_split (fun hc => ?_) (fun hc => ?_) <;> (have hc2 := hc; try simp at hc2)) | (with_reducible refine Br_split (fun hc => ?_) (fun hc => ?_) <;> (have hc2 := hc; try simp at hc2)) | (with_reducible refine GdT_split (fun hc => ?_) (fun hc => ?_) <;> (have hc2 := hc; try simp at hc2)) | (with_reducible refine WT_alt ?_ ?_) | omega)
          exact ⟨hlt, _, _, hA5, 1, by simp, by simp; omega, by rw [show stTo (limS L rise) (gain, ah) xs (i + 1) = _ from s2H], by rw [show stTo (limS L rise) (gain, ah) xs (i + 1) = _ from s2H]; exact d2, nal2, nal5, hf5⟩
      · rw [hG0] at hgv
        simp only [Bool.true_or, if_true] at hgv
        subst hgv
        repeat' (first | (simp (disch := first | omega | assumption | (simp only [List.length_set]; omega) | (simp [*] <;> fail) | assumption) [-Bool.decide_and, -Bool.decide_or, -Bool.not_and, -Bool.not_or, toNat_pred, toNat_succ, wrap64, wr_new, wr_new0, ok_if, ok_ifn, iadV_sl, makeV_int, decT, decF, over_at, *]) | (with_reducible refine Gd_split (fun hc => ?_) (fun hc => ?_) <;> (have hc2 := hc; try simp at hc2)) | (with_reducible refine Br_split (fun hc => ?_) (fun hc => ?_) <;> (have hc2 := hc; try simp at hc2)) | (with_reducible refine GdT_split (fun hc => ?_) (fun hc => ?_) <;> (have hc2 := hc; try simp at hc2)) | (with_reducible refine WT_alt ?_ ?_) | omega)
        have hP := Cel.put (ty := 91) (new := [.flt .f32 L, .flt .f32 rise, .flt .f32 1065353216, al2.from_ 1 1]) hlt2'
        have p0 : rdCells (g2.set h.length ⟨[.flt .f32 L, .flt .f32 rise, .flt .f32 1065353216, al2.from_ 1 1], .own 91 1⟩) h.length 0 1 = some [.flt .f32 L] := by have := hP.rd (off := 0) (n := 1) (by simp); simpa using this
        have hA3 := (hA2'.base hk).set_other (o := ⟨[.flt .f32 L, .flt .f32 rise, .flt .f32 1065353216, al2.from_ 1 1], .own 91 1⟩) (Nat.le_refl _) nal2
        have hN3 := hN2.set_other (o := ⟨[.flt .f32 L, .flt .f32 rise, .flt .f32 1065353216, al2.from_ 1 1], .own 91 1⟩) (Nat.le_refl _) no2
        have hc53 := hc5'.set (o := ⟨[.flt .f32 L, .flt .f32 rise, .flt .f32 1065353216, al2.from_ 1 1], .own 91 1⟩) (id2 := h.length) (by omega)
        have hR := hA3.arr
        have hcl := fun h lim K => c_clipped (S := S) (h := h) (lim := lim) (K := K) (y := L) (show CF (fbin .mul .f32 (ahd ++ [xs[i]])[0] 1065353216) from CF_bin)
        generalize clipF L (fbin .mul .f32 (ahd ++ [xs[i]])[0] 1065353216) = ov at *
        clear hT0 hG0
        repeat' (first | (simp (disch := first | omega | assumption | (simp only [List.length_set]; omega) | (simp [*] <;> fail) | assumption) [-Bool.decide_and, -Bool.decide_or, -Bool.not_and, -Bool.not_or, toNat_pred, toNat_succ, wrap64, wr_new, wr_new0, ok_if, ok_ifn, iadV_sl, makeV_int, decT, decF, over_at, *, hR.at0, hR.rd0, hR.rd0j, hR.rd0A, hR.rd0jA, fl, leavesAll, fillL]) | (with_reducible refine Gd_split (fun hc => ?_) (fun hc => ?_) <;> (have hc2 := hc; try simp at hc2)) | (with_reducible refine Br_split (fun hc => ?_) (fun hc => ?_) <;> (have hc2 := hc; try simp at hc2)) | (with_reducible refine GdT_split (fun hc => ?_) (fun hc => ?_) <;> (have hc2 := hc; try simp at hc2)) | (with_reducible refine WT_alt ?_ ?_) | omega)
        refine oc_pushS (hN3.app (t := [⟨[.flt .f32 ov], .own 50 1⟩])) (r := [.flt .f32 ov]) (by simp [rdCells, List.getElem?_append_right, Ob.live]) hl (by simp; omega) fun o2 g5 hN5 hB5 => ?_
        obtain ⟨hA5, hf5⟩ := hB5.other (hN3.app (t := [⟨[.flt .f32 ov], .own 50 1⟩])) (hA3.app (t := [⟨[.flt .f32 ov], .own 50 1⟩])) hfo
        have d2 := (hP.app (t := [⟨[.flt .f32 ov], .own 50 1⟩])).but hB5 fun q => (no2 q).symm
        have d5 := (hc53.app (t := [⟨[.flt .f32 ov], .own 50 1⟩])).but hB5 fun q => (no5 q).symm
        have n2 := no2.but hB5 (by simp; omega)
        have n5 := no5.but hB5 (by simp; omega)
        rw [← show (outTo (limS L rise) (gain, ah) xs (i + 1)).map fl = _ from s1H] at hN5
        clear hB5 hP p0 hA3 hN3 hc53 hR hcl
        repeat' (first | (simp (disch := first | omega | assumption | (simp only [List.length_set]; omega) | (simp [*] <;> fail) | assumption) [-Bool.decide_and, -Bool.decide_or, -Bool.not_and, -Bool.not_or, toNat_pred, toNat_succ, wrap64, wr_new, wr_new0, ok_if, ok_ifn, iadV_sl, makeV_int, decT, decF, over_at, *]) | (with_reducible refine Gd_split (fun hc => ?_) (fun hc => ?_) <;> (have hc2 := hc; try simp at hc2)) | (with_reducible refine Br_split (fun hc => ?_) (fun hc => ?_) <;> (have hc2 := hc; try simp at hc2)) | (with_reducible refine GdT_split (fun hc => ?_) (fun hc => ?_) <;> (have hc2 := hc; try simp at hc2)) | (with_reducible refine WT_alt ?_ ?_) | omega)
        exact ⟨hlt, _, _, hA5, 1, by simp, by simp; omega, by rw [show stTo (limS L rise) (gain, ah) xs (i + 1) = _ from s2H], by rw [show stTo (limS L rise) (gain, ah) xs (i + 1) = _ from s2H]; exact d2, nal2, nal5, hf5⟩
    · rw [hT0] at hgv
      simp only [if_true] at hgv
      cases hG0 : fcmp .lss .f32 (fbin .quo .f32 L pk) (fbin .add .f32 gn rise)
      · cases hG1 : fcmp .neq .f32 (fbin .add .f32 gn rise) (fbin .add .f32 gn rise)
        · rw [hG0, hG1] at hgv
          simp only [Bool.or_self, Bool.false_eq_true, if_false] at hgv
          subst hgv
          repeat' (first | (simp (disch := first | omega | assumption | (simp only [List.length_set]; omega) | (simp [*] <;> fail) | assumption) [-Bool.decide_and, -Bool.decide_or, -Bool.not_and, -Bool.not_or, toNat_pred, toNat_succ, wrap64, wr_new, wr_new0, ok_if, ok_ifn, iadV_sl, makeV_int, decT, decF, over_at, *]) | (with_reducible refine Gd_split (fun hc => ?_) (fun hc => ?_) <;> (have hc2 := hc; try simp at hc2)) | (with_reducible refine Br_split (fun hc => ?_) (fun hc => ?_) <;> (have hc2 := hc; try simp at hc2)) | (with_reducible refine GdT_split (fun hc => ?_) (fun hc => ?_) <;> (have hc2 := hc; try simp at hc2)) | (with_reducible refine WT_alt ?_ ?_) | omega)
          have hP := Cel.put (ty := 91) (new := [.flt .f32 L, .flt .f32 rise, .flt .f32 (fbin .add .f32 gn rise), al2.from_ 1 1]) hlt2'
          have p0 : rdCells (g2.set h.length ⟨[.flt .f32 L, .flt .f32 rise, .flt .f32 (fbin .add .f32 gn rise), al2.from_ 1 1], .own 91 1⟩) h.length 0 1 = some [.flt .f32 L] := by have := hP.rd (off := 0) (n := 1) (by simp); simpa using this
          have hA3 := (hA2'.base hk).set_other (o := ⟨[.flt .f32 L, .flt .f32 rise, .flt .f32 (fbin .add .f32 gn rise), al2.from_ 1 1], .own 91 1⟩) (Nat.le_refl _) nal2
          have hN3 := hN2.set_other (o := ⟨[.flt .f32 L, .flt .f32 rise, .flt .f32 (fbin .add .f32 gn rise), al2.from_ 1 1], .own 91 1⟩) (Nat.le_refl _) no2
          have hc53 := hc5'.set (o := ⟨[.flt .f32 L, .flt .f32 rise, .flt .f32 (fbin .add .f32 gn rise), al2.from_ 1 1], .own 91 1⟩) (id2 := h.length) (by omega)
          have hR := hA3.arr
          have hcl := fun h lim K => c_clipped (S := S) (h := h) (lim := lim) (K := K) (y := L) (show CF (fbin .mul .f32 (ahd ++ [xs[i]])[0] (fbin .add .f32 gn rise)) from CF_bin)
          generalize clipF L (fbin .mul .f32 (ahd ++ [xs[i]])[0] (fbin .add .f32 gn rise)) = ov at *
          clear hT0 hG0
          repeat' (first | (simp (disch := first | omega | assumption | (simp only [List.length_set]; omega) | (simp [*] <;> fail) | assumption) [-Bool.decide_and, -Bool.decide_or, -Bool.not_and, -Bool.not_or, toNat_pred, toNat_succ, wrap64, wr_new, wr_new0, ok_if, ok_ifn, iadV_sl, makeV_int, decT, decF, over_at, *, hR.at0, hR.rd0, hR.rd0j, hR.rd0A, hR.rd0jA, fl, leavesAll, fillL]) | (with_reducible refine Gd_split (fun hc => ?_) (fun hc => ?_) <;> (have hc2 := hc; try simp at hc2)) | (with_reducible refine Br_split (fun hc => ?_) (fun hc => ?_) <;> (have hc2 := hc; try simp at hc2)) | (with_reducible refine GdT_split (fun hc => ?_) (fun hc => ?_) <;> (have hc2 := hc; try simp at hc2)) | (with_reducible refine WT_alt ?_ ?_) | omega)
          refine oc_pushS (hN3.app (t := [⟨[.flt .f32 ov], .own 50 1⟩])) (r := [.flt .f32 ov]) (by simp [rdCells, List.getElem?_append_right, Ob.live]) hl (by simp; omega) fun o2 g5 hN5 hB5 => ?_
          obtain ⟨hA5, hf5⟩ := hB5.other (hN3.app (t := [⟨[.flt .f32 ov], .own 50 1⟩])) (hA3.app (t := [⟨[.flt .f32 ov], .own 50 1⟩])) hfo
          have d2 := (hP.app (t := [⟨[.flt .f32 ov], .own 50 1⟩])).but hB5 fun q => (no2 q).symm
          have d5 := (hc53.app (t := [⟨[.flt .f32 ov], .own 50 1⟩])).but hB5 fun q => (no5 q).symm
          have n2 := no2.but hB5 (by simp; omega)
          have n5 := no5.but hB5 (by simp; omega)
          rw [← show (outTo (limS L rise) (gain, ah) xs (i + 1)).map fl = _ from s1H] at hN5
          clear hB5 hP p0 hA3 hN3 hc53 hR hcl
          repeat' (first | (simp (disch := first | omega | assumption | (simp only [List.length_set]; omega) | (simp [*] <;> fail) | assumption) [-Bool.decide_and, -Bool.decide_or, -Bool.not_and, -Bool.not_or, toNat_pred, toNat_succ, wrap64, wr_new, wr_new0, ok_if, ok_ifn, iadV_sl, makeV_int, decT, decF, over_at, *]) | (with_reducible refine Gd_split (fun hc => ?_) (fun hc => ?_) <;> (have hc2 := hc; try simp at hc2)) | (with_reducible refine Br_split (fun hc => ?_) (fun hc => ?_) <;> (have hc2 := hc; try simp at hc2)) | (with_reducible refine GdT_split (fun hc => ?_) (fun hc => ?_) <;> (have hc2 := hc; try simp at hc2)) | (with_reducible refine WT_alt ?_ ?_) | omega)
          exact ⟨hlt, _, _, hA5, 1, by simp, by simp; omega, by rw [show stTo (limS L rise) (gain, ah) xs (i + 1) = _ from s2H], by rw [show stTo (limS L rise) (gain, ah) xs (i + 1) = _ from s2H]; exact d2, nal2, nal5, hf5⟩
        · rw [hG0, hG1] at hgv
          simp only [Bool.or_true, if_true] at hgv
          subst hgv
          repeat' (first | (simp (disch := first | omega | assumption | (simp only [List.length_set]; omega) | (simp [*] <;> fail) | assumption) [-Bool.decide_and, -Bool.decide_or, -Bool.not_and, -Bool.not_or, toNat_pred, toNat_succ, wrap64, wr_new, wr_new0, ok_if, ok_ifn, iadV_sl, makeV_int, decT, decF, over_at, *]) | (with_reducible refine Gd_split (fun hc => ?_) (fun hc => ?_) <;> (have hc2 := hc; try simp at hc2)) | (with_reducible refine Br_split (fun hc => ?_) (fun hc => ?_) <;> (have hc2 := hc; try simp at hc2)) | (with_reducible refine GdT_split (fun hc => ?_) (fun hc => ?_) <;> (have hc2 := hc; try simp at hc2)) | (with_reducible refine WT_alt ?_ ?_) | omega)
          have hP := Cel.put (ty := 91) (new := [.flt .f32 L, .flt .f32 rise, .flt .f32 (fbin .quo .f32 L pk), al2.from_ 1 1]) hlt2'
          have p0 : rdCells (g2.set h.length ⟨[.flt .f32 L, .flt .f32 rise, .flt .f32 (fbin .quo .f32 L pk), al2.from_ 1 1], .own 91 1⟩) h.length 0 1 = some [.flt .f32 L] := by have := hP.rd (off := 0) (n := 1) (by simp); simpa using this
          have hA3 := (hA2'.base hk).set_other (o := ⟨[.flt .f32 L, .flt .f32 rise, .flt .f32 (fbin .quo .f32 L pk), al2.from_ 1 1], .own 91 1⟩) (Nat.le_refl _) nal2
          have hN3 := hN2.set_other (o := ⟨[.flt .f32 L, .flt .f32 rise, .flt .f32 (fbin .quo .f32 L pk), al2.from_ 1 1], .own 91 1⟩) (Nat.le_refl _) no2
          have hc53 := hc5'.set (o := ⟨[.flt .f32 L, .flt .f32 rise, .flt .f32 (fbin .quo .f32 L pk), al2.from_ 1 1], .own 91 1⟩) (id2 := h.length) (by omega)
          have hR := hA3.arr
          have hcl := fun h lim K => c_clipped (S := S) (h := h) (lim := lim) (K := K) (y := L) (show CF (fbin .mul .f32 (ahd ++ [xs[i]])[0] (fbin .quo .f32 L pk)) from CF_bin)
          generalize clipF L (fbin .mul .f32 (ahd ++ [xs[i]])[0] (fbin .quo .f32 L pk)) = ov at *
          clear hT0 hG0
          repeat' (first | (simp (disch := first | omega | assumption | (simp only [List.length_set]; omega) | (simp [*] <;> fail) | assumption) [-Bool.decide_and, -Bool.decide_or, -Bool.not_and, -Bool.not_or, toNat_pred, toNat_succ, wrap64, wr_new, wr_new0, ok_if, ok_ifn, iadV_sl, makeV_int, decT, decF, over_at, *, hR.at0, hR.rd0, hR.rd0j, hR.rd0A, hR.rd0jA, fl, leavesAll, fillL]) | (with_reducible refine Gd_split (fun hc => ?_) (fun hc => ?_) <;> (have hc2 := hc; try simp at hc2)) | (with_reducible refine Br_split (fun hc => ?_) (fun hc => ?_) <;> (have hc2 := hc; try simp at hc2)) | (with_reducible refine GdT_split (fun hc => ?_) (fun hc => ?_) <;> (have hc2 := hc; try simp at hc2)) | (with_reducible refine WT_alt ?_ ?_) | omega)
          refine oc_pushS (hN3.app (t := [⟨[.flt .f32 ov], .own 50 1⟩])) (r := [.flt .f32 ov]) (by simp [rdCells, List.getElem?_append_right, Ob.live]) hl (by simp; omega) fun o2 g5 hN5 hB5 => ?_
          obtain ⟨hA5, hf5⟩ := hB5.other (hN3.app (t := [⟨[.flt .f32 ov], .own 50 1⟩])) (hA3.app (t := [⟨[.flt .f32 ov], .own 50 1⟩])) hfo
          have d2 := (hP.app (t := [⟨[.flt .f32 ov], .own 50 1⟩])).but hB5 fun q => (no2 q).symm
          have d5 := (hc53.app (t := [⟨[.flt .f32 ov], .own 50 1⟩])).but hB5 fun q => (no5 q).symm
          have n2 := no2.but hB5 (by simp; omega)
          have n5 := no5.but hB5 (by simp; omega)
          rw [← show (outTo (limS L rise) (gain, ah) xs (i + 1)).map fl = _ from s1H] at hN5
          clear hB5 hP p0 hA3 hN3 hc53 hR hcl
          repeat' (first | (simp (disch := first | omega | assumption | (simp only [List.length_set]; omega) | (simp [*] <;> fail) | assumption) [-Bool.decide_and, -Bool.decide_or, -Bool.not_and, -Bool.not_or, toNat_pred, toNat_succ, wrap64, wr_new, wr_new0, ok_if, ok_ifn, iadV_sl, makeV_int, decT, decF, over_at, *]) | (with_reducible refine Gd_split (fun hc => ?_) (fun hc => ?_) <;> (have hc2 := hc; try simp at hc2)) | (with_reducible refine Br_split (fun hc => ?_) (fun hc => ?_) <;> (have hc2 := hc; try simp at hc2)) | (with_reducible refine GdT_split (fun hc => ?_) (fun hc => ?_) <;> (have hc2 := hc; try simp at hc2)) | (with_reducible refine WT_alt ?_ ?_) | omega)
          exact ⟨hlt, _, _, hA5, 1, by simp, by simp; omega, by rw [show stTo (limS L rise) (gain, ah) xs (i + 1) = _ from s2H], by rw [show stTo (limS L rise) (gain, ah) xs (i + 1) = _ from s2H]; exact d2, nal2, nal5, hf5⟩
      · rw [hG0] at hgv
        simp only [Bool.true_or, if_true] at hgv
        subst hgv
        repeat' (first | (simp (disch := first | omega | assumption | (simp only [List.length_set]; omega) | (simp [*] <;> fail) | assumption) [-Bool.decide_and, -Bool.decide_or, -Bool.not_and, -Bool.not_or, toNat_pred, toNat_succ, wrap64, wr_new, wr_new0, ok_if, ok_ifn, iadV_sl, makeV_int, decT, decF, over_at, *]) | (with_reducible refine Gd_split (fun hc => ?_) (fun hc => ?_) <;> (have hc2 := hc; try simp at hc2)) | (with_reducible refine Br_split (fun hc => ?_) (fun hc => ?_) <;> (have hc2 := hc; try simp at hc2)) | (with_reducible refine GdT_split (fun hc => ?_) (fun hc => ?_) <;> (have hc2 := hc; try simp at hc2)) | (with_reducible refine WT_alt ?_ ?_) | omega)
        have hP := Cel.put (ty := 91) (new := [.flt .f32 L, .flt .f32 rise, .flt .f32 (fbin .quo .f32 L pk), al2.from_ 1 1]) hlt2'
        have p0 : rdCells (g2.set h.length ⟨[.flt .f32 L, .flt .f32 rise, .flt .f32 (fbin .quo .f32 L pk), al2.from_ 1 1], .own 91 1⟩) h.length 0 1 = some [.flt .f32 L] := by have := hP.rd (off := 0) (n := 1) (by simp); simpa using this
        have hA3 := (hA2'.base hk).set_other (o := ⟨[.flt .f32 L, .flt .f32 rise, .flt .f32 (fbin .quo .f32 L pk), al2.from_ 1 1], .own 91 1⟩) (Nat.le_refl _) nal2
        have hN3 := hN2.set_other (o := ⟨[.flt .f32 L, .flt .f32 rise, .flt .f32 (fbin .quo .f32 L pk), al2.from_ 1 1], .own 91 1⟩) (Nat.le_refl _) no2
        have hc53 := hc5'.set (o := ⟨[.flt .f32 L, .flt .f32 rise, .flt .f32 (fbin .quo .f32 L pk), al2.from_ 1 1], .own 91 1⟩) (id2 := h.length) (by omega)
        have hR := hA3.arr
        have hcl := fun h lim K => c_clipped (S := S) (h := h) (lim := lim) (K := K) (y := L) (show CF (fbin .mul .f32 (ahd ++ [xs[i]])[0] (fbin .quo .f32 L pk)) from CF_bin)
        generalize clipF L (fbin .mul .f32 (ahd ++ [xs[i]])[0] (fbin .quo .f32 L pk)) = ov at *
        clear hT0 hG0
        repeat' (first | (simp (disch := first | omega | assumption | (simp only [List.length_set]; omega) | (simp [*] <;> fail) | assumption) [-Bool.decide_and, -Bool.decide_or, -Bool.not_and, -Bool.not_or, toNat_pred, toNat_succ, wrap64, wr_new, wr_new0, ok_if, ok_ifn, iadV_sl, makeV_int, decT, decF, over_at, *, hR.at0, hR.rd0, hR.rd0j, hR.rd0A, hR.rd0jA, fl, leavesAll, fillL]) | (with_reducible refine Gd_split (fun hc => ?_) (fun hc => ?_) <;> (have hc2 := hc; try simp at hc2)) | (with_reducible refine Br_split (fun hc => ?_) (fun hc => ?_) <;> (have hc2 := hc; try simp at hc2)) | (with_reducible refine GdT_split (fun hc => ?_) (fun hc => ?_) <;> (have hc2 := hc; try simp at hc2)) | (with_reducible refine WT_alt ?_ ?_) | omega)
        refine oc_pushS (hN3.app (t := [⟨[.flt .f32 ov], .own 50 1⟩])) (r := [.flt .f32 ov]) (by simp [rdCells, List.getElem?_append_right, Ob.live]) hl (by simp; omega) fun o2 g5 hN5 hB5 => ?_
        obtain ⟨hA5, hf5⟩ := hB5.other (hN3.app (t := [⟨[.flt .f32 ov], .own 50 1⟩])) (hA3.app (t := [⟨[.flt .f32 ov], .own 50 1⟩])) hfo
        have d2 := (hP.app (t := [⟨[.flt .f32 ov], .own 50 1⟩])).but hB5 fun q => (no2 q).symm
        have d5 := (hc53.app (t := [⟨[.flt .f32 ov], .own 50 1⟩])).but hB5 fun q => (no5 q).symm
        have n2 := no2.but hB5 (by simp; omega)
        have n5 := no5.but hB5 (by simp; omega)
        rw [← show (outTo (limS L rise) (gain, ah) xs (i + 1)).map fl = _ from s1H] at hN5
        clear hB5 hP p0 hA3 hN3 hc53 hR hcl
        repeat' (first | (simp (disch := first | omega | assumption | (simp only [List.length_set]; omega) | (simp [*] <;> fail) | assumption) [-Bool.decide_and, -Bool.decide_or, -Bool.not_and, -Bool.not_or, toNat_pred, toNat_succ, wrap64, wr_new, wr_new0, ok_if, ok_ifn, iadV_sl, makeV_int, decT, decF, over_at, *]) | (with_reducible refine Gd_split (fun hc => ?_) (fun hc => ?_) <;> (have hc2 := hc; try simp at hc2)) | (with_reducible refine Br_split (fun hc => ?_) (fun hc => ?_) <;> (have hc2 := hc; try simp at hc2)) | (with_reducible refine GdT_split (fun hc => ?_) (fun hc => ?_) <;> (have hc2 := hc; try simp at hc2)) | (with_reducible refine WT_alt ?_ ?_) | omega)
        exact ⟨hlt, _, _, hA5, 1, by simp, by simp; omega, by rw [show stTo (limS L rise) (gain, ah) xs (i + 1) = _ from s2H], by rw [show stTo (limS L rise) (gain, ah) xs (i + 1) = _ from s2H]; exact d2, nal2, nal5, hf5⟩
  · have : i = xs.length := by omega
    subst this
    rw [outTo_all] at hN
    rw [stTo_all] at hc2 hdrop
    rw [stTo_all] at hsz
    generalize (scan (limS L rise) (gain, ah) xs).2 = st at *
    obtain ⟨gn, ahd⟩ := st
    simp only at hdrop hc2 hsz
    have hSm : Sm g (al.from_ j 1) ahd := by rw [← hdrop]; exact (Sm.new hM).drop hj
    have hal : ahd.length ≤ 64 := by have := hsz.1; simp only at this; omega
    have q3 : rdCells g h.length 3 1 = some [al.from_ j 1] := by have := hc2.rd (off := 3) (n := 1) (by simp); simpa using this
    repeat' (first | (simp (disch := first | omega | assumption | (simp only [List.length_set]; omega) | (simp [*] <;> fail) | assumption) [-Bool.decide_and, -Bool.decide_or, -Bool.not_and, -Bool.not_or, toNat_pred, toNat_succ, wrap64, wr_new, wr_new0, ok_if, ok_ifn, iadV_sl, makeV_int, decT, decF, over_at, *]) | (with_reducible refine Gd_split (fun hc => ?_) (fun hc => ?_) <;> (have hc2 := hc; try simp at hc2)) | (with_reducible refine Br_split (fun hc => ?_) (fun hc => ?_) <;> (have hc2 := hc; try simp at hc2)) | (with_reducible refine GdT_split (fun hc => ?_) (fun hc => ?_) <;> (have hc2 := hc; try simp at hc2)) | (with_reducible refine WT_alt ?_ ?_) | omega)
    refine c_copyNumbers hSm (by omega) (by omega) fun c1 g1 hC1 => ?_
    have hk1' := hC1.kept.1
    have hc2' := hc2.kept hC1.kept
    have hc5' := hc5.kept hC1.kept
    have hlt2' := hc2'.lt
    have hN1 := hN.later hC1.kept
    have hC2 := hC1.base hk
    have hf1 : Far o c1 := fun q1 q2 => by have := (hN.lt q1).2; have := (hC1.lt q2).1; omega
    have nc2 : Not c1 h.length := fun q => by have := (hC1.lt q).1; omega
    have nc5 : Not c1 (h.length + 1) := fun q => by have := (hC1.lt q).1; omega
    have w3 : wrCells lim g1 h.length 3 [c1] = some (g1.set h.length ⟨[.flt .f32 L, .flt .f32 rise, .flt .f32 gn, c1], .own 91 1⟩) := by
      rw [wr_get1 hc2' hl (by simp)]; rfl
    have hP := Cel.put (ty := 91) (new := [.flt .f32 L, .flt .f32 rise, .flt .f32 gn, c1]) hlt2'
    have p0 : rdCells (g1.set h.length ⟨[.flt .f32 L, .flt .f32 rise, .flt .f32 gn, c1], .own 91 1⟩) h.length 0 4 = some [.flt .f32 L, .flt .f32 rise, .flt .f32 gn, c1] := hP.rd (by simp)
    have hc52 := hc5'.set (o := ⟨[.flt .f32 L, .flt .f32 rise, .flt .f32 gn, c1], .own 91 1⟩) (id2 := h.length) (by omega)
    have w5 : wrCells lim (g1.set h.length ⟨[.flt .f32 L, .flt .f32 rise, .flt .f32 gn, c1], .own 91 1⟩) (h.length + 1) 0 [.flt .f32 L, .flt .f32 rise, .flt .f32 gn, c1] = some ((g1.set h.length ⟨[.flt .f32 L, .flt .f32 rise, .flt .f32 gn, c1], .own 91 1⟩).set (h.length + 1) ⟨[.flt .f32 L, .flt .f32 rise, .flt .f32 gn, c1], .own 91 1⟩) := hc52.wr (by omega) rfl
    have p5 : rdCells ((g1.set h.length ⟨[.flt .f32 L, .flt .f32 rise, .flt .f32 gn, c1], .own 91 1⟩).set (h.length + 1) ⟨[.flt .f32 L, .flt .f32 rise, .flt .f32 gn, c1], .own 91 1⟩) (h.length + 1) 0 4 = some [.flt .f32 L, .flt .f32 rise, .flt .f32 gn, c1] := (Cel.put hc52.lt).rd (by simp)
    have hX := (hN1.set_other (o := ⟨[.flt .f32 L, .flt .f32 rise, .flt .f32 gn, c1], .own 91 1⟩) (Nat.le_refl _) no2).set_other (id := h.length + 1) (o := ⟨[.flt .f32 L, .flt .f32 rise, .flt .f32 gn, c1], .own 91 1⟩) (by omega) no5
    have hY := (hC2.set_other (o := ⟨[.flt .f32 L, .flt .f32 rise, .flt .f32 gn, c1], .own 91 1⟩) (Nat.le_refl _) nc2).set_other (id := h.length + 1) (o := ⟨[.flt .f32 L, .flt .f32 rise, .flt .f32 gn, c1], .own 91 1⟩) (by omega) nc5
    clear hc2 hc5 q3 hM hSm hc2' hc5' hN1 hC1 hC2
    repeat' (first | (simp (disch := first | omega | assumption | (simp only [List.length_set]; omega) | (simp [*] <;> fail) | assumption) [-Bool.decide_and, -Bool.decide_or, -Bool.not_and, -Bool.not_or, toNat_pred, toNat_succ, wrap64, wr_new, wr_new0, ok_if, ok_ifn, iadV_sl, makeV_int, decT, decF, over_at, *]) | (with_reducible refine Gd_split (fun hc => ?_) (fun hc => ?_) <;> (have hc2 := hc; try simp at hc2)) | (with_reducible refine Br_split (fun hc => ?_) (fun hc => ?_) <;> (have hc2 := hc; try simp at hc2)) | (with_reducible refine GdT_split (fun hc => ?_) (fun hc => ?_) <;> (have hc2 := hc; try simp at hc2)) | (with_reducible refine WT_alt ?_ ?_) | omega)
    all_goals exact hK _ _ _ hX hY hf1
end
end Go.E
