/- The law of echoes: what the evaluator finds. -/
import Derived.Test.YtpakemggfjmfcaaMEk
import Derived.Test.YtpakemggfjmfcaaEE
import Derived.Test.YtpakemggfjmfcaaProg
set_option linter.unusedVariables false
set_option linter.unusedSimpArgs false
namespace Go.E
open Go
def L68 : LFn := ⟨2, (.seq (.reg [⟨(.some 4), (.mv (.c (.lf (.bool false)))), none⟩])
 (.seq (.reg [⟨(.some 5), (.mv (.t 0)), none⟩, ⟨(.some 6), (.len (.t 5)), none⟩, ⟨(.some 7), (.bin .gtr (.t 6) (.c (.lf (.int .i64 48)))), none⟩, ⟨(.some 8), (.mv (.t 7)), none⟩, ⟨(.some 9), (.mv (.t 1)), (.some (8, false))⟩, ⟨(.some 10), (.len (.t 9)), (.some (8, false))⟩, ⟨(.some 11), (.bin .gtr (.t 10) (.c (.lf (.int .i64 48)))), (.some (8, false))⟩, ⟨(.some 12), (.pick (.t 8) (.c (.lf (.bool true))) (.t 11)), none⟩, ⟨(.some 4), (.mv (.t 12)), none⟩])
 .ret)), [(.tmp 4)]⟩
def L69 : LFn := ⟨3, (.seq (.reg [⟨(.some 6), (.mv (.c (.lf (.int .i64 0)))), none⟩])
 (.seq (.seq (.reg [⟨(.some 7), (.mv (.t 2)), none⟩, ⟨(.some 8), (.bin .leq (.t 7) (.c (.lf (.int .i64 1)))), none⟩, ⟨(.some 9), (.mv (.t 8)), none⟩, ⟨(.some 10), (.mv (.t 1)), (.some (9, false))⟩, ⟨(.some 11), (.mv (.t 0)), (.some (9, false))⟩, ⟨(.some 12), (.len (.t 11)), (.some (9, false))⟩, ⟨(.some 13), (.bin .geq (.t 10) (.t 12)), (.some (9, false))⟩, ⟨(.some 14), (.pick (.t 9) (.c (.lf (.bool true))) (.t 13)), none⟩])
 (.cond (.t 14) (.seq (.reg [⟨(.some 6), (.mv (.c (.lf (.int .i64 0)))), none⟩])
 .ret) .skip))
 (.seq (.reg [⟨(.some 15), (.mv (.t 0)), none⟩, ⟨(.some 16), (.mv (.t 1)), none⟩, ⟨(.some 17), (.iaddr 1 (.t 15) (.t 16)), none⟩, ⟨(.some 18), (.load false 1 (.t 17)), none⟩, ⟨(.some 19), (.toint .i64 (.t 18)), none⟩, ⟨(.some 20), (.mv (.t 2)), none⟩, ⟨(.some 21), (.bin .rem (.t 19) (.t 20)), none⟩, ⟨(.some 6), (.mv (.t 21)), none⟩])
 .ret))), [(.tmp 6)]⟩
def L12 : LFn := ⟨2, (.seq (.reg [⟨(.some 4), (.mv (.c (.lf (.bool false)))), none⟩])
 (.seq (.seq (.reg [⟨(.some 14), (.mv (.t 0)), none⟩, ⟨(.some 15), (.mv (.t 1)), none⟩, ⟨(.some 16), (.call true 68 [(.t 14), (.t 15)]), none⟩])
 (.cond (.t 16) (.seq (.reg [⟨(.some 4), (.mv (.c (.lf (.bool true)))), none⟩])
 .ret) .skip))
 (.seq (.reg [⟨(.some 17), (.mv (.t 0)), none⟩, ⟨(.some 18), (.call true 69 [(.t 17), (.c (.lf (.int .i64 0))), (.c (.lf (.int .i64 6)))]), none⟩, ⟨(.some 19), (.bin .add (.c (.lf (.int .i64 1))) (.t 18)), none⟩, ⟨(.some 5), (.mv (.t 19)), none⟩])
 (.seq (.reg [⟨(.some 20), (.mv (.t 0)), none⟩, ⟨(.some 21), (.call true 69 [(.t 20), (.c (.lf (.int .i64 1))), (.c (.lf (.int .i64 5)))]), none⟩, ⟨(.some 22), (.bin .sub (.t 21) (.c (.lf (.int .i64 2)))), none⟩, ⟨(.some 23), (.toflt .f32 (.t 22)), none⟩, ⟨(.some 24), (.bin .quo (.t 23) (.c (.lf (.flt .f32 1073741824)))), none⟩, ⟨(.some 6), (.mv (.t 24)), none⟩])
 (.seq (.reg [⟨(.some 25), (.mv (.t 0)), none⟩, ⟨(.some 26), (.call true 69 [(.t 25), (.c (.lf (.int .i64 2))), (.c (.lf (.int .i64 5)))]), none⟩, ⟨(.some 27), (.bin .sub (.t 26) (.c (.lf (.int .i64 2)))), none⟩, ⟨(.some 28), (.toflt .f32 (.t 27)), none⟩, ⟨(.some 29), (.bin .quo (.t 28) (.c (.lf (.flt .f32 1073741824)))), none⟩, ⟨(.some 7), (.mv (.t 29)), none⟩])
 (.seq (.reg [⟨(.some 30), (.mv (.t 5)), none⟩, ⟨(.some 31), (.mv (.t 6)), none⟩, ⟨(.some 32), (.mv (.t 7)), none⟩, ⟨(.some 33), (.lit 22 1 2 [(.flt .f32 0), (.flt .f32 0)] [(0, (1, (.t 31))), (1, (1, (.t 32)))]), none⟩, ⟨(.some 34), (.build [(.int .i64 0), (.int .i64 0), .nils] [(0, (1, (.c (.lf (.int .i64 2))))), (1, (1, (.t 30))), (2, (1, (.t 33)))]), none⟩, ⟨(.some 35), (.lit 104 3 1 [(.int .i64 0), (.int .i64 0), .nils] [(0, (3, (.t 34)))]), none⟩, ⟨(.some 8), (.mv (.t 35)), none⟩])
 (.seq (.reg [⟨(.some 37), (.mv (.t 8)), none⟩, ⟨(.some 38), (.call false 70 [(.t 37), (.c (.lf (.int .i64 20)))]), none⟩, ⟨(.some 36), (.mv (.t 38)), none⟩, ⟨(.some 39), (.ext (.t 36) 0), none⟩, ⟨(.some 40), (.ext (.t 36) 1), none⟩, ⟨(.some 9), (.mv (.t 39)), none⟩, ⟨(.some 10), (.mv (.t 40)), none⟩])
 (.seq (.seq (.reg [⟨(.some 41), (.mv (.t 10)), none⟩, ⟨(.some 42), (.una .not (.t 41)), none⟩, ⟨(.some 43), (.mv (.t 42)), none⟩, ⟨(.some 44), (.mv (.t 9)), (.some (43, false))⟩, ⟨(.some 45), (.len (.t 44)), (.some (43, false))⟩, ⟨(.some 46), (.bin .neq (.t 45) (.c (.lf (.int .i64 20)))), (.some (43, false))⟩, ⟨(.some 47), (.pick (.t 43) (.c (.lf (.bool true))) (.t 46)), none⟩, ⟨(.some 48), (.mv (.t 47)), none⟩, ⟨(.some 49), (.mv (.t 8)), (.some (48, false))⟩, ⟨(.some 50), (.iaddr 3 (.t 49) (.c (.lf (.int .i64 0)))), (.some (48, false))⟩, ⟨(.some 51), (.load true 3 (.t 50)), (.some (48, false))⟩, ⟨(.some 52), (.call true 71 [(.t 51)]), (.some (48, false))⟩, ⟨(.some 53), (.una .not (.t 52)), (.some (48, false))⟩, ⟨(.some 54), (.pick (.t 48) (.c (.lf (.bool true))) (.t 53)), none⟩])
 (.cond (.t 54) (.seq (.reg [⟨(.some 4), (.mv (.c (.lf (.bool false)))), none⟩])
 .ret) .skip))
 (.seq (.reg [⟨(.some 55), (.mv (.t 7)), none⟩, ⟨(.some 11), (.mv (.t 55)), none⟩])
 (.seq (.seq (.reg [⟨(.some 12), (.mv (.c (.lf (.int .i64 0)))), none⟩])
 (.block 0 (.loop (.seq (.seq (.reg [⟨(.some 56), (.mv (.t 12)), none⟩, ⟨(.some 57), (.bin .lss (.t 56) (.c (.lf (.int .i64 20)))), none⟩])
 (.cond (.t 57) .skip (.exit 0)))
 (.seq (.block 1 (.seq (.reg [⟨(.some 13), (.mv (.c (.lf (.flt .f32 0)))), none⟩])
 (.seq (.seq (.reg [⟨(.some 60), (.mv (.t 12)), none⟩, ⟨(.some 61), (.bin .eql (.t 60) (.c (.lf (.int .i64 0)))), none⟩])
 (.cond (.t 61) (.reg [⟨(.some 13), (.mv (.c (.lf (.flt .f32 1065353216)))), none⟩]) (.seq (.reg [⟨(.some 62), (.mv (.t 12)), none⟩, ⟨(.some 63), (.mv (.t 5)), none⟩, ⟨(.some 64), (.bin .rem (.t 62) (.t 63)), none⟩, ⟨(.some 65), (.bin .eql (.t 64) (.c (.lf (.int .i64 0)))), none⟩])
 (.cond (.t 65) (.seq (.reg [⟨(.some 66), (.mv (.t 11)), none⟩, ⟨(.some 13), (.mv (.t 66)), none⟩])
 (.reg [⟨(.some 67), (.mv (.t 11)), none⟩, ⟨(.some 68), (.mv (.t 6)), none⟩, ⟨(.some 69), (.bin .mul (.t 67) (.t 68)), none⟩, ⟨(.some 11), (.mv (.t 69)), none⟩])) .skip))))
 (.seq (.reg [⟨(.some 70), (.mv (.t 9)), none⟩, ⟨(.some 71), (.mv (.t 12)), none⟩, ⟨(.some 72), (.iaddr 1 (.t 70) (.t 71)), none⟩, ⟨(.some 73), (.load false 1 (.t 72)), none⟩, ⟨(.some 74), (.mv (.t 13)), none⟩, ⟨(.some 75), (.bin .neq (.t 73) (.t 74)), none⟩])
 (.cond (.t 75) (.seq (.reg [⟨(.some 4), (.mv (.c (.lf (.bool false)))), none⟩])
 .ret) .skip)))))
 (.reg [⟨(.some 58), (.mv (.t 12)), none⟩, ⟨(.some 59), (.bin .add (.t 58) (.c (.lf (.int .i64 1)))), none⟩, ⟨(.some 12), (.mv (.t 59)), none⟩]))))))
 (.seq (.reg [⟨(.some 4), (.mv (.c (.lf (.bool true)))), none⟩])
 .ret))))))))))), [(.tmp 4)]⟩
class HasLEchoes (S : Sys) : Prop extends HasIc S where
  f68 : S.fs 68 = some L68
  f69 : S.fs 69 = some L69
  f12 : S.fs 12 = some L12
def ul (n : Int) : List Lf := [.int .u8 n]
theorem ul_of {h : Hp} {r : List Lf} (t : Ty h (.int .u8) r) : ∃ n : Int, r = ul n ∧ (0 ≤ n ∧ n < 256) := by
  obtain ⟨n, rfl, hw⟩ := t
  refine ⟨n, rfl, ?_⟩
  simp [Lit.wf] at hw
  have h1 : IntKind.u8.min = 0 := by decide
  have h2 : IntKind.u8.max = 255 := by decide
  rw [h1, h2] at hw
  omega
section
variable {S : Sys} {lim : Nat} {h : Hp} {K : CV → Hp → Prop} [HasLEchoes S] {l l2 : Lf} {cs ds : List Int}
theorem c_r8Long (hA : Arr h l 1 (cs.map ul)) (hB : Arr h l2 1 (ds.map ul)) : CallT S true 68 [.lf l, .lf l2] h lim K = K (.lf (.bool (decide (48 < (cs.length : Int)) || decide (48 < (ds.length : Int))))) h := by
  by_cases h1 : (48 : Int) < cs.length
  · rw [decide_eq_true h1, Bool.true_or]
    refine CallT_pure (F := L68) (HasLEchoes.f68) rfl (by first | rfl | (split <;> rfl) | simp) ?_; unfold L68; dsimp only []
    repeat' (first | (simp (disch := first | omega | assumption | (simp only [List.length_set]; omega) | (simp [*] <;> fail) | assumption) [-Bool.decide_and, -Bool.decide_or, -Bool.not_and, -Bool.not_or, toNat_pred, toNat_succ, wrap64, wr_new, wr_new0, ok_if, ok_ifn, iadV_sl, makeV_int, decT, decF, over_at, *, hA.len, hB.len]) | (with_reducible refine Gd_split (fun hc => ?_) (fun hc => ?_) <;> (have hc2 := hc; try simp at hc2)) | (with_reducible refine Br_split (fun hc => ?_) (fun hc => ?_) <;> (have hc2 := hc; try simp at hc2)) | (with_reducible refine GdT_split (fun hc => ?_) (fun hc => ?_) <;> (have hc2 := hc; try simp at hc2)) | (with_reducible refine WT_alt ?_ ?_) | omega)
  · rw [decide_eq_false h1, Bool.false_or]
    refine CallT_pure (F := L68) (HasLEchoes.f68) rfl (by first | rfl | (split <;> rfl) | simp) ?_; unfold L68; dsimp only []
    repeat' (first | (simp (disch := first | omega | assumption | (simp only [List.length_set]; omega) | (simp [*] <;> fail) | assumption) [-Bool.decide_and, -Bool.decide_or, -Bool.not_and, -Bool.not_or, toNat_pred, toNat_succ, wrap64, wr_new, wr_new0, ok_if, ok_ifn, iadV_sl, makeV_int, decT, decF, over_at, *, hA.len, hB.len]) | (with_reducible refine Gd_split (fun hc => ?_) (fun hc => ?_) <;> (have hc2 := hc; try simp at hc2)) | (with_reducible refine Br_split (fun hc => ?_) (fun hc => ?_) <;> (have hc2 := hc; try simp at hc2)) | (with_reducible refine GdT_split (fun hc => ?_) (fun hc => ?_) <;> (have hc2 := hc; try simp at hc2)) | (with_reducible refine WT_alt ?_ ?_) | omega)
theorem c_r8At {k n : Nat} (hA : Arr h l 1 (cs.map ul)) (hc : ∀ c ∈ cs, 0 ≤ c ∧ c < 256) (hn : 1 < n) (hn2 : n ≤ 100) (hk : k ≤ 100) : ∃ v : Nat, v < n ∧ ∀ lim K, CallT S true 69 [.lf l, .lf (.int .i64 k), .lf (.int .i64 n)] h lim K = K (.lf (.int .i64 v)) h := by
  have hn' : ¬ (n : Int) ≤ 1 := by omega
  by_cases hlt : k < cs.length
  · obtain ⟨c0, c1⟩ := hc _ (List.getElem_mem hlt)
    obtain ⟨c, hcv⟩ := Int.eq_ofNat_of_zero_le c0
    refine ⟨c % n, Nat.mod_lt _ (by omega), fun lim K => ?_⟩
    have hw : IntKind.i64.wrap (c : Int) = c := wrap64 (by omega) (by omega)
    have ht : (c : Int).tmod (n : Int) = ((c % n : Nat) : Int) := by rw [Int.ofNat_tmod]
    have hk' : ¬ (cs.length : Int) ≤ k := by omega
    have hn0 : ¬ (n : Int) = 0 := by omega
    have hr := hA.rd1 hlt
    rw [hcv] at hr
    simp only [ul] at hr
    refine CallT_pure (F := L69) (HasLEchoes.f69) rfl (by first | rfl | (split <;> rfl) | simp) ?_; unfold L69; dsimp only []
    repeat' (first | (simp (disch := first | omega | assumption | (simp only [List.length_set]; omega) | (simp [*] <;> fail) | assumption) [-Bool.decide_and, -Bool.decide_or, -Bool.not_and, -Bool.not_or, toNat_pred, toNat_succ, wrap64, wr_new, wr_new0, ok_if, ok_ifn, iadV_sl, makeV_int, decT, decF, over_at, *, hA.len, hA.at_, hA.at_', hA.rd, hA.rdIn, hA.rdIn0, hA.rdA, hA.rdInA, hA.rdIn0A]) | (with_reducible refine Gd_split (fun hc => ?_) (fun hc => ?_) <;> (have hc2 := hc; try simp at hc2)) | (with_reducible refine Br_split (fun hc => ?_) (fun hc => ?_) <;> (have hc2 := hc; try simp at hc2)) | (with_reducible refine GdT_split (fun hc => ?_) (fun hc => ?_) <;> (have hc2 := hc; try simp at hc2)) | (with_reducible refine WT_alt ?_ ?_) | omega)
  · refine ⟨0, by omega, fun lim K => ?_⟩
    have hk' : (cs.length : Int) ≤ k := by omega
    refine CallT_pure (F := L69) (HasLEchoes.f69) rfl (by first | rfl | (split <;> rfl) | simp) ?_; unfold L69; dsimp only []
    repeat' (first | (simp (disch := first | omega | assumption | (simp only [List.length_set]; omega) | (simp [*] <;> fail) | assumption) [-Bool.decide_and, -Bool.decide_or, -Bool.not_and, -Bool.not_or, toNat_pred, toNat_succ, wrap64, wr_new, wr_new0, ok_if, ok_ifn, iadV_sl, makeV_int, decT, decF, over_at, *, hA.len]) | (with_reducible refine Gd_split (fun hc => ?_) (fun hc => ?_) <;> (have hc2 := hc; try simp at hc2)) | (with_reducible refine Br_split (fun hc => ?_) (fun hc => ?_) <;> (have hc2 := hc; try simp at hc2)) | (with_reducible refine GdT_split (fun hc => ?_) (fun hc => ?_) <;> (have hc2 := hc; try simp at hc2)) | (with_reducible refine WT_alt ?_ ?_) | omega)
end
set_option maxHeartbeats 4000000 in
theorem lawEchoes {S : Sys} [HasLEchoes S] : LawHolds S 12 [(false, .sl 1 (.int .u8)), (false, .sl 1 (.int .u8))] := by
  intro h cs hcs
  obtain ⟨c0, _, rfl, ⟨ls0, rfl, l, rows, rfl, hA, hrows⟩, c1, _, rfl, ⟨ls1, rfl, l2, rows2, rfl, hB, hrows2⟩, rfl⟩ := hcs
  obtain ⟨xs, rfl, hx⟩ := rows_map fun r hr => ul_of (hrows r hr)
  obtain ⟨ys, rfl, _⟩ := rows_map fun r hr => ul_of (hrows2 r hr)
  clear hrows hrows2
  refine law_of (F := L12) HasLEchoes.f12 rfl ?_
  have hlong := fun lim K => c_r8Long (S := S) (lim := lim) (K := K) hA hB
  generalize (decide (48 < (xs.length : Int)) || decide (48 < (ys.length : Int))) = long at *
  obtain ⟨m, hm, r0⟩ := c_r8At (S := S) (k := 0) (n := 6) hA hx (by decide) (by decide) (by decide)
  obtain ⟨a, ha, r1⟩ := c_r8At (S := S) (k := 1) (n := 5) hA hx (by decide) (by decide) (by decide)
  obtain ⟨b, hb, r2⟩ := c_r8At (S := S) (k := 2) (n := 5) hA hx (by decide) (by decide) (by decide)
  have hchk : chkE (hvN a) (hvN b) (m + 1) = true := chk_all ⟨m, hm⟩ ⟨a, ha⟩ ⟨b, hb⟩
  have hge := fun i hi => chk_get (i := i) hchk hi
  clear hchk hx
  have hfa : fbin .quo .f32 (fofint .f32 ((a : Int) - 2)) 1073741824 = hvN a := rfl
  have hfb : fbin .quo .f32 (fofint .f32 ((b : Int) - 2)) 1073741824 = hvN b := rfl
  replace r0 : ∀ lim K, CallT S true 69 [.lf l, .lf (.int .i64 0), .lf (.int .i64 6)] h lim K = K (.lf (.int .i64 m)) h := r0
  replace r1 : ∀ lim K, CallT S true 69 [.lf l, .lf (.int .i64 1), .lf (.int .i64 5)] h lim K = K (.lf (.int .i64 a)) h := r1
  replace r2 : ∀ lim K, CallT S true 69 [.lf l, .lf (.int .i64 2), .lf (.int .i64 5)] h lim K = K (.lf (.int .i64 b)) h := r2
  cases long
  · unfold L12
    dsimp only []
    repeat' (first | (simp (disch := first | omega | assumption | (simp only [List.length_set]; omega) | (simp [*] <;> fail) | assumption) [-Bool.decide_and, -Bool.decide_or, -Bool.not_and, -Bool.not_or, toNat_pred, toNat_succ, wrap64, wr_new, wr_new0, ok_if, ok_ifn, iadV_sl, makeV_int, decT, decF, over_at, *, leavesAll, fillL]) | (with_reducible refine Gd_split (fun hc => ?_) (fun hc => ?_) <;> (have hc2 := hc; try simp at hc2)) | (with_reducible refine Br_split (fun hc => ?_) (fun hc => ?_) <;> (have hc2 := hc; try simp at hc2)) | (with_reducible refine GdT_split (fun hc => ?_) (fun hc => ?_) <;> (have hc2 := hc; try simp at hc2)) | (with_reducible refine WT_alt ?_ ?_) | omega)
    obtain ⟨M, hM⟩ : ∃ M, m + 1 = M := ⟨_, rfl⟩
    have e1 : (1 : Int) + (m : Int) = (M : Int) := by omega
    rw [hM] at hge
    rw [e1]
    have hM0 : 0 < M := by omega
    have hM6 : M ≤ 6 := by omega
    clear e1 hM hm r0 r1 r2 hlong hfa hfb
    generalize hvN a = f at *
    generalize hvN b = w at *
    have hol := echoOut_len (f := f) (w := w) (len := M) (n := 20)
    have hAf : Arr (h ++ [⟨[.flt .f32 f, .flt .f32 w], .own 22 1⟩, ⟨[.int .i64 2, .int .i64 M, .sl h.length 0 2 1], .own 104 3⟩]) (.sl h.length 0 2 1) 1 ([f, w].map fl) := by
      have := (New.fls (h := h) (g := h) (xs := [f, w]) (cs := [.flt .f32 f, .flt .f32 w]) (ty := 22) (Kept.refl h) rfl (by simp)).later (Kept.app _ [⟨[.int .i64 2, .int .i64 M, .sl h.length 0 2 1], .own 104 3⟩])
      simpa using this.arr
    have hS : Sl (h ++ [⟨[.flt .f32 f, .flt .f32 w], .own 22 1⟩, ⟨[.int .i64 2, .int .i64 M, .sl h.length 0 2 1], .own 104 3⟩]) (h.length + 1) 104 3 ([((⟨2, M, [f, w]⟩ : Eff), (Lf.sl h.length 0 2 1))].map Eff.cells) := ⟨by simp [Eff.cells], fun i r hi => by
      cases i with
      | zero => simp [Eff.cells] at hi; subst hi; rfl
      | succ i => simp at hi⟩
    have hL := hS.arr (by simp)
    rw [List.length_map, List.length_singleton] at hL
    refine c_ImpulseEcho hL hAf hM0 (by omega) (by decide) (by decide) (by simp) fun o g hO => ?_
    have hL2 := hL.kept hO.kept
    have hA2 := hAf.kept hO.kept
    have hOA := hO.arr
    have hOl := hOA.len
    rw [hol] at hOl
    have hok : effOk ⟨2, M, [f, w]⟩ := ⟨by simp; omega, by simp [cntE], by simp⟩
    have hv := fun lim K => c_implValidEffect (S := S) (h := g) (lim := lim) (K := K) (e := ⟨2, M, [f, w]⟩) (l := .sl h.length 0 2 1) hA2
    rw [decide_eq_true hok] at hv
    have r1 := hL2.rd0 (m := 3) (by simp) (by omega)
    have a1 := hL2.at0 (k := .i64) (by simp)
    simp only [List.getElem_cons_zero, Eff.cells, List.take_succ_cons, List.take_zero, Lf.id_sl, Lf.off_sl] at r1 a1
    clear hL hS hAf hL2 hA2 hok
    repeat' (first | (simp (disch := first | omega | assumption | (simp only [List.length_set]; omega) | (simp [*] <;> fail) | assumption) [-Bool.decide_and, -Bool.decide_or, -Bool.not_and, -Bool.not_or, toNat_pred, toNat_succ, wrap64, wr_new, wr_new0, ok_if, ok_ifn, iadV_sl, makeV_int, decT, decF, over_at, *]) | (with_reducible refine Gd_split (fun hc => ?_) (fun hc => ?_) <;> (have hc2 := hc; try simp at hc2)) | (with_reducible refine Br_split (fun hc => ?_) (fun hc => ?_) <;> (have hc2 := hc; try simp at hc2)) | (with_reducible refine GdT_split (fun hc => ?_) (fun hc => ?_) <;> (have hc2 := hc; try simp at hc2)) | (with_reducible refine WT_alt ?_ ?_) | omega)
    refine WL_forM 75557791668320285505552 (by decide +kernel) (20) (fun i b g' => i ≤ 20 ∧ b 12 = .lf (.int .i64 i) ∧ b 11 = .lf (.flt .f32 (lvlE f w M i)) ∧ g = g') (fun _ _ _ hi => hi.1) ⟨by omega, by simp, by simp [lvlE], rfl⟩ ?_
    rintro i b g' ⟨hi, e12, e11, rfl⟩
    by_cases hlt : i < 20
    · have hge := hge i hlt
      have hat := hOA.at_ (k := .i64) (i := i) (by rw [hol]; exact hlt)
      have hrd := hOA.rd1 (i := i) (by rw [hol]; exact hlt)
      have hlv : lvlE f w M (i + 1) = if i = 0 then lvlE f w M i else if i % M = 0 then fbin .mul .f32 (lvlE f w M i) f else lvlE f w M i := rfl
      generalize (echoOut f w M 20)[i]'(by rw [hol]; exact hlt) = y at *
      unfold wantE at hge
      have ht : (i : Int).tmod (M : Int) = ((i % M : Nat) : Int) := by rw [Int.ofNat_tmod]
      generalize lvlE f w M i = lv at *
      have hMn : ¬ (M : Int) = 0 := by omega
      simp only [fl] at hrd
      by_cases h0 : i = 0
      · subst h0
        rw [if_pos rfl] at hge hlv
        have hlvH : Hid (lvlE f w M (0 + 1) = lv) := hlv
        have hat0 := hOA.at0 (k := .i64) (by rw [hol]; omega)
        rw [Nat.add_zero] at hrd
        clear hlv hat
        repeat' (first | (simp (disch := first | omega | assumption | (simp only [List.length_set]; omega) | (simp [*] <;> fail) | assumption) [-Bool.decide_and, -Bool.decide_or, -Bool.not_and, -Bool.not_or, toNat_pred, toNat_succ, wrap64, wr_new, wr_new0, ok_if, ok_ifn, iadV_sl, makeV_int, decT, decF, over_at, *, fcmp_neq]) | (with_reducible refine Gd_split (fun hc => ?_) (fun hc => ?_) <;> (have hc2 := hc; try simp at hc2)) | (with_reducible refine Br_split (fun hc => ?_) (fun hc => ?_) <;> (have hc2 := hc; try simp at hc2)) | (with_reducible refine GdT_split (fun hc => ?_) (fun hc => ?_) <;> (have hc2 := hc; try simp at hc2)) | (with_reducible refine WT_alt ?_ ?_) | omega)
        all_goals exact (show lvlE f w M (0 + 1) = lv from hlvH).symm
      · rw [if_neg h0] at hge hlv
        by_cases hd : i % M = 0
        · rw [if_pos hd] at hge hlv
          rw [hd] at ht
          have hlvH : Hid (lvlE f w M (i + 1) = fbin .mul .f32 lv f) := hlv
          clear hlv
          repeat' (first | (simp (disch := first | omega | assumption | (simp only [List.length_set]; omega) | (simp [*] <;> fail) | assumption) [-Bool.decide_and, -Bool.decide_or, -Bool.not_and, -Bool.not_or, toNat_pred, toNat_succ, wrap64, wr_new, wr_new0, ok_if, ok_ifn, iadV_sl, makeV_int, decT, decF, over_at, *, fcmp_neq]) | (with_reducible refine Gd_split (fun hc => ?_) (fun hc => ?_) <;> (have hc2 := hc; try simp at hc2)) | (with_reducible refine Br_split (fun hc => ?_) (fun hc => ?_) <;> (have hc2 := hc; try simp at hc2)) | (with_reducible refine GdT_split (fun hc => ?_) (fun hc => ?_) <;> (have hc2 := hc; try simp at hc2)) | (with_reducible refine WT_alt ?_ ?_) | omega)
          all_goals (rw [show lvlE f w M (i + 1) = _ from hlvH]; exact ⟨by omega, rfl⟩)
        · rw [if_neg hd] at hge hlv
          have hlvH : Hid (lvlE f w M (i + 1) = lv) := hlv
          have hd2 : ¬ ((i : Int).tmod (M : Int) = 0) := by rw [ht]; omega
          clear hlv ht
          repeat' (first | (simp (disch := first | omega | assumption | (simp only [List.length_set]; omega) | (simp [*] <;> fail) | assumption) [-Bool.decide_and, -Bool.decide_or, -Bool.not_and, -Bool.not_or, toNat_pred, toNat_succ, wrap64, wr_new, wr_new0, ok_if, ok_ifn, iadV_sl, makeV_int, decT, decF, over_at, *, fcmp_neq]) | (with_reducible refine Gd_split (fun hc => ?_) (fun hc => ?_) <;> (have hc2 := hc; try simp at hc2)) | (with_reducible refine Br_split (fun hc => ?_) (fun hc => ?_) <;> (have hc2 := hc; try simp at hc2)) | (with_reducible refine GdT_split (fun hc => ?_) (fun hc => ?_) <;> (have hc2 := hc; try simp at hc2)) | (with_reducible refine WT_alt ?_ ?_) | omega)
          all_goals (rw [show lvlE f w M (i + 1) = _ from hlvH]; exact ⟨by omega, rfl⟩)
    · have : i = 20 := by omega
      subst this
      repeat' (first | (simp (disch := first | omega | assumption | (simp only [List.length_set]; omega) | (simp [*] <;> fail) | assumption) [-Bool.decide_and, -Bool.decide_or, -Bool.not_and, -Bool.not_or, toNat_pred, toNat_succ, wrap64, wr_new, wr_new0, ok_if, ok_ifn, iadV_sl, makeV_int, decT, decF, over_at, *]) | (with_reducible refine Gd_split (fun hc => ?_) (fun hc => ?_) <;> (have hc2 := hc; try simp at hc2)) | (with_reducible refine Br_split (fun hc => ?_) (fun hc => ?_) <;> (have hc2 := hc; try simp at hc2)) | (with_reducible refine GdT_split (fun hc => ?_) (fun hc => ?_) <;> (have hc2 := hc; try simp at hc2)) | (with_reducible refine WT_alt ?_ ?_) | omega)
  · unfold L12
    dsimp only []
    repeat' (first | (simp (disch := first | omega | assumption | (simp only [List.length_set]; omega) | (simp [*] <;> fail) | assumption) [-Bool.decide_and, -Bool.decide_or, -Bool.not_and, -Bool.not_or, toNat_pred, toNat_succ, wrap64, wr_new, wr_new0, ok_if, ok_ifn, iadV_sl, makeV_int, decT, decF, over_at, *]) | (with_reducible refine Gd_split (fun hc => ?_) (fun hc => ?_) <;> (have hc2 := hc; try simp at hc2)) | (with_reducible refine Br_split (fun hc => ?_) (fun hc => ?_) <;> (have hc2 := hc; try simp at hc2)) | (with_reducible refine GdT_split (fun hc => ?_) (fun hc => ?_) <;> (have hc2 := hc; try simp at hc2)) | (with_reducible refine WT_alt ?_ ?_) | omega)
end Go.E
namespace Go.E.Echoes
open Go Go.E
def pure : FuncId → Bool := fun f => List.elem f [3, 4, 5, 6, 7, 8, 9, 10, 11, 12, 13, 14, 16, 17, 20, 21, 23, 26, 30, 31, 34, 35, 36, 37, 38, 39, 41, 42, 43, 44, 47, 48, 49, 53, 54, 58, 61, 63, 65, 68, 69, 71, 72, 73, 78, 79, 82, 85, 86, 88, 89, 91, 92, 93, 94, 95, 96, 97, 98, 99, 100, 101, 104, 106, 109, 110, 111, 112, 113, 115, 116, 117, 118, 120, 122, 123, 126, 128, 129, 130, 132, 133, 134, 135, 136, 137, 143, 144, 146, 147, 149, 150, 151, 152, 153, 154, 155, 156, 157, 160, 161, 162, 164, 165, 166, 168, 169, 170, 171, 172, 173, 174, 176, 177, 178, 179, 180, 181, 182, 183, 184, 185, 186, 187, 188, 189, 190, 191, 192, 195, 198, 200, 201, 202, 203, 204, 205, 206, 207, 208, 209, 210, 211, 212, 213, 215, 216, 217, 218, 219, 220, 222, 223, 224, 225, 227, 229, 231, 238, 240, 241]
def funs : List (Nat × LFn) := [(93, L93), (130, L130), (150, L150), (163, L163), (145, L145), (189, L189), (190, L190), (178, L178), (195, L195), (212, L212), (213, L213), (192, L192), (211, L211), (96, L96), (171, L171), (187, L187), (188, L188), (191, L191), (206, L206), (209, L209), (210, L210), (217, L217), (219, L219), (113, L113), (135, L135), (169, L169), (170, L170), (172, L172), (173, L173), (174, L174), (62, L62), (64, L64), (97, L97), (133, L133), (134, L134), (136, L136), (137, L137), (138, L138), (71, L71), (120, L120), (123, L123), (143, L143), (144, L144), (165, L165), (166, L166), (176, L176), (186, L186), (205, L205), (44, L44), (47, L47), (118, L118), (121, L121), (139, L139), (140, L140), (175, L175), (194, L194), (142, L142), (141, L141), (70, L70), (12, L12), (68, L68), (69, L69)]
def Sy : Sys := sysOf funs
theorem lfn93 : lFn Go.Proofs.Try.prog pure Go.Proofs.Try.f93 = some L93 := by kernel_rfl
theorem lfn130 : lFn Go.Proofs.Try.prog pure Go.Proofs.Try.f130 = some L130 := by kernel_rfl
theorem lfn150 : lFn Go.Proofs.Try.prog pure Go.Proofs.Try.f150 = some L150 := by kernel_rfl
theorem lfn163 : lFn Go.Proofs.Try.prog pure Go.Proofs.Try.f163 = some L163 := by kernel_rfl
theorem lfn145 : lFn Go.Proofs.Try.prog pure Go.Proofs.Try.f145 = some L145 := by kernel_rfl
theorem lfn189 : lFn Go.Proofs.Try.prog pure Go.Proofs.Try.f189 = some L189 := by kernel_rfl
theorem lfn190 : lFn Go.Proofs.Try.prog pure Go.Proofs.Try.f190 = some L190 := by kernel_rfl
theorem lfn178 : lFn Go.Proofs.Try.prog pure Go.Proofs.Try.f178 = some L178 := by kernel_rfl
theorem lfn195 : lFn Go.Proofs.Try.prog pure Go.Proofs.Try.f195 = some L195 := by kernel_rfl
theorem lfn212 : lFn Go.Proofs.Try.prog pure Go.Proofs.Try.f212 = some L212 := by kernel_rfl
theorem lfn213 : lFn Go.Proofs.Try.prog pure Go.Proofs.Try.f213 = some L213 := by kernel_rfl
theorem lfn192 : lFn Go.Proofs.Try.prog pure Go.Proofs.Try.f192 = some L192 := by kernel_rfl
theorem lfn211 : lFn Go.Proofs.Try.prog pure Go.Proofs.Try.f211 = some L211 := by kernel_rfl
theorem lfn96 : lFn Go.Proofs.Try.prog pure Go.Proofs.Try.f96 = some L96 := by kernel_rfl
theorem lfn171 : lFn Go.Proofs.Try.prog pure Go.Proofs.Try.f171 = some L171 := by kernel_rfl
theorem lfn187 : lFn Go.Proofs.Try.prog pure Go.Proofs.Try.f187 = some L187 := by kernel_rfl
theorem lfn188 : lFn Go.Proofs.Try.prog pure Go.Proofs.Try.f188 = some L188 := by kernel_rfl
theorem lfn191 : lFn Go.Proofs.Try.prog pure Go.Proofs.Try.f191 = some L191 := by kernel_rfl
theorem lfn206 : lFn Go.Proofs.Try.prog pure Go.Proofs.Try.f206 = some L206 := by kernel_rfl
theorem lfn209 : lFn Go.Proofs.Try.prog pure Go.Proofs.Try.f209 = some L209 := by kernel_rfl
theorem lfn210 : lFn Go.Proofs.Try.prog pure Go.Proofs.Try.f210 = some L210 := by kernel_rfl
theorem lfn217 : lFn Go.Proofs.Try.prog pure Go.Proofs.Try.f217 = some L217 := by kernel_rfl
theorem lfn219 : lFn Go.Proofs.Try.prog pure Go.Proofs.Try.f219 = some L219 := by kernel_rfl
theorem lfn113 : lFn Go.Proofs.Try.prog pure Go.Proofs.Try.f113 = some L113 := by kernel_rfl
theorem lfn135 : lFn Go.Proofs.Try.prog pure Go.Proofs.Try.f135 = some L135 := by kernel_rfl
theorem lfn169 : lFn Go.Proofs.Try.prog pure Go.Proofs.Try.f169 = some L169 := by kernel_rfl
theorem lfn170 : lFn Go.Proofs.Try.prog pure Go.Proofs.Try.f170 = some L170 := by kernel_rfl
theorem lfn172 : lFn Go.Proofs.Try.prog pure Go.Proofs.Try.f172 = some L172 := by kernel_rfl
theorem lfn173 : lFn Go.Proofs.Try.prog pure Go.Proofs.Try.f173 = some L173 := by kernel_rfl
theorem lfn174 : lFn Go.Proofs.Try.prog pure Go.Proofs.Try.f174 = some L174 := by kernel_rfl
theorem lfn62 : lFn Go.Proofs.Try.prog pure Go.Proofs.Try.f62 = some L62 := by kernel_rfl
theorem lfn64 : lFn Go.Proofs.Try.prog pure Go.Proofs.Try.f64 = some L64 := by kernel_rfl
theorem lfn97 : lFn Go.Proofs.Try.prog pure Go.Proofs.Try.f97 = some L97 := by kernel_rfl
theorem lfn133 : lFn Go.Proofs.Try.prog pure Go.Proofs.Try.f133 = some L133 := by kernel_rfl
theorem lfn134 : lFn Go.Proofs.Try.prog pure Go.Proofs.Try.f134 = some L134 := by kernel_rfl
theorem lfn136 : lFn Go.Proofs.Try.prog pure Go.Proofs.Try.f136 = some L136 := by kernel_rfl
theorem lfn137 : lFn Go.Proofs.Try.prog pure Go.Proofs.Try.f137 = some L137 := by kernel_rfl
theorem lfn138 : lFn Go.Proofs.Try.prog pure Go.Proofs.Try.f138 = some L138 := by kernel_rfl
theorem lfn71 : lFn Go.Proofs.Try.prog pure Go.Proofs.Try.f71 = some L71 := by kernel_rfl
theorem lfn120 : lFn Go.Proofs.Try.prog pure Go.Proofs.Try.f120 = some L120 := by kernel_rfl
theorem lfn123 : lFn Go.Proofs.Try.prog pure Go.Proofs.Try.f123 = some L123 := by kernel_rfl
theorem lfn143 : lFn Go.Proofs.Try.prog pure Go.Proofs.Try.f143 = some L143 := by kernel_rfl
theorem lfn144 : lFn Go.Proofs.Try.prog pure Go.Proofs.Try.f144 = some L144 := by kernel_rfl
theorem lfn165 : lFn Go.Proofs.Try.prog pure Go.Proofs.Try.f165 = some L165 := by kernel_rfl
theorem lfn166 : lFn Go.Proofs.Try.prog pure Go.Proofs.Try.f166 = some L166 := by kernel_rfl
theorem lfn176 : lFn Go.Proofs.Try.prog pure Go.Proofs.Try.f176 = some L176 := by kernel_rfl
theorem lfn186 : lFn Go.Proofs.Try.prog pure Go.Proofs.Try.f186 = some L186 := by kernel_rfl
theorem lfn205 : lFn Go.Proofs.Try.prog pure Go.Proofs.Try.f205 = some L205 := by kernel_rfl
theorem lfn44 : lFn Go.Proofs.Try.prog pure Go.Proofs.Try.f44 = some L44 := by kernel_rfl
theorem lfn47 : lFn Go.Proofs.Try.prog pure Go.Proofs.Try.f47 = some L47 := by kernel_rfl
theorem lfn118 : lFn Go.Proofs.Try.prog pure Go.Proofs.Try.f118 = some L118 := by kernel_rfl
theorem lfn121 : lFn Go.Proofs.Try.prog pure Go.Proofs.Try.f121 = some L121 := by kernel_rfl
theorem lfn139 : lFn Go.Proofs.Try.prog pure Go.Proofs.Try.f139 = some L139 := by kernel_rfl
theorem lfn140 : lFn Go.Proofs.Try.prog pure Go.Proofs.Try.f140 = some L140 := by kernel_rfl
theorem lfn175 : lFn Go.Proofs.Try.prog pure Go.Proofs.Try.f175 = some L175 := by kernel_rfl
theorem lfn194 : lFn Go.Proofs.Try.prog pure Go.Proofs.Try.f194 = some L194 := by kernel_rfl
theorem lfn142 : lFn Go.Proofs.Try.prog pure Go.Proofs.Try.f142 = some L142 := by kernel_rfl
theorem lfn141 : lFn Go.Proofs.Try.prog pure Go.Proofs.Try.f141 = some L141 := by kernel_rfl
theorem lfn70 : lFn Go.Proofs.Try.prog pure Go.Proofs.Try.f70 = some L70 := by kernel_rfl
theorem lfn12 : lFn Go.Proofs.Try.prog pure Go.Proofs.Try.f12 = some L12 := by kernel_rfl
theorem lfn68 : lFn Go.Proofs.Try.prog pure Go.Proofs.Try.f68 = some L68 := by kernel_rfl
theorem lfn69 : lFn Go.Proofs.Try.prog pure Go.Proofs.Try.f69 = some L69 := by kernel_rfl
instance : HasA Sy := { f93 := rfl, f130 := rfl, f150 := rfl }
instance : HasN Sy := { f163 := rfl }
instance : HasCn Sy := { f145 := rfl }
instance : HasFb Sy := { f189 := rfl, f190 := rfl }
instance : HasFf Sy := { f178 := rfl, f195 := rfl, f212 := rfl, f213 := rfl }
instance : HasFa Sy := { f192 := rfl, f211 := rfl }
instance : HasSi Sy := { f96 := rfl, f171 := rfl, f187 := rfl, f188 := rfl, f191 := rfl, f206 := rfl, f209 := rfl, f210 := rfl, f217 := rfl, f219 := rfl }
instance : HasWv Sy := { f113 := rfl, f135 := rfl, f169 := rfl, f170 := rfl, f172 := rfl, f173 := rfl, f174 := rfl }
instance : HasOs Sy := { f62 := rfl, f64 := rfl, f97 := rfl, f133 := rfl, f134 := rfl, f136 := rfl, f137 := rfl, f138 := rfl }
instance : HasEf Sy := { f71 := rfl, f120 := rfl, f123 := rfl, f143 := rfl, f144 := rfl, f165 := rfl, f166 := rfl, f176 := rfl, f186 := rfl, f205 := rfl }
instance : HasIs Sy := { f44 := rfl, f47 := rfl, f118 := rfl, f121 := rfl }
instance : HasNs Sy := { f139 := rfl, f140 := rfl }
instance : HasEc Sy := { f175 := rfl, f194 := rfl }
instance : HasIe Sy := { f142 := rfl }
instance : HasRc Sy := { f141 := rfl }
instance : HasIc Sy := { f70 := rfl }
instance : HasLEchoes Sy := { f12 := rfl, f68 := rfl, f69 := rfl }
theorem sysOK {B : Nat} {w0 : World} : SysOK Go.Proofs.Try.prog pure Sy B w0 := SysOK.of (by
  intro p hp
  simp only [funs, List.mem_cons, List.not_mem_nil, or_false] at hp
  rcases hp with rfl | rfl | rfl | rfl | rfl | rfl | rfl | rfl | rfl | rfl | rfl | rfl | rfl | rfl | rfl | rfl | rfl | rfl | rfl | rfl | rfl | rfl | rfl | rfl | rfl | rfl | rfl | rfl | rfl | rfl | rfl | rfl | rfl | rfl | rfl | rfl | rfl | rfl | rfl | rfl | rfl | rfl | rfl | rfl | rfl | rfl | rfl | rfl | rfl | rfl | rfl | rfl | rfl | rfl | rfl | rfl | rfl | rfl | rfl | rfl | rfl | rfl
  · exact ⟨_, Go.Proofs.Try.func93, lfn93⟩
  · exact ⟨_, Go.Proofs.Try.func130, lfn130⟩
  · exact ⟨_, Go.Proofs.Try.func150, lfn150⟩
  · exact ⟨_, Go.Proofs.Try.func163, lfn163⟩
  · exact ⟨_, Go.Proofs.Try.func145, lfn145⟩
  · exact ⟨_, Go.Proofs.Try.func189, lfn189⟩
  · exact ⟨_, Go.Proofs.Try.func190, lfn190⟩
  · exact ⟨_, Go.Proofs.Try.func178, lfn178⟩
  · exact ⟨_, Go.Proofs.Try.func195, lfn195⟩
  · exact ⟨_, Go.Proofs.Try.func212, lfn212⟩
  · exact ⟨_, Go.Proofs.Try.func213, lfn213⟩
  · exact ⟨_, Go.Proofs.Try.func192, lfn192⟩
  · exact ⟨_, Go.Proofs.Try.func211, lfn211⟩
  · exact ⟨_, Go.Proofs.Try.func96, lfn96⟩
  · exact ⟨_, Go.Proofs.Try.func171, lfn171⟩
  · exact ⟨_, Go.Proofs.Try.func187, lfn187⟩
  · exact ⟨_, Go.Proofs.Try.func188, lfn188⟩
  · exact ⟨_, Go.Proofs.Try.func191, lfn191⟩
  · exact ⟨_, Go.Proofs.Try.func206, lfn206⟩
  · exact ⟨_, Go.Proofs.Try.func209, lfn209⟩
  · exact ⟨_, Go.Proofs.Try.func210, lfn210⟩
  · exact ⟨_, Go.Proofs.Try.func217, lfn217⟩
  · exact ⟨_, Go.Proofs.Try.func219, lfn219⟩
  · exact ⟨_, Go.Proofs.Try.func113, lfn113⟩
  · exact ⟨_, Go.Proofs.Try.func135, lfn135⟩
  · exact ⟨_, Go.Proofs.Try.func169, lfn169⟩
  · exact ⟨_, Go.Proofs.Try.func170, lfn170⟩
  · exact ⟨_, Go.Proofs.Try.func172, lfn172⟩
  · exact ⟨_, Go.Proofs.Try.func173, lfn173⟩
  · exact ⟨_, Go.Proofs.Try.func174, lfn174⟩
  · exact ⟨_, Go.Proofs.Try.func62, lfn62⟩
  · exact ⟨_, Go.Proofs.Try.func64, lfn64⟩
  · exact ⟨_, Go.Proofs.Try.func97, lfn97⟩
  · exact ⟨_, Go.Proofs.Try.func133, lfn133⟩
  · exact ⟨_, Go.Proofs.Try.func134, lfn134⟩
  · exact ⟨_, Go.Proofs.Try.func136, lfn136⟩
  · exact ⟨_, Go.Proofs.Try.func137, lfn137⟩
  · exact ⟨_, Go.Proofs.Try.func138, lfn138⟩
  · exact ⟨_, Go.Proofs.Try.func71, lfn71⟩
  · exact ⟨_, Go.Proofs.Try.func120, lfn120⟩
  · exact ⟨_, Go.Proofs.Try.func123, lfn123⟩
  · exact ⟨_, Go.Proofs.Try.func143, lfn143⟩
  · exact ⟨_, Go.Proofs.Try.func144, lfn144⟩
  · exact ⟨_, Go.Proofs.Try.func165, lfn165⟩
  · exact ⟨_, Go.Proofs.Try.func166, lfn166⟩
  · exact ⟨_, Go.Proofs.Try.func176, lfn176⟩
  · exact ⟨_, Go.Proofs.Try.func186, lfn186⟩
  · exact ⟨_, Go.Proofs.Try.func205, lfn205⟩
  · exact ⟨_, Go.Proofs.Try.func44, lfn44⟩
  · exact ⟨_, Go.Proofs.Try.func47, lfn47⟩
  · exact ⟨_, Go.Proofs.Try.func118, lfn118⟩
  · exact ⟨_, Go.Proofs.Try.func121, lfn121⟩
  · exact ⟨_, Go.Proofs.Try.func139, lfn139⟩
  · exact ⟨_, Go.Proofs.Try.func140, lfn140⟩
  · exact ⟨_, Go.Proofs.Try.func175, lfn175⟩
  · exact ⟨_, Go.Proofs.Try.func194, lfn194⟩
  · exact ⟨_, Go.Proofs.Try.func142, lfn142⟩
  · exact ⟨_, Go.Proofs.Try.func141, lfn141⟩
  · exact ⟨_, Go.Proofs.Try.func70, lfn70⟩
  · exact ⟨_, Go.Proofs.Try.func12, lfn12⟩
  · exact ⟨_, Go.Proofs.Try.func68, lfn68⟩
  · exact ⟨_, Go.Proofs.Try.func69, lfn69⟩)

end Go.E.Echoes
