/- The law of ReadState: what the evaluator finds. -/
import Derived.Test.YtgdloogokjemdaaGreatDoorMUj
import Derived.Test.YtgdloogokjemdaaGreatDoorMDk
import Derived.Test.YtgdloogokjemdaaGreatDoorMDs
import Derived.Test.YtgdloogokjemdaaGreatDoorProg
set_option linter.unusedVariables false
set_option linter.unusedSimpArgs false
namespace Go.E
open Go
def L3 : LFn := ⟨1, (.seq (.reg [⟨(.some 2), (.mv (.c (.lf (.bool false)))), none⟩])
 (.seq (.seq (.reg [⟨(.some 14), (.mv (.t 0)), none⟩, ⟨(.some 15), (.slen (.t 14)), none⟩, ⟨(.some 16), (.bin .gtr (.t 15) (.c (.lf (.int .i64 1048576)))), none⟩])
 (.cond (.t 16) (.seq (.reg [⟨(.some 2), (.mv (.c (.lf (.bool true)))), none⟩])
 .ret) .skip))
 (.seq (.reg [⟨(.some 18), (.mv (.t 0)), none⟩, ⟨(.some 19), (.call false 4 [(.t 18)]), none⟩, ⟨(.some 17), (.mv (.t 19)), none⟩, ⟨(.some 20), (.ext (.t 17) 0), none⟩, ⟨(.some 21), (.ext (.t 17) 1), none⟩, ⟨(.some 22), (.ext (.t 17) 2), none⟩, ⟨(.some 3), (.mv (.t 20)), none⟩, ⟨(.some 4), (.mv (.t 21)), none⟩, ⟨(.some 5), (.mv (.t 22)), none⟩])
 (.seq (.reg [⟨(.some 24), (.mv (.t 0)), none⟩, ⟨(.some 25), (.call false 5 [(.t 24)]), none⟩, ⟨(.some 23), (.mv (.t 25)), none⟩, ⟨(.some 26), (.ext (.t 23) 0), none⟩, ⟨(.some 27), (.ext (.t 23) 1), none⟩, ⟨(.some 28), (.ext (.t 23) 2), none⟩, ⟨(.some 6), (.mv (.t 26)), none⟩, ⟨(.some 7), (.mv (.t 27)), none⟩, ⟨(.some 8), (.mv (.t 28)), none⟩])
 (.seq (.seq (.reg [⟨(.some 29), (.mv (.t 6)), none⟩, ⟨(.some 30), (.mv (.t 3)), none⟩, ⟨(.some 31), (.call true 6 [(.t 29), (.t 30)]), none⟩, ⟨(.some 32), (.una .not (.t 31)), none⟩, ⟨(.some 33), (.mv (.t 32)), none⟩, ⟨(.some 34), (.mv (.t 7)), (.some (33, false))⟩, ⟨(.some 35), (.mv (.t 4)), (.some (33, false))⟩, ⟨(.some 36), (.call true 7 [(.t 34), (.t 35)]), (.some (33, false))⟩, ⟨(.some 37), (.una .not (.t 36)), (.some (33, false))⟩, ⟨(.some 38), (.pick (.t 33) (.c (.lf (.bool true))) (.t 37)), none⟩, ⟨(.some 39), (.mv (.t 38)), none⟩, ⟨(.some 40), (.mv (.t 8)), (.some (39, false))⟩, ⟨(.some 41), (.mv (.t 5)), (.some (39, false))⟩, ⟨(.some 42), (.beq true (.t 40) (.t 41)), (.some (39, false))⟩, ⟨(.some 43), (.pick (.t 39) (.c (.lf (.bool true))) (.t 42)), none⟩])
 (.cond (.t 43) (.seq (.reg [⟨(.some 2), (.mv (.c (.lf (.bool false)))), none⟩])
 .ret) .skip))
 (.seq (.reg [⟨(.some 9), (.mv (.c (.lf (.int .i64 1)))), none⟩])
 (.seq (.reg [⟨(.some 44), (.mv (.t 6)), none⟩, ⟨(.some 45), (.mv (.t 9)), none⟩, ⟨(.some 46), (.call false 8 [(.t 44), (.t 45)]), none⟩, ⟨(.some 9), (.mv (.t 46)), none⟩])
 (.seq (.reg [⟨(.some 47), (.mv (.t 7)), none⟩, ⟨(.some 48), (.mv (.t 9)), none⟩, ⟨(.some 49), (.call false 9 [(.t 47), (.t 48)]), none⟩, ⟨(.some 9), (.mv (.t 49)), none⟩])
 (.seq (.reg [⟨(.some 10), (.mv (.c (.lf (.int .i64 1)))), none⟩])
 (.seq (.reg [⟨(.some 50), (.mv (.t 6)), none⟩, ⟨(.some 51), (.mv (.t 10)), none⟩, ⟨(.some 52), (.call true 10 [(.t 50), (.t 51)]), none⟩, ⟨(.some 10), (.mv (.t 52)), none⟩])
 (.seq (.seq (.reg [⟨(.some 53), (.mv (.t 10)), none⟩, ⟨(.some 54), (.bin .lss (.t 53) (.c (.lf (.int .i64 0)))), none⟩])
 (.cond (.t 54) (.seq (.reg [⟨(.some 2), (.mv (.c (.lf (.bool false)))), none⟩])
 .ret) .skip))
 (.seq (.reg [⟨(.some 55), (.mv (.t 7)), none⟩, ⟨(.some 56), (.mv (.t 10)), none⟩, ⟨(.some 57), (.call true 11 [(.t 55), (.t 56)]), none⟩, ⟨(.some 10), (.mv (.t 57)), none⟩])
 (.seq (.seq (.reg [⟨(.some 58), (.mv (.t 10)), none⟩, ⟨(.some 59), (.bin .lss (.t 58) (.c (.lf (.int .i64 0)))), none⟩])
 (.cond (.t 59) (.seq (.reg [⟨(.some 2), (.mv (.c (.lf (.bool false)))), none⟩])
 .ret) .skip))
 (.seq (.seq (.reg [⟨(.some 60), (.mv (.t 10)), none⟩, ⟨(.some 61), (.mv (.t 9)), none⟩, ⟨(.some 62), (.bin .neq (.t 60) (.t 61)), none⟩])
 (.cond (.t 62) (.seq (.reg [⟨(.some 2), (.mv (.c (.lf (.bool false)))), none⟩])
 .ret) .skip))
 (.seq (.reg [⟨(.some 64), (.mv (.t 0)), none⟩, ⟨(.some 65), (.call false 5 [(.t 64)]), none⟩, ⟨(.some 63), (.mv (.t 65)), none⟩, ⟨(.some 66), (.ext (.t 63) 0), none⟩, ⟨(.some 67), (.ext (.t 63) 1), none⟩, ⟨(.some 68), (.ext (.t 63) 2), none⟩, ⟨(.some 11), (.mv (.t 66)), none⟩, ⟨(.some 12), (.mv (.t 67)), none⟩, ⟨(.some 13), (.mv (.t 68)), none⟩])
 (.seq (.seq (.reg [⟨(.some 69), (.mv (.t 11)), none⟩, ⟨(.some 70), (.mv (.t 3)), none⟩, ⟨(.some 71), (.call true 6 [(.t 69), (.t 70)]), none⟩, ⟨(.some 72), (.una .not (.t 71)), none⟩, ⟨(.some 73), (.mv (.t 72)), none⟩, ⟨(.some 74), (.mv (.t 12)), (.some (73, false))⟩, ⟨(.some 75), (.mv (.t 4)), (.some (73, false))⟩, ⟨(.some 76), (.call true 7 [(.t 74), (.t 75)]), (.some (73, false))⟩, ⟨(.some 77), (.una .not (.t 76)), (.some (73, false))⟩, ⟨(.some 78), (.pick (.t 73) (.c (.lf (.bool true))) (.t 77)), none⟩, ⟨(.some 79), (.mv (.t 78)), none⟩, ⟨(.some 80), (.mv (.t 13)), (.some (79, false))⟩, ⟨(.some 81), (.mv (.t 5)), (.some (79, false))⟩, ⟨(.some 82), (.beq true (.t 80) (.t 81)), (.some (79, false))⟩, ⟨(.some 83), (.pick (.t 79) (.c (.lf (.bool true))) (.t 82)), none⟩])
 (.cond (.t 83) (.seq (.reg [⟨(.some 2), (.mv (.c (.lf (.bool false)))), none⟩])
 .ret) .skip))
 (.seq (.reg [⟨(.some 10), (.mv (.c (.lf (.int .i64 1)))), none⟩])
 (.seq (.reg [⟨(.some 84), (.mv (.t 6)), none⟩, ⟨(.some 85), (.mv (.t 10)), none⟩, ⟨(.some 86), (.call true 10 [(.t 84), (.t 85)]), none⟩, ⟨(.some 10), (.mv (.t 86)), none⟩])
 (.seq (.seq (.reg [⟨(.some 87), (.mv (.t 10)), none⟩, ⟨(.some 88), (.bin .lss (.t 87) (.c (.lf (.int .i64 0)))), none⟩])
 (.cond (.t 88) (.seq (.reg [⟨(.some 2), (.mv (.c (.lf (.bool false)))), none⟩])
 .ret) .skip))
 (.seq (.reg [⟨(.some 89), (.mv (.t 7)), none⟩, ⟨(.some 90), (.mv (.t 10)), none⟩, ⟨(.some 91), (.call true 11 [(.t 89), (.t 90)]), none⟩, ⟨(.some 10), (.mv (.t 91)), none⟩])
 (.seq (.seq (.reg [⟨(.some 92), (.mv (.t 10)), none⟩, ⟨(.some 93), (.bin .lss (.t 92) (.c (.lf (.int .i64 0)))), none⟩])
 (.cond (.t 93) (.seq (.reg [⟨(.some 2), (.mv (.c (.lf (.bool false)))), none⟩])
 .ret) .skip))
 (.seq (.seq (.reg [⟨(.some 94), (.mv (.t 10)), none⟩, ⟨(.some 95), (.mv (.t 9)), none⟩, ⟨(.some 96), (.bin .neq (.t 94) (.t 95)), none⟩])
 (.cond (.t 96) (.seq (.reg [⟨(.some 2), (.mv (.c (.lf (.bool false)))), none⟩])
 .ret) .skip))
 (.seq (.reg [⟨(.some 2), (.mv (.c (.lf (.bool true)))), none⟩])
 .ret))))))))))))))))))))))), [(.tmp 2)]⟩
class HasLReadState (S : Sys) : Prop extends HasUj S, HasDE S, HasDSS S, HasKE S, HasKSS S where
  f3 : S.fs 3 = some L3
set_option maxRecDepth 20000 in
set_option maxHeartbeats 4000000 in
theorem lawReadState {S : Sys} [HasLReadState S] [HasRo S] : LawHolds S 3 [(false, .str)] := by
  intro h cs hcs
  obtain ⟨c, _, rfl, ⟨ls, rfl, x, rfl, _⟩, rfl⟩ := hcs
  obtain ⟨⟨s⟩⟩ := x
  have hlen := tlen (l := s)
  refine law_of (F := L3) HasLReadState.f3 rfl ?_
  unfold L3
  dsimp only []
  by_cases hsz : (1048576 : Int) < s.length
  · repeat' (first | (simp (disch := first | omega | assumption | (simp only [List.length_set]; omega) | (simp [*] <;> fail) | assumption) [-Bool.decide_and, -Bool.decide_or, -Bool.not_and, -Bool.not_or, toNat_pred, toNat_succ, wrap64, wr_new, wr_new0, ok_if, ok_ifn, iadV_sl, makeV_int, decT, decF, over_at, *]) | (with_reducible refine Gd_split (fun hc => ?_) (fun hc => ?_) <;> (have hc2 := hc; try simp at hc2)) | (with_reducible refine Br_split (fun hc => ?_) (fun hc => ?_) <;> (have hc2 := hc; try simp at hc2)) | (with_reducible refine GdT_split (fun hc => ?_) (fun hc => ?_) <;> (have hc2 := hc; try simp at hc2)) | (with_reducible refine WT_alt ?_ ?_) | omega)
  have hs2 : s.length ≤ 2000000 := by omega
  have cs : ∀ {g K}, h.length ≤ g.length → (∀ o po o2 po2 g', NewD g g' o 44 3 Eff.cells Eff.nums 51 po → po.map (·.1) = ((stateP s).getD ([], [])).1 → NewD g g' o2 35 1 ssCells ssRows 51 po2 → po2.map (·.1) = ((stateP s).getD ([], [])).2 → (∀ s ∈ lvs o po, ∀ t ∈ lvs o2 po2, Far s t) → K (.tup [.lf o, .lf o2, .lf (.bool (stateP s).isSome)]) g') → CallT S false 4 [.lf (.str ⟨s.toArray⟩)] g h.length K := fun {g K} hl hk => c_specReadState hs2 hl (fun o o2 g' ps qs hr hD hE hf => by
      have := hk o ps o2 qs g' hD (by rw [hr]; rfl) hE (by rw [hr]; rfl) hf
      rw [hr] at this
      exact this) (fun hr g' hK => by
      have := hk .nils [] .nils [] g' (NewD.start hK) (by rw [hr]; rfl) (NewD.start hK) (by rw [hr]; rfl) (fun s hs t ht q1 q2 e => by simp [lvs] at hs; exact q1 hs)
      rw [hr] at this
      exact this)
  have ci : ∀ {g K}, h.length ≤ g.length → (∀ o po o2 po2 g', NewD g g' o 44 3 Eff.cells Eff.nums 51 po → po.map (·.1) = ((stateP s).getD ([], [])).1 → NewD g g' o2 35 1 ssCells ssRows 51 po2 → po2.map (·.1) = ((stateP s).getD ([], [])).2 → (∀ s ∈ lvs o po, ∀ t ∈ lvs o2 po2, Far s t) → K (.tup [.lf o, .lf o2, .lf (.bool (stateP s).isSome)]) g') → CallT S false 5 [.lf (.str ⟨s.toArray⟩)] g h.length K := fun {g K} hl hk => c_implReadState hs2 hl (fun o o2 g' ps qs hr hD hE hf => by
      have := hk o ps o2 qs g' hD (by rw [hr]; rfl) hE (by rw [hr]; rfl) hf
      rw [hr] at this
      exact this) (fun hr g' hK => by
      have := hk .nils [] .nils [] g' (NewD.start hK) (by rw [hr]; rfl) (NewD.start hK) (by rw [hr]; rfl) (fun s hs t ht q1 q2 e => by simp [lvs] at hs; exact q1 hs)
      rw [hr] at this
      exact this)
  obtain ⟨hs1, hs3, hs4, hs5⟩ := stateP_small (s := s)
  generalize ((stateP s).getD ([], [])).1 = y at *
  generalize ((stateP s).getD ([], [])).2 = y2 at *
  generalize (stateP s).isSome = ok at *
  have hlo0 : ∀ {qs : List (Eff × Lf)}, qs.map (·.1) = y → qs.length ≤ 16777216 ∧ szD Eff.nums qs ≤ 16777216 := fun he => by have := small_of (ro := Eff.nums) hs1 hs3 he; omega
  have hlo1 : ∀ {qs : List (List Nat × Lf)}, qs.map (·.1) = y2 → qs.length ≤ 16777216 ∧ szD ssRows qs ≤ 16777216 := fun he => by have := small_of (ro := ssRows) hs4 hs5 he; omega
  clear hs1 hs3 hs4 hs5
  repeat' (first | (simp (disch := first | omega | assumption | (simp only [List.length_set]; omega) | (simp [*] <;> fail) | assumption) [-Bool.decide_and, -Bool.decide_or, -Bool.not_and, -Bool.not_or, toNat_pred, toNat_succ, wrap64, wr_new, wr_new0, ok_if, ok_ifn, iadV_sl, makeV_int, decT, decF, over_at, *]) | (with_reducible refine Gd_split (fun hc => ?_) (fun hc => ?_) <;> (have hc2 := hc; try simp at hc2)) | (with_reducible refine Br_split (fun hc => ?_) (fun hc => ?_) <;> (have hc2 := hc; try simp at hc2)) | (with_reducible refine GdT_split (fun hc => ?_) (fun hc => ?_) <;> (have hc2 := hc; try simp at hc2)) | (with_reducible refine WT_alt ?_ ?_) | omega)
  refine cs  (Kept.refl h).1 fun s0 ps0 s1 ps1 g1 hs0 Es0 hs1 Es1 Fs0s1 => ?_
  have Bs0 := hlo0 Es0
  have Bs1 := hlo1 Es1
  have K2 := (Kept.refl h).trans hs0.kept
  have Q2 := hs0.kept.1
  have P2 := K2.1
  have Zs0 := hs0.lvs_lt
  have Ns0 := hs0.base (Kept.refl h)
  have Zs1 := hs1.lvs_lt
  have Ns1 := hs1.base (Kept.refl h)
  repeat' (first | (simp (disch := first | omega | assumption | (simp only [List.length_set]; omega) | (simp [*] <;> fail) | assumption) [-Bool.decide_and, -Bool.decide_or, -Bool.not_and, -Bool.not_or, toNat_pred, toNat_succ, wrap64, wr_new, wr_new0, ok_if, ok_ifn, iadV_sl, makeV_int, decT, decF, over_at, *]) | (with_reducible refine Gd_split (fun hc => ?_) (fun hc => ?_) <;> (have hc2 := hc; try simp at hc2)) | (with_reducible refine Br_split (fun hc => ?_) (fun hc => ?_) <;> (have hc2 := hc; try simp at hc2)) | (with_reducible refine GdT_split (fun hc => ?_) (fun hc => ?_) <;> (have hc2 := hc; try simp at hc2)) | (with_reducible refine WT_alt ?_ ?_) | omega)
  refine ci  K2.1 fun r0 pr0 r1 pr1 g3 hr0 Er0 hr1 Er1 Fr0r1 => ?_
  have Br0 := hlo0 Er0
  have Br1 := hlo1 Er1
  have K4 := K2.trans hr0.kept
  have Q4 := hr0.kept.1
  have P4 := K4.1
  have Zr0 := hr0.lvs_lt
  have Nr0 := hr0.base K2
  have Zr1 := hr1.lvs_lt
  have Nr1 := hr1.base K2
  replace Ns0 := Ns0.later hr0.kept
  replace Ns1 := Ns1.later hr0.kept
  repeat' (first | (simp (disch := first | omega | assumption | (simp only [List.length_set]; omega) | (simp [*] <;> fail) | assumption) [-Bool.decide_and, -Bool.decide_or, -Bool.not_and, -Bool.not_or, toNat_pred, toNat_succ, wrap64, wr_new, wr_new0, ok_if, ok_ifn, iadV_sl, makeV_int, decT, decF, over_at, *, c_eqEffectS Nr0.arr Nr0.ins Ns0.arr Ns0.ins (Es0.trans Er0.symm), c_eqFloat32SS Nr1.arr Nr1.ins Ns1.arr Ns1.ins (Es1.trans Er1.symm)]) | (with_reducible refine Gd_split (fun hc => ?_) (fun hc => ?_) <;> (have hc2 := hc; try simp at hc2)) | (with_reducible refine Br_split (fun hc => ?_) (fun hc => ?_) <;> (have hc2 := hc; try simp at hc2)) | (with_reducible refine GdT_split (fun hc => ?_) (fun hc => ?_) <;> (have hc2 := hc; try simp at hc2)) | (with_reducible refine WT_alt ?_ ?_) | omega)
  refine c_markEffectS Nr0 (by omega) (by have := Br0; rw [kAt_all (ro := Eff.nums) (c := 2) (k := 1) (ps := pr0)]; omega) Br0.1 Br0.2 (Nat.le_refl _) fun g5 hM5 hB5 => ?_
  have O5 : ∀ s ∈ lvs r0 pr0, s ≠ .nils → h.length ≤ s.id := fun s hs q => by have := Zr0 s hs q; omega
  have Q5 := hB5.len
  have K5 := hB5.kept K4 O5
  replace Ns0 := hB5.newD Ns0 O5 (fun s hs t ht q1 q2 e => by have := Zr0 s hs q1; have := Zs0 t ht q2; omega)
  replace Ns1 := hB5.newD Ns1 O5 (fun s hs t ht q1 q2 e => by have := Zr0 s hs q1; have := Zs1 t ht q2; omega)
  replace Nr1 := hB5.newD Nr1 O5 Fr0r1
  have V5 : 1 ≤ kAt Eff.nums 2 1 pr0 pr0.length ∧ kAt Eff.nums 2 1 pr0 pr0.length ≤ 1 + 2 * 16777216 + 16777216 := by have := Br0; rw [kAt_all (ro := Eff.nums) (c := 2) (k := 1) (ps := pr0)]; omega
  replace Nr0 := hM5
  rw [← lvs_mkD (l := r0) (ps := pr0) (mk := mkE) (ro := Eff.nums) (c := 2) (k := 1)] at Zr0 Fr0r1
  repeat' (first | (simp (disch := first | omega | assumption | (simp only [List.length_set]; omega) | (simp [*] <;> fail) | assumption) [-Bool.decide_and, -Bool.decide_or, -Bool.not_and, -Bool.not_or, toNat_pred, toNat_succ, wrap64, wr_new, wr_new0, ok_if, ok_ifn, iadV_sl, makeV_int, decT, decF, over_at, *]) | (with_reducible refine Gd_split (fun hc => ?_) (fun hc => ?_) <;> (have hc2 := hc; try simp at hc2)) | (with_reducible refine Br_split (fun hc => ?_) (fun hc => ?_) <;> (have hc2 := hc; try simp at hc2)) | (with_reducible refine GdT_split (fun hc => ?_) (fun hc => ?_) <;> (have hc2 := hc; try simp at hc2)) | (with_reducible refine WT_alt ?_ ?_) | omega)
  refine c_markFloat32SS Nr1 (by omega) (by have := Br1; rw [kAt_all (ro := ssRows) (c := 0) (k := (kAt Eff.nums 2 1 pr0 pr0.length)) (ps := pr1)]; omega) Br1.1 Br1.2 (Nat.le_refl _) fun g6 hM6 hB6 => ?_
  have O6 : ∀ s ∈ lvs r1 pr1, s ≠ .nils → h.length ≤ s.id := fun s hs q => by have := Zr1 s hs q; omega
  have Q6 := hB6.len
  have K6 := hB6.kept K5 O6
  replace Ns0 := hB6.newD Ns0 O6 (fun s hs t ht q1 q2 e => by have := Zr1 s hs q1; have := Zs0 t ht q2; omega)
  replace Ns1 := hB6.newD Ns1 O6 (fun s hs t ht q1 q2 e => by have := Zr1 s hs q1; have := Zs1 t ht q2; omega)
  replace Nr0 := hB6.newD Nr0 O6 (fun s hs t ht => (Fr0r1 t ht s hs).symm)
  have V6 : (kAt Eff.nums 2 1 pr0 pr0.length) ≤ kAt ssRows 0 (kAt Eff.nums 2 1 pr0 pr0.length) pr1 pr1.length ∧ kAt ssRows 0 (kAt Eff.nums 2 1 pr0 pr0.length) pr1 pr1.length ≤ (kAt Eff.nums 2 1 pr0 pr0.length) + 0 * 16777216 + 16777216 := by have := Br1; rw [kAt_all (ro := ssRows) (c := 0) (k := (kAt Eff.nums 2 1 pr0 pr0.length)) (ps := pr1)]; omega
  replace Nr1 := hM6
  rw [← lvs_mkD (l := r1) (ps := pr1) (mk := mkSS) (ro := ssRows) (c := 0) (k := (kAt Eff.nums 2 1 pr0 pr0.length))] at Zr1 Fr0r1
  repeat' (first | (simp (disch := first | omega | assumption | (simp only [List.length_set]; omega) | (simp [*] <;> fail) | assumption) [-Bool.decide_and, -Bool.decide_or, -Bool.not_and, -Bool.not_or, toNat_pred, toNat_succ, wrap64, wr_new, wr_new0, ok_if, ok_ifn, iadV_sl, makeV_int, decT, decF, over_at, *, c_heldEffectS Nr0.arr Nr0.ins (by omega) (by have := Br0; rw [kAt_all (ro := Eff.nums) (c := 2) (k := 1) (ps := pr0)]; omega) Br0.1 Br0.2, c_heldFloat32SS Nr1.arr Nr1.ins (by omega) (by have := Br1; rw [kAt_all (ro := ssRows) (c := 0) (k := (kAt Eff.nums 2 1 pr0 pr0.length)) (ps := pr1)]; omega) Br1.1 Br1.2]) | (with_reducible refine Gd_split (fun hc => ?_) (fun hc => ?_) <;> (have hc2 := hc; try simp at hc2)) | (with_reducible refine Br_split (fun hc => ?_) (fun hc => ?_) <;> (have hc2 := hc; try simp at hc2)) | (with_reducible refine GdT_split (fun hc => ?_) (fun hc => ?_) <;> (have hc2 := hc; try simp at hc2)) | (with_reducible refine WT_alt ?_ ?_) | omega)
  refine ci  K6.1 fun u0 pu0 u1 pu1 g7 hu0 Eu0 hu1 Eu1 Fu0u1 => ?_
  have Bu0 := hlo0 Eu0
  have Bu1 := hlo1 Eu1
  have K8 := K6.trans hu0.kept
  have Q8 := hu0.kept.1
  have P8 := K8.1
  have Zu0 := hu0.lvs_lt
  have Nu0 := hu0.base K6
  have Zu1 := hu1.lvs_lt
  have Nu1 := hu1.base K6
  replace Ns0 := Ns0.later hu0.kept
  replace Ns1 := Ns1.later hu0.kept
  replace Nr0 := Nr0.later hu0.kept
  replace Nr1 := Nr1.later hu0.kept
  repeat' (first | (simp (disch := first | omega | assumption | (simp only [List.length_set]; omega) | (simp [*] <;> fail) | assumption) [-Bool.decide_and, -Bool.decide_or, -Bool.not_and, -Bool.not_or, toNat_pred, toNat_succ, wrap64, wr_new, wr_new0, ok_if, ok_ifn, iadV_sl, makeV_int, decT, decF, over_at, *, c_eqEffectS Nu0.arr Nu0.ins Ns0.arr Ns0.ins (Es0.trans Eu0.symm), c_eqFloat32SS Nu1.arr Nu1.ins Ns1.arr Ns1.ins (Es1.trans Eu1.symm), c_heldEffectS Nr0.arr Nr0.ins (by omega) (by have := Br0; rw [kAt_all (ro := Eff.nums) (c := 2) (k := 1) (ps := pr0)]; omega) Br0.1 Br0.2, c_heldFloat32SS Nr1.arr Nr1.ins (by omega) (by have := Br1; rw [kAt_all (ro := ssRows) (c := 0) (k := (kAt Eff.nums 2 1 pr0 pr0.length)) (ps := pr1)]; omega) Br1.1 Br1.2]) | (with_reducible refine Gd_split (fun hc => ?_) (fun hc => ?_) <;> (have hc2 := hc; try simp at hc2)) | (with_reducible refine Br_split (fun hc => ?_) (fun hc => ?_) <;> (have hc2 := hc; try simp at hc2)) | (with_reducible refine GdT_split (fun hc => ?_) (fun hc => ?_) <;> (have hc2 := hc; try simp at hc2)) | (with_reducible refine WT_alt ?_ ?_) | omega)
end Go.E
namespace Go.E.ReadState
open Go Go.E
def pure : FuncId → Bool := fun f => List.elem f [3, 6, 7, 10, 11, 15, 16, 21, 22, 23, 24, 26, 27, 28, 29, 30, 31, 32, 33, 34, 35, 37, 38, 40, 42, 43, 44, 45, 46, 47, 48, 49, 50, 51, 52, 54, 55, 57, 58, 59, 60, 61, 63, 64, 65, 66, 67, 68, 69, 70, 71, 74, 75, 76, 77, 81, 82, 83, 84, 85, 86, 92, 93, 96, 97, 100, 101, 102, 103, 105, 108, 109, 110, 111, 112, 113, 114, 115, 116, 118, 120, 122, 129, 132, 137]
def funs : List (Nat × LFn) := [(30, L30), (31, L31), (34, L34), (52, L52), (61, L61), (77, L77), (48, L48), (57, L57), (63, L63), (12, L12), (19, L19), (39, L39), (27, L27), (14, L14), (20, L20), (40, L40), (59, L59), (60, L60), (76, L76), (33, L33), (42, L42), (44, L44), (46, L46), (64, L64), (28, L28), (32, L32), (38, L38), (49, L49), (58, L58), (67, L67), (74, L74), (75, L75), (82, L82), (92, L92), (29, L29), (43, L43), (13, L13), (18, L18), (62, L62), (15, L15), (21, L21), (41, L41), (16, L16), (22, L22), (35, L35), (45, L45), (4, L4), (5, L5), (47, L47), (24, L24), (25, L25), (26, L26), (6, L6), (23, L23), (7, L7), (8, L8), (10, L10), (9, L9), (11, L11), (3, L3)]
def Sy : Sys := { fs := (sysOf funs).fs, xt := readX }
instance : HasRo Sy := { none_ := rfl, xt_ := rfl }
theorem lfn30 : lFn Go.Proofs.Tryz.prog pure Go.Proofs.Tryz.f30 = some L30 := by kernel_rfl
theorem lfn31 : lFn Go.Proofs.Tryz.prog pure Go.Proofs.Tryz.f31 = some L31 := by kernel_rfl
theorem lfn34 : lFn Go.Proofs.Tryz.prog pure Go.Proofs.Tryz.f34 = some L34 := by kernel_rfl
theorem lfn52 : lFn Go.Proofs.Tryz.prog pure Go.Proofs.Tryz.f52 = some L52 := by kernel_rfl
theorem lfn61 : lFn Go.Proofs.Tryz.prog pure Go.Proofs.Tryz.f61 = some L61 := by kernel_rfl
theorem lfn77 : lFn Go.Proofs.Tryz.prog pure Go.Proofs.Tryz.f77 = some L77 := by kernel_rfl
theorem lfn48 : lFn Go.Proofs.Tryz.prog pure Go.Proofs.Tryz.f48 = some L48 := by kernel_rfl
theorem lfn57 : lFn Go.Proofs.Tryz.prog pure Go.Proofs.Tryz.f57 = some L57 := by kernel_rfl
theorem lfn63 : lFn Go.Proofs.Tryz.prog pure Go.Proofs.Tryz.f63 = some L63 := by kernel_rfl
theorem lfn12 : lFn Go.Proofs.Tryz.prog pure Go.Proofs.Tryz.f12 = some L12 := by kernel_rfl
theorem lfn19 : lFn Go.Proofs.Tryz.prog pure Go.Proofs.Tryz.f19 = some L19 := by kernel_rfl
theorem lfn39 : lFn Go.Proofs.Tryz.prog pure Go.Proofs.Tryz.f39 = some L39 := by kernel_rfl
theorem lfn27 : lFn Go.Proofs.Tryz.prog pure Go.Proofs.Tryz.f27 = some L27 := by kernel_rfl
theorem lfn14 : lFn Go.Proofs.Tryz.prog pure Go.Proofs.Tryz.f14 = some L14 := by kernel_rfl
theorem lfn20 : lFn Go.Proofs.Tryz.prog pure Go.Proofs.Tryz.f20 = some L20 := by kernel_rfl
theorem lfn40 : lFn Go.Proofs.Tryz.prog pure Go.Proofs.Tryz.f40 = some L40 := by kernel_rfl
theorem lfn59 : lFn Go.Proofs.Tryz.prog pure Go.Proofs.Tryz.f59 = some L59 := by kernel_rfl
theorem lfn60 : lFn Go.Proofs.Tryz.prog pure Go.Proofs.Tryz.f60 = some L60 := by kernel_rfl
theorem lfn76 : lFn Go.Proofs.Tryz.prog pure Go.Proofs.Tryz.f76 = some L76 := by kernel_rfl
theorem lfn33 : lFn Go.Proofs.Tryz.prog pure Go.Proofs.Tryz.f33 = some L33 := by kernel_rfl
theorem lfn42 : lFn Go.Proofs.Tryz.prog pure Go.Proofs.Tryz.f42 = some L42 := by kernel_rfl
theorem lfn44 : lFn Go.Proofs.Tryz.prog pure Go.Proofs.Tryz.f44 = some L44 := by kernel_rfl
theorem lfn46 : lFn Go.Proofs.Tryz.prog pure Go.Proofs.Tryz.f46 = some L46 := by kernel_rfl
theorem lfn64 : lFn Go.Proofs.Tryz.prog pure Go.Proofs.Tryz.f64 = some L64 := by kernel_rfl
theorem lfn28 : lFn Go.Proofs.Tryz.prog pure Go.Proofs.Tryz.f28 = some L28 := by kernel_rfl
theorem lfn32 : lFn Go.Proofs.Tryz.prog pure Go.Proofs.Tryz.f32 = some L32 := by kernel_rfl
theorem lfn38 : lFn Go.Proofs.Tryz.prog pure Go.Proofs.Tryz.f38 = some L38 := by kernel_rfl
theorem lfn49 : lFn Go.Proofs.Tryz.prog pure Go.Proofs.Tryz.f49 = some L49 := by kernel_rfl
theorem lfn58 : lFn Go.Proofs.Tryz.prog pure Go.Proofs.Tryz.f58 = some L58 := by kernel_rfl
theorem lfn67 : lFn Go.Proofs.Tryz.prog pure Go.Proofs.Tryz.f67 = some L67 := by kernel_rfl
theorem lfn74 : lFn Go.Proofs.Tryz.prog pure Go.Proofs.Tryz.f74 = some L74 := by kernel_rfl
theorem lfn75 : lFn Go.Proofs.Tryz.prog pure Go.Proofs.Tryz.f75 = some L75 := by kernel_rfl
theorem lfn82 : lFn Go.Proofs.Tryz.prog pure Go.Proofs.Tryz.f82 = some L82 := by kernel_rfl
theorem lfn92 : lFn Go.Proofs.Tryz.prog pure Go.Proofs.Tryz.f92 = some L92 := by kernel_rfl
theorem lfn29 : lFn Go.Proofs.Tryz.prog pure Go.Proofs.Tryz.f29 = some L29 := by kernel_rfl
theorem lfn43 : lFn Go.Proofs.Tryz.prog pure Go.Proofs.Tryz.f43 = some L43 := by kernel_rfl
theorem lfn13 : lFn Go.Proofs.Tryz.prog pure Go.Proofs.Tryz.f13 = some L13 := by kernel_rfl
theorem lfn18 : lFn Go.Proofs.Tryz.prog pure Go.Proofs.Tryz.f18 = some L18 := by kernel_rfl
theorem lfn62 : lFn Go.Proofs.Tryz.prog pure Go.Proofs.Tryz.f62 = some L62 := by kernel_rfl
theorem lfn15 : lFn Go.Proofs.Tryz.prog pure Go.Proofs.Tryz.f15 = some L15 := by kernel_rfl
theorem lfn21 : lFn Go.Proofs.Tryz.prog pure Go.Proofs.Tryz.f21 = some L21 := by kernel_rfl
theorem lfn41 : lFn Go.Proofs.Tryz.prog pure Go.Proofs.Tryz.f41 = some L41 := by kernel_rfl
theorem lfn16 : lFn Go.Proofs.Tryz.prog pure Go.Proofs.Tryz.f16 = some L16 := by kernel_rfl
theorem lfn22 : lFn Go.Proofs.Tryz.prog pure Go.Proofs.Tryz.f22 = some L22 := by kernel_rfl
theorem lfn35 : lFn Go.Proofs.Tryz.prog pure Go.Proofs.Tryz.f35 = some L35 := by kernel_rfl
theorem lfn45 : lFn Go.Proofs.Tryz.prog pure Go.Proofs.Tryz.f45 = some L45 := by kernel_rfl
theorem lfn4 : lFn Go.Proofs.Tryz.prog pure Go.Proofs.Tryz.f4 = some L4 := by kernel_rfl
theorem lfn5 : lFn Go.Proofs.Tryz.prog pure Go.Proofs.Tryz.f5 = some L5 := by kernel_rfl
theorem lfn47 : lFn Go.Proofs.Tryz.prog pure Go.Proofs.Tryz.f47 = some L47 := by kernel_rfl
theorem lfn24 : lFn Go.Proofs.Tryz.prog pure Go.Proofs.Tryz.f24 = some L24 := by kernel_rfl
theorem lfn25 : lFn Go.Proofs.Tryz.prog pure Go.Proofs.Tryz.f25 = some L25 := by kernel_rfl
theorem lfn26 : lFn Go.Proofs.Tryz.prog pure Go.Proofs.Tryz.f26 = some L26 := by kernel_rfl
theorem lfn6 : lFn Go.Proofs.Tryz.prog pure Go.Proofs.Tryz.f6 = some L6 := by kernel_rfl
theorem lfn23 : lFn Go.Proofs.Tryz.prog pure Go.Proofs.Tryz.f23 = some L23 := by kernel_rfl
theorem lfn7 : lFn Go.Proofs.Tryz.prog pure Go.Proofs.Tryz.f7 = some L7 := by kernel_rfl
theorem lfn8 : lFn Go.Proofs.Tryz.prog pure Go.Proofs.Tryz.f8 = some L8 := by kernel_rfl
theorem lfn10 : lFn Go.Proofs.Tryz.prog pure Go.Proofs.Tryz.f10 = some L10 := by kernel_rfl
theorem lfn9 : lFn Go.Proofs.Tryz.prog pure Go.Proofs.Tryz.f9 = some L9 := by kernel_rfl
theorem lfn11 : lFn Go.Proofs.Tryz.prog pure Go.Proofs.Tryz.f11 = some L11 := by kernel_rfl
theorem lfn3 : lFn Go.Proofs.Tryz.prog pure Go.Proofs.Tryz.f3 = some L3 := by kernel_rfl
instance : HasFb Sy := { f30 := rfl, f31 := rfl }
instance : HasTx Sy := { f34 := rfl, f52 := rfl, f61 := rfl, f77 := rfl }
instance : HasA Sy := { f48 := rfl, f57 := rfl }
instance : HasP Sy := { f63 := rfl }
instance : HasUe Sy := { f12 := rfl, f19 := rfl, f39 := rfl }
instance : HasUf Sy := { f27 := rfl }
instance : HasUg Sy := { f14 := rfl, f20 := rfl, f40 := rfl, f59 := rfl, f60 := rfl, f76 := rfl }
instance : HasTy Sy := { f33 := rfl, f42 := rfl, f44 := rfl, f46 := rfl, f64 := rfl }
instance : HasEf Sy := { f28 := rfl, f32 := rfl, f38 := rfl, f49 := rfl, f58 := rfl, f67 := rfl, f74 := rfl, f75 := rfl, f82 := rfl, f92 := rfl }
instance : HasCx Sy := { f29 := rfl, f43 := rfl }
instance : HasUh Sy := { f13 := rfl, f18 := rfl }
instance : HasN Sy := { f62 := rfl }
instance : HasIs Sy := { f15 := rfl, f21 := rfl, f41 := rfl }
instance : HasSx Sy := { f16 := rfl, f22 := rfl, f35 := rfl, f45 := rfl }
instance : HasUj Sy := { f4 := rfl, f5 := rfl }
instance : HasSame Sy := { f47 := rfl }
instance : HasF Sy := { f24 := rfl, f25 := rfl, f26 := rfl }
instance : HasSz Sy := {  }
instance : HasDE Sy := { f6 := rfl, f23 := rfl }
instance : HasDSS Sy := { f7 := rfl }
instance : HasKE Sy := { f8 := rfl, f10 := rfl }
instance : HasKSS Sy := { f9 := rfl, f11 := rfl }
instance : HasLReadState Sy := { f3 := rfl }
theorem sysOK0 {B : Nat} {w0 : World} : SysOK Go.Proofs.Tryz.prog pure (sysOf funs) B w0 := SysOK.of (by
  intro p hp
  simp only [funs, List.mem_cons, List.not_mem_nil, or_false] at hp
  rcases hp with rfl | rfl | rfl | rfl | rfl | rfl | rfl | rfl | rfl | rfl | rfl | rfl | rfl | rfl | rfl | rfl | rfl | rfl | rfl | rfl | rfl | rfl | rfl | rfl | rfl | rfl | rfl | rfl | rfl | rfl | rfl | rfl | rfl | rfl | rfl | rfl | rfl | rfl | rfl | rfl | rfl | rfl | rfl | rfl | rfl | rfl | rfl | rfl | rfl | rfl | rfl | rfl | rfl | rfl | rfl | rfl | rfl | rfl | rfl | rfl
  · exact ⟨_, Go.Proofs.Tryz.func30, lfn30⟩
  · exact ⟨_, Go.Proofs.Tryz.func31, lfn31⟩
  · exact ⟨_, Go.Proofs.Tryz.func34, lfn34⟩
  · exact ⟨_, Go.Proofs.Tryz.func52, lfn52⟩
  · exact ⟨_, Go.Proofs.Tryz.func61, lfn61⟩
  · exact ⟨_, Go.Proofs.Tryz.func77, lfn77⟩
  · exact ⟨_, Go.Proofs.Tryz.func48, lfn48⟩
  · exact ⟨_, Go.Proofs.Tryz.func57, lfn57⟩
  · exact ⟨_, Go.Proofs.Tryz.func63, lfn63⟩
  · exact ⟨_, Go.Proofs.Tryz.func12, lfn12⟩
  · exact ⟨_, Go.Proofs.Tryz.func19, lfn19⟩
  · exact ⟨_, Go.Proofs.Tryz.func39, lfn39⟩
  · exact ⟨_, Go.Proofs.Tryz.func27, lfn27⟩
  · exact ⟨_, Go.Proofs.Tryz.func14, lfn14⟩
  · exact ⟨_, Go.Proofs.Tryz.func20, lfn20⟩
  · exact ⟨_, Go.Proofs.Tryz.func40, lfn40⟩
  · exact ⟨_, Go.Proofs.Tryz.func59, lfn59⟩
  · exact ⟨_, Go.Proofs.Tryz.func60, lfn60⟩
  · exact ⟨_, Go.Proofs.Tryz.func76, lfn76⟩
  · exact ⟨_, Go.Proofs.Tryz.func33, lfn33⟩
  · exact ⟨_, Go.Proofs.Tryz.func42, lfn42⟩
  · exact ⟨_, Go.Proofs.Tryz.func44, lfn44⟩
  · exact ⟨_, Go.Proofs.Tryz.func46, lfn46⟩
  · exact ⟨_, Go.Proofs.Tryz.func64, lfn64⟩
  · exact ⟨_, Go.Proofs.Tryz.func28, lfn28⟩
  · exact ⟨_, Go.Proofs.Tryz.func32, lfn32⟩
  · exact ⟨_, Go.Proofs.Tryz.func38, lfn38⟩
  · exact ⟨_, Go.Proofs.Tryz.func49, lfn49⟩
  · exact ⟨_, Go.Proofs.Tryz.func58, lfn58⟩
  · exact ⟨_, Go.Proofs.Tryz.func67, lfn67⟩
  · exact ⟨_, Go.Proofs.Tryz.func74, lfn74⟩
  · exact ⟨_, Go.Proofs.Tryz.func75, lfn75⟩
  · exact ⟨_, Go.Proofs.Tryz.func82, lfn82⟩
  · exact ⟨_, Go.Proofs.Tryz.func92, lfn92⟩
  · exact ⟨_, Go.Proofs.Tryz.func29, lfn29⟩
  · exact ⟨_, Go.Proofs.Tryz.func43, lfn43⟩
  · exact ⟨_, Go.Proofs.Tryz.func13, lfn13⟩
  · exact ⟨_, Go.Proofs.Tryz.func18, lfn18⟩
  · exact ⟨_, Go.Proofs.Tryz.func62, lfn62⟩
  · exact ⟨_, Go.Proofs.Tryz.func15, lfn15⟩
  · exact ⟨_, Go.Proofs.Tryz.func21, lfn21⟩
  · exact ⟨_, Go.Proofs.Tryz.func41, lfn41⟩
  · exact ⟨_, Go.Proofs.Tryz.func16, lfn16⟩
  · exact ⟨_, Go.Proofs.Tryz.func22, lfn22⟩
  · exact ⟨_, Go.Proofs.Tryz.func35, lfn35⟩
  · exact ⟨_, Go.Proofs.Tryz.func45, lfn45⟩
  · exact ⟨_, Go.Proofs.Tryz.func4, lfn4⟩
  · exact ⟨_, Go.Proofs.Tryz.func5, lfn5⟩
  · exact ⟨_, Go.Proofs.Tryz.func47, lfn47⟩
  · exact ⟨_, Go.Proofs.Tryz.func24, lfn24⟩
  · exact ⟨_, Go.Proofs.Tryz.func25, lfn25⟩
  · exact ⟨_, Go.Proofs.Tryz.func26, lfn26⟩
  · exact ⟨_, Go.Proofs.Tryz.func6, lfn6⟩
  · exact ⟨_, Go.Proofs.Tryz.func23, lfn23⟩
  · exact ⟨_, Go.Proofs.Tryz.func7, lfn7⟩
  · exact ⟨_, Go.Proofs.Tryz.func8, lfn8⟩
  · exact ⟨_, Go.Proofs.Tryz.func10, lfn10⟩
  · exact ⟨_, Go.Proofs.Tryz.func9, lfn9⟩
  · exact ⟨_, Go.Proofs.Tryz.func11, lfn11⟩
  · exact ⟨_, Go.Proofs.Tryz.func3, lfn3⟩)
theorem sysOK {B : Nat} {w0 : World} (hT : ReadH B w0) : SysOK Go.Proofs.Tryz.prog pure Sy B w0 := ⟨(sysOK0 (B := B) (w0 := w0)).fs, readX_ok hT⟩

end Go.E.ReadState
