/- The law of ReadChain: what the evaluator finds. -/
import Derived.Test.YtgdloogokjemdaaDoorMUh
import Derived.Test.YtgdloogokjemdaaDoorMDk
import Derived.Test.YtgdloogokjemdaaDoorMDs
import Derived.Test.YtgdloogokjemdaaDoorProg
set_option linter.unusedVariables false
set_option linter.unusedSimpArgs false
namespace Go.E
open Go
def L3 : LFn := ⟨1, (.seq (.reg [⟨(.some 2), (.mv (.c (.lf (.bool false)))), none⟩])
 (.seq (.seq (.reg [⟨(.some 11), (.mv (.t 0)), none⟩, ⟨(.some 12), (.slen (.t 11)), none⟩, ⟨(.some 13), (.bin .gtr (.t 12) (.c (.lf (.int .i64 1048576)))), none⟩])
 (.cond (.t 13) (.seq (.reg [⟨(.some 2), (.mv (.c (.lf (.bool true)))), none⟩])
 .ret) .skip))
 (.seq (.reg [⟨(.some 15), (.mv (.t 0)), none⟩, ⟨(.some 16), (.call false 4 [(.t 15)]), none⟩, ⟨(.some 14), (.mv (.t 16)), none⟩, ⟨(.some 17), (.ext (.t 14) 0), none⟩, ⟨(.some 18), (.ext (.t 14) 1), none⟩, ⟨(.some 3), (.mv (.t 17)), none⟩, ⟨(.some 4), (.mv (.t 18)), none⟩])
 (.seq (.reg [⟨(.some 20), (.mv (.t 0)), none⟩, ⟨(.some 21), (.call false 5 [(.t 20)]), none⟩, ⟨(.some 19), (.mv (.t 21)), none⟩, ⟨(.some 22), (.ext (.t 19) 0), none⟩, ⟨(.some 23), (.ext (.t 19) 1), none⟩, ⟨(.some 5), (.mv (.t 22)), none⟩, ⟨(.some 6), (.mv (.t 23)), none⟩])
 (.seq (.seq (.reg [⟨(.some 24), (.mv (.t 5)), none⟩, ⟨(.some 25), (.mv (.t 3)), none⟩, ⟨(.some 26), (.call true 6 [(.t 24), (.t 25)]), none⟩, ⟨(.some 27), (.una .not (.t 26)), none⟩, ⟨(.some 28), (.mv (.t 27)), none⟩, ⟨(.some 29), (.mv (.t 6)), (.some (28, false))⟩, ⟨(.some 30), (.mv (.t 4)), (.some (28, false))⟩, ⟨(.some 31), (.beq true (.t 29) (.t 30)), (.some (28, false))⟩, ⟨(.some 32), (.pick (.t 28) (.c (.lf (.bool true))) (.t 31)), none⟩])
 (.cond (.t 32) (.seq (.reg [⟨(.some 2), (.mv (.c (.lf (.bool false)))), none⟩])
 .ret) .skip))
 (.seq (.reg [⟨(.some 7), (.mv (.c (.lf (.int .i64 1)))), none⟩])
 (.seq (.reg [⟨(.some 33), (.mv (.t 5)), none⟩, ⟨(.some 34), (.mv (.t 7)), none⟩, ⟨(.some 35), (.call false 7 [(.t 33), (.t 34)]), none⟩, ⟨(.some 7), (.mv (.t 35)), none⟩])
 (.seq (.reg [⟨(.some 8), (.mv (.c (.lf (.int .i64 1)))), none⟩])
 (.seq (.reg [⟨(.some 36), (.mv (.t 5)), none⟩, ⟨(.some 37), (.mv (.t 8)), none⟩, ⟨(.some 38), (.call true 8 [(.t 36), (.t 37)]), none⟩, ⟨(.some 8), (.mv (.t 38)), none⟩])
 (.seq (.seq (.reg [⟨(.some 39), (.mv (.t 8)), none⟩, ⟨(.some 40), (.bin .lss (.t 39) (.c (.lf (.int .i64 0)))), none⟩])
 (.cond (.t 40) (.seq (.reg [⟨(.some 2), (.mv (.c (.lf (.bool false)))), none⟩])
 .ret) .skip))
 (.seq (.seq (.reg [⟨(.some 41), (.mv (.t 8)), none⟩, ⟨(.some 42), (.mv (.t 7)), none⟩, ⟨(.some 43), (.bin .neq (.t 41) (.t 42)), none⟩])
 (.cond (.t 43) (.seq (.reg [⟨(.some 2), (.mv (.c (.lf (.bool false)))), none⟩])
 .ret) .skip))
 (.seq (.reg [⟨(.some 45), (.mv (.t 0)), none⟩, ⟨(.some 46), (.call false 5 [(.t 45)]), none⟩, ⟨(.some 44), (.mv (.t 46)), none⟩, ⟨(.some 47), (.ext (.t 44) 0), none⟩, ⟨(.some 48), (.ext (.t 44) 1), none⟩, ⟨(.some 9), (.mv (.t 47)), none⟩, ⟨(.some 10), (.mv (.t 48)), none⟩])
 (.seq (.seq (.reg [⟨(.some 49), (.mv (.t 9)), none⟩, ⟨(.some 50), (.mv (.t 3)), none⟩, ⟨(.some 51), (.call true 6 [(.t 49), (.t 50)]), none⟩, ⟨(.some 52), (.una .not (.t 51)), none⟩, ⟨(.some 53), (.mv (.t 52)), none⟩, ⟨(.some 54), (.mv (.t 10)), (.some (53, false))⟩, ⟨(.some 55), (.mv (.t 4)), (.some (53, false))⟩, ⟨(.some 56), (.beq true (.t 54) (.t 55)), (.some (53, false))⟩, ⟨(.some 57), (.pick (.t 53) (.c (.lf (.bool true))) (.t 56)), none⟩])
 (.cond (.t 57) (.seq (.reg [⟨(.some 2), (.mv (.c (.lf (.bool false)))), none⟩])
 .ret) .skip))
 (.seq (.reg [⟨(.some 8), (.mv (.c (.lf (.int .i64 1)))), none⟩])
 (.seq (.reg [⟨(.some 58), (.mv (.t 5)), none⟩, ⟨(.some 59), (.mv (.t 8)), none⟩, ⟨(.some 60), (.call true 8 [(.t 58), (.t 59)]), none⟩, ⟨(.some 8), (.mv (.t 60)), none⟩])
 (.seq (.seq (.reg [⟨(.some 61), (.mv (.t 8)), none⟩, ⟨(.some 62), (.bin .lss (.t 61) (.c (.lf (.int .i64 0)))), none⟩])
 (.cond (.t 62) (.seq (.reg [⟨(.some 2), (.mv (.c (.lf (.bool false)))), none⟩])
 .ret) .skip))
 (.seq (.seq (.reg [⟨(.some 63), (.mv (.t 8)), none⟩, ⟨(.some 64), (.mv (.t 7)), none⟩, ⟨(.some 65), (.bin .neq (.t 63) (.t 64)), none⟩])
 (.cond (.t 65) (.seq (.reg [⟨(.some 2), (.mv (.c (.lf (.bool false)))), none⟩])
 .ret) .skip))
 (.seq (.reg [⟨(.some 2), (.mv (.c (.lf (.bool true)))), none⟩])
 .ret)))))))))))))))))), [(.tmp 2)]⟩
class HasLReadChain (S : Sys) : Prop extends HasUh S, HasDE S, HasKE S where
  f3 : S.fs 3 = some L3
theorem readR_small {s : List UInt8} : ((readR s).getD []).length ≤ 8 ∧ ∀ e ∈ (readR s).getD [], e.nums.length ≤ 5 := by
  cases h : readR s with
  | none => simp
  | some es =>
    have hc := (readR_is h).2
    exact ⟨hc.1, fun e he => (hc.2 e he).nums.2.2⟩
set_option maxRecDepth 20000 in
set_option maxHeartbeats 4000000 in
theorem lawReadChain {S : Sys} [HasLReadChain S] [HasRo S] : LawHolds S 3 [(false, .str)] := by
  intro h cs hcs
  obtain ⟨c, _, rfl, ⟨ls, rfl, x, rfl, _⟩, rfl⟩ := hcs
  obtain ⟨⟨s⟩⟩ := x
  have hlen := tlen (l := s)
  refine law_of (F := L3) HasLReadChain.f3 rfl ?_
  unfold L3
  dsimp only []
  by_cases hsz : (1048576 : Int) < s.length
  · repeat' (first | (simp (disch := first | omega | assumption | (simp only [List.length_set]; omega) | (simp [*] <;> fail) | assumption) [-Bool.decide_and, -Bool.decide_or, -Bool.not_and, -Bool.not_or, toNat_pred, toNat_succ, wrap64, wr_new, wr_new0, ok_if, ok_ifn, iadV_sl, makeV_int, decT, decF, over_at, *]) | (with_reducible refine Gd_split (fun hc => ?_) (fun hc => ?_) <;> (have hc2 := hc; try simp at hc2)) | (with_reducible refine Br_split (fun hc => ?_) (fun hc => ?_) <;> (have hc2 := hc; try simp at hc2)) | (with_reducible refine GdT_split (fun hc => ?_) (fun hc => ?_) <;> (have hc2 := hc; try simp at hc2)) | (with_reducible refine WT_alt ?_ ?_) | omega)
  have hs2 : s.length ≤ 2000000 := by omega
  have cs : ∀ {g K}, h.length ≤ g.length → (∀ o po g', NewD g g' o 37 3 Eff.cells Eff.nums 50 po → po.map (·.1) = (readR s).getD [] → K (.tup [.lf o, .lf (.bool (readR s).isSome)]) g') → CallT S false 4 [.lf (.str ⟨s.toArray⟩)] g h.length K := fun {g K} hl hk => c_specReadChain hs2 hl (fun o g' qs hr hD => by
      have := hk o qs g' hD (by rw [hr]; rfl)
      rw [hr] at this
      exact this) (fun hr g' hK => by
      have := hk .nils [] g' (NewD.start hK) (by rw [hr]; rfl)
      rw [hr] at this
      exact this)
  have ci : ∀ {g K}, h.length ≤ g.length → (∀ o po g', NewD g g' o 37 3 Eff.cells Eff.nums 50 po → po.map (·.1) = (readR s).getD [] → K (.tup [.lf o, .lf (.bool (readR s).isSome)]) g') → CallT S false 5 [.lf (.str ⟨s.toArray⟩)] g h.length K := fun {g K} hl hk => c_implReadChain hs2 hl (fun o g' qs hr hD => by
      have := hk o qs g' hD (by rw [hr]; rfl)
      rw [hr] at this
      exact this) (fun hr g' hK => by
      have := hk .nils [] g' (NewD.start hK) (by rw [hr]; rfl)
      rw [hr] at this
      exact this)
  have hsm := readR_small (s := s)
  generalize (readR s).getD [] = y at *
  generalize (readR s).isSome = ok at *
  have hlo0 : ∀ {qs : List (Eff × Lf)}, qs.map (·.1) = y → qs.length ≤ 16777216 ∧ szD Eff.nums qs ≤ 16777216 := fun he => by have := small_of (ro := Eff.nums) hsm.1 hsm.2 he; omega
  clear hsm
  repeat' (first | (simp (disch := first | omega | assumption | (simp only [List.length_set]; omega) | (simp [*] <;> fail) | assumption) [-Bool.decide_and, -Bool.decide_or, -Bool.not_and, -Bool.not_or, toNat_pred, toNat_succ, wrap64, wr_new, wr_new0, ok_if, ok_ifn, iadV_sl, makeV_int, decT, decF, over_at, *]) | (with_reducible refine Gd_split (fun hc => ?_) (fun hc => ?_) <;> (have hc2 := hc; try simp at hc2)) | (with_reducible refine Br_split (fun hc => ?_) (fun hc => ?_) <;> (have hc2 := hc; try simp at hc2)) | (with_reducible refine GdT_split (fun hc => ?_) (fun hc => ?_) <;> (have hc2 := hc; try simp at hc2)) | (with_reducible refine WT_alt ?_ ?_) | omega)
  refine cs  (Kept.refl h).1 fun s0 ps0 g1 hs0 Es0  => ?_
  have Bs0 := hlo0 Es0
  have K2 := (Kept.refl h).trans hs0.kept
  have Q2 := hs0.kept.1
  have P2 := K2.1
  have Zs0 := hs0.lvs_lt
  have Ns0 := hs0.base (Kept.refl h)
  repeat' (first | (simp (disch := first | omega | assumption | (simp only [List.length_set]; omega) | (simp [*] <;> fail) | assumption) [-Bool.decide_and, -Bool.decide_or, -Bool.not_and, -Bool.not_or, toNat_pred, toNat_succ, wrap64, wr_new, wr_new0, ok_if, ok_ifn, iadV_sl, makeV_int, decT, decF, over_at, *]) | (with_reducible refine Gd_split (fun hc => ?_) (fun hc => ?_) <;> (have hc2 := hc; try simp at hc2)) | (with_reducible refine Br_split (fun hc => ?_) (fun hc => ?_) <;> (have hc2 := hc; try simp at hc2)) | (with_reducible refine GdT_split (fun hc => ?_) (fun hc => ?_) <;> (have hc2 := hc; try simp at hc2)) | (with_reducible refine WT_alt ?_ ?_) | omega)
  refine ci  K2.1 fun r0 pr0 g3 hr0 Er0  => ?_
  have Br0 := hlo0 Er0
  have K4 := K2.trans hr0.kept
  have Q4 := hr0.kept.1
  have P4 := K4.1
  have Zr0 := hr0.lvs_lt
  have Nr0 := hr0.base K2
  replace Ns0 := Ns0.later hr0.kept
  repeat' (first | (simp (disch := first | omega | assumption | (simp only [List.length_set]; omega) | (simp [*] <;> fail) | assumption) [-Bool.decide_and, -Bool.decide_or, -Bool.not_and, -Bool.not_or, toNat_pred, toNat_succ, wrap64, wr_new, wr_new0, ok_if, ok_ifn, iadV_sl, makeV_int, decT, decF, over_at, *, c_eqEffectS Nr0.arr Nr0.ins Ns0.arr Ns0.ins (Es0.trans Er0.symm)]) | (with_reducible refine Gd_split (fun hc => ?_) (fun hc => ?_) <;> (have hc2 := hc; try simp at hc2)) | (with_reducible refine Br_split (fun hc => ?_) (fun hc => ?_) <;> (have hc2 := hc; try simp at hc2)) | (with_reducible refine GdT_split (fun hc => ?_) (fun hc => ?_) <;> (have hc2 := hc; try simp at hc2)) | (with_reducible refine WT_alt ?_ ?_) | omega)
  refine c_markEffectS Nr0 (by omega) (by have := Br0; rw [kAt_all (ro := Eff.nums) (c := 2) (k := 1) (ps := pr0)]; omega) Br0.1 Br0.2 (Nat.le_refl _) fun g5 hM5 hB5 => ?_
  have O5 : ∀ s ∈ lvs r0 pr0, s ≠ .nils → h.length ≤ s.id := fun s hs q => by have := Zr0 s hs q; omega
  have Q5 := hB5.len
  have K5 := hB5.kept K4 O5
  replace Ns0 := hB5.newD Ns0 O5 (fun s hs t ht q1 q2 e => by have := Zr0 s hs q1; have := Zs0 t ht q2; omega)
  have V5 : 1 ≤ kAt Eff.nums 2 1 pr0 pr0.length ∧ kAt Eff.nums 2 1 pr0 pr0.length ≤ 1 + 2 * 16777216 + 16777216 := by have := Br0; rw [kAt_all (ro := Eff.nums) (c := 2) (k := 1) (ps := pr0)]; omega
  replace Nr0 := hM5
  rw [← lvs_mkD (l := r0) (ps := pr0) (mk := mkE) (ro := Eff.nums) (c := 2) (k := 1)] at Zr0
  repeat' (first | (simp (disch := first | omega | assumption | (simp only [List.length_set]; omega) | (simp [*] <;> fail) | assumption) [-Bool.decide_and, -Bool.decide_or, -Bool.not_and, -Bool.not_or, toNat_pred, toNat_succ, wrap64, wr_new, wr_new0, ok_if, ok_ifn, iadV_sl, makeV_int, decT, decF, over_at, *, c_heldEffectS Nr0.arr Nr0.ins (by omega) (by have := Br0; rw [kAt_all (ro := Eff.nums) (c := 2) (k := 1) (ps := pr0)]; omega) Br0.1 Br0.2]) | (with_reducible refine Gd_split (fun hc => ?_) (fun hc => ?_) <;> (have hc2 := hc; try simp at hc2)) | (with_reducible refine Br_split (fun hc => ?_) (fun hc => ?_) <;> (have hc2 := hc; try simp at hc2)) | (with_reducible refine GdT_split (fun hc => ?_) (fun hc => ?_) <;> (have hc2 := hc; try simp at hc2)) | (with_reducible refine WT_alt ?_ ?_) | omega)
  refine ci  K5.1 fun u0 pu0 g6 hu0 Eu0  => ?_
  have Bu0 := hlo0 Eu0
  have K7 := K5.trans hu0.kept
  have Q7 := hu0.kept.1
  have P7 := K7.1
  have Zu0 := hu0.lvs_lt
  have Nu0 := hu0.base K5
  replace Ns0 := Ns0.later hu0.kept
  replace Nr0 := Nr0.later hu0.kept
  repeat' (first | (simp (disch := first | omega | assumption | (simp only [List.length_set]; omega) | (simp [*] <;> fail) | assumption) [-Bool.decide_and, -Bool.decide_or, -Bool.not_and, -Bool.not_or, toNat_pred, toNat_succ, wrap64, wr_new, wr_new0, ok_if, ok_ifn, iadV_sl, makeV_int, decT, decF, over_at, *, c_eqEffectS Nu0.arr Nu0.ins Ns0.arr Ns0.ins (Es0.trans Eu0.symm), c_heldEffectS Nr0.arr Nr0.ins (by omega) (by have := Br0; rw [kAt_all (ro := Eff.nums) (c := 2) (k := 1) (ps := pr0)]; omega) Br0.1 Br0.2]) | (with_reducible refine Gd_split (fun hc => ?_) (fun hc => ?_) <;> (have hc2 := hc; try simp at hc2)) | (with_reducible refine Br_split (fun hc => ?_) (fun hc => ?_) <;> (have hc2 := hc; try simp at hc2)) | (with_reducible refine GdT_split (fun hc => ?_) (fun hc => ?_) <;> (have hc2 := hc; try simp at hc2)) | (with_reducible refine WT_alt ?_ ?_) | omega)
end Go.E
namespace Go.E.ReadChain
open Go Go.E
def pure : FuncId → Bool := fun f => List.elem f [3, 6, 8, 12, 14, 15, 17, 19, 21, 22, 25, 26, 28, 29, 30, 31, 32, 33, 34, 35, 36, 38, 39, 42, 43, 44, 45, 46, 47, 48, 49, 50, 51, 52, 53, 54, 55, 56, 57, 63, 64, 65, 66, 67, 68, 69, 70, 71, 72, 73, 74, 76, 77, 78, 81, 82, 83, 84, 85, 86, 87, 88, 89, 90, 91, 93, 95, 97, 104, 106, 111]
def funs : List (Nat × LFn) := [(33, L33), (34, L34), (32, L32), (45, L45), (53, L53), (65, L65), (25, L25), (31, L31), (10, L10), (18, L18), (27, L27), (19, L19), (13, L13), (20, L20), (28, L28), (43, L43), (44, L44), (64, L64), (26, L26), (36, L36), (14, L14), (21, L21), (29, L29), (35, L35), (46, L46), (47, L47), (51, L51), (52, L52), (66, L66), (67, L67), (22, L22), (4, L4), (5, L5), (9, L9), (48, L48), (16, L16), (17, L17), (30, L30), (6, L6), (15, L15), (7, L7), (8, L8), (3, L3)]
def Sy : Sys := { fs := (sysOf funs).fs, xt := readX }
instance : HasRo Sy := { none_ := rfl, xt_ := rfl }
theorem lfn33 : lFn Go.Proofs.Tryd.prog pure Go.Proofs.Tryd.f33 = some L33 := by kernel_rfl
theorem lfn34 : lFn Go.Proofs.Tryd.prog pure Go.Proofs.Tryd.f34 = some L34 := by kernel_rfl
theorem lfn32 : lFn Go.Proofs.Tryd.prog pure Go.Proofs.Tryd.f32 = some L32 := by kernel_rfl
theorem lfn45 : lFn Go.Proofs.Tryd.prog pure Go.Proofs.Tryd.f45 = some L45 := by kernel_rfl
theorem lfn53 : lFn Go.Proofs.Tryd.prog pure Go.Proofs.Tryd.f53 = some L53 := by kernel_rfl
theorem lfn65 : lFn Go.Proofs.Tryd.prog pure Go.Proofs.Tryd.f65 = some L65 := by kernel_rfl
theorem lfn25 : lFn Go.Proofs.Tryd.prog pure Go.Proofs.Tryd.f25 = some L25 := by kernel_rfl
theorem lfn31 : lFn Go.Proofs.Tryd.prog pure Go.Proofs.Tryd.f31 = some L31 := by kernel_rfl
theorem lfn10 : lFn Go.Proofs.Tryd.prog pure Go.Proofs.Tryd.f10 = some L10 := by kernel_rfl
theorem lfn18 : lFn Go.Proofs.Tryd.prog pure Go.Proofs.Tryd.f18 = some L18 := by kernel_rfl
theorem lfn27 : lFn Go.Proofs.Tryd.prog pure Go.Proofs.Tryd.f27 = some L27 := by kernel_rfl
theorem lfn19 : lFn Go.Proofs.Tryd.prog pure Go.Proofs.Tryd.f19 = some L19 := by kernel_rfl
theorem lfn13 : lFn Go.Proofs.Tryd.prog pure Go.Proofs.Tryd.f13 = some L13 := by kernel_rfl
theorem lfn20 : lFn Go.Proofs.Tryd.prog pure Go.Proofs.Tryd.f20 = some L20 := by kernel_rfl
theorem lfn28 : lFn Go.Proofs.Tryd.prog pure Go.Proofs.Tryd.f28 = some L28 := by kernel_rfl
theorem lfn43 : lFn Go.Proofs.Tryd.prog pure Go.Proofs.Tryd.f43 = some L43 := by kernel_rfl
theorem lfn44 : lFn Go.Proofs.Tryd.prog pure Go.Proofs.Tryd.f44 = some L44 := by kernel_rfl
theorem lfn64 : lFn Go.Proofs.Tryd.prog pure Go.Proofs.Tryd.f64 = some L64 := by kernel_rfl
theorem lfn26 : lFn Go.Proofs.Tryd.prog pure Go.Proofs.Tryd.f26 = some L26 := by kernel_rfl
theorem lfn36 : lFn Go.Proofs.Tryd.prog pure Go.Proofs.Tryd.f36 = some L36 := by kernel_rfl
theorem lfn14 : lFn Go.Proofs.Tryd.prog pure Go.Proofs.Tryd.f14 = some L14 := by kernel_rfl
theorem lfn21 : lFn Go.Proofs.Tryd.prog pure Go.Proofs.Tryd.f21 = some L21 := by kernel_rfl
theorem lfn29 : lFn Go.Proofs.Tryd.prog pure Go.Proofs.Tryd.f29 = some L29 := by kernel_rfl
theorem lfn35 : lFn Go.Proofs.Tryd.prog pure Go.Proofs.Tryd.f35 = some L35 := by kernel_rfl
theorem lfn46 : lFn Go.Proofs.Tryd.prog pure Go.Proofs.Tryd.f46 = some L46 := by kernel_rfl
theorem lfn47 : lFn Go.Proofs.Tryd.prog pure Go.Proofs.Tryd.f47 = some L47 := by kernel_rfl
theorem lfn51 : lFn Go.Proofs.Tryd.prog pure Go.Proofs.Tryd.f51 = some L51 := by kernel_rfl
theorem lfn52 : lFn Go.Proofs.Tryd.prog pure Go.Proofs.Tryd.f52 = some L52 := by kernel_rfl
theorem lfn66 : lFn Go.Proofs.Tryd.prog pure Go.Proofs.Tryd.f66 = some L66 := by kernel_rfl
theorem lfn67 : lFn Go.Proofs.Tryd.prog pure Go.Proofs.Tryd.f67 = some L67 := by kernel_rfl
theorem lfn22 : lFn Go.Proofs.Tryd.prog pure Go.Proofs.Tryd.f22 = some L22 := by kernel_rfl
theorem lfn4 : lFn Go.Proofs.Tryd.prog pure Go.Proofs.Tryd.f4 = some L4 := by kernel_rfl
theorem lfn5 : lFn Go.Proofs.Tryd.prog pure Go.Proofs.Tryd.f5 = some L5 := by kernel_rfl
theorem lfn9 : lFn Go.Proofs.Tryd.prog pure Go.Proofs.Tryd.f9 = some L9 := by kernel_rfl
theorem lfn48 : lFn Go.Proofs.Tryd.prog pure Go.Proofs.Tryd.f48 = some L48 := by kernel_rfl
theorem lfn16 : lFn Go.Proofs.Tryd.prog pure Go.Proofs.Tryd.f16 = some L16 := by kernel_rfl
theorem lfn17 : lFn Go.Proofs.Tryd.prog pure Go.Proofs.Tryd.f17 = some L17 := by kernel_rfl
theorem lfn30 : lFn Go.Proofs.Tryd.prog pure Go.Proofs.Tryd.f30 = some L30 := by kernel_rfl
theorem lfn6 : lFn Go.Proofs.Tryd.prog pure Go.Proofs.Tryd.f6 = some L6 := by kernel_rfl
theorem lfn15 : lFn Go.Proofs.Tryd.prog pure Go.Proofs.Tryd.f15 = some L15 := by kernel_rfl
theorem lfn7 : lFn Go.Proofs.Tryd.prog pure Go.Proofs.Tryd.f7 = some L7 := by kernel_rfl
theorem lfn8 : lFn Go.Proofs.Tryd.prog pure Go.Proofs.Tryd.f8 = some L8 := by kernel_rfl
theorem lfn3 : lFn Go.Proofs.Tryd.prog pure Go.Proofs.Tryd.f3 = some L3 := by kernel_rfl
instance : HasFb Sy := { f33 := rfl, f34 := rfl }
instance : HasTx Sy := { f32 := rfl, f45 := rfl, f53 := rfl, f65 := rfl }
instance : HasA Sy := { f25 := rfl, f31 := rfl }
instance : HasP Sy := {  }
instance : HasUe Sy := { f10 := rfl, f18 := rfl, f27 := rfl }
instance : HasUf Sy := { f19 := rfl }
instance : HasUg Sy := { f13 := rfl, f20 := rfl, f28 := rfl, f43 := rfl, f44 := rfl, f64 := rfl }
instance : HasTy Sy := { f26 := rfl, f36 := rfl }
instance : HasEf Sy := { f14 := rfl, f21 := rfl, f29 := rfl, f35 := rfl, f46 := rfl, f47 := rfl, f51 := rfl, f52 := rfl, f66 := rfl, f67 := rfl }
instance : HasCx Sy := { f22 := rfl }
instance : HasUh Sy := { f4 := rfl, f5 := rfl, f9 := rfl }
instance : HasSame Sy := { f48 := rfl }
instance : HasF Sy := { f16 := rfl, f17 := rfl, f30 := rfl }
instance : HasSz Sy := {  }
instance : HasDE Sy := { f6 := rfl, f15 := rfl }
instance : HasKE Sy := { f7 := rfl, f8 := rfl }
instance : HasLReadChain Sy := { f3 := rfl }
theorem sysOK0 {B : Nat} {w0 : World} : SysOK Go.Proofs.Tryd.prog pure (sysOf funs) B w0 := SysOK.of (by
  intro p hp
  simp only [funs, List.mem_cons, List.not_mem_nil, or_false] at hp
  rcases hp with rfl | rfl | rfl | rfl | rfl | rfl | rfl | rfl | rfl | rfl | rfl | rfl | rfl | rfl | rfl | rfl | rfl | rfl | rfl | rfl | rfl | rfl | rfl | rfl | rfl | rfl | rfl | rfl | rfl | rfl | rfl | rfl | rfl | rfl | rfl | rfl | rfl | rfl | rfl | rfl | rfl | rfl | rfl
  · exact ⟨_, Go.Proofs.Tryd.func33, lfn33⟩
  · exact ⟨_, Go.Proofs.Tryd.func34, lfn34⟩
  · exact ⟨_, Go.Proofs.Tryd.func32, lfn32⟩
  · exact ⟨_, Go.Proofs.Tryd.func45, lfn45⟩
  · exact ⟨_, Go.Proofs.Tryd.func53, lfn53⟩
  · exact ⟨_, Go.Proofs.Tryd.func65, lfn65⟩
  · exact ⟨_, Go.Proofs.Tryd.func25, lfn25⟩
  · exact ⟨_, Go.Proofs.Tryd.func31, lfn31⟩
  · exact ⟨_, Go.Proofs.Tryd.func10, lfn10⟩
  · exact ⟨_, Go.Proofs.Tryd.func18, lfn18⟩
  · exact ⟨_, Go.Proofs.Tryd.func27, lfn27⟩
  · exact ⟨_, Go.Proofs.Tryd.func19, lfn19⟩
  · exact ⟨_, Go.Proofs.Tryd.func13, lfn13⟩
  · exact ⟨_, Go.Proofs.Tryd.func20, lfn20⟩
  · exact ⟨_, Go.Proofs.Tryd.func28, lfn28⟩
  · exact ⟨_, Go.Proofs.Tryd.func43, lfn43⟩
  · exact ⟨_, Go.Proofs.Tryd.func44, lfn44⟩
  · exact ⟨_, Go.Proofs.Tryd.func64, lfn64⟩
  · exact ⟨_, Go.Proofs.Tryd.func26, lfn26⟩
  · exact ⟨_, Go.Proofs.Tryd.func36, lfn36⟩
  · exact ⟨_, Go.Proofs.Tryd.func14, lfn14⟩
  · exact ⟨_, Go.Proofs.Tryd.func21, lfn21⟩
  · exact ⟨_, Go.Proofs.Tryd.func29, lfn29⟩
  · exact ⟨_, Go.Proofs.Tryd.func35, lfn35⟩
  · exact ⟨_, Go.Proofs.Tryd.func46, lfn46⟩
  · exact ⟨_, Go.Proofs.Tryd.func47, lfn47⟩
  · exact ⟨_, Go.Proofs.Tryd.func51, lfn51⟩
  · exact ⟨_, Go.Proofs.Tryd.func52, lfn52⟩
  · exact ⟨_, Go.Proofs.Tryd.func66, lfn66⟩
  · exact ⟨_, Go.Proofs.Tryd.func67, lfn67⟩
  · exact ⟨_, Go.Proofs.Tryd.func22, lfn22⟩
  · exact ⟨_, Go.Proofs.Tryd.func4, lfn4⟩
  · exact ⟨_, Go.Proofs.Tryd.func5, lfn5⟩
  · exact ⟨_, Go.Proofs.Tryd.func9, lfn9⟩
  · exact ⟨_, Go.Proofs.Tryd.func48, lfn48⟩
  · exact ⟨_, Go.Proofs.Tryd.func16, lfn16⟩
  · exact ⟨_, Go.Proofs.Tryd.func17, lfn17⟩
  · exact ⟨_, Go.Proofs.Tryd.func30, lfn30⟩
  · exact ⟨_, Go.Proofs.Tryd.func6, lfn6⟩
  · exact ⟨_, Go.Proofs.Tryd.func15, lfn15⟩
  · exact ⟨_, Go.Proofs.Tryd.func7, lfn7⟩
  · exact ⟨_, Go.Proofs.Tryd.func8, lfn8⟩
  · exact ⟨_, Go.Proofs.Tryd.func3, lfn3⟩)
theorem sysOK {B : Nat} {w0 : World} (hT : ReadH B w0) : SysOK Go.Proofs.Tryd.prog pure Sy B w0 := ⟨(sysOK0 (B := B) (w0 := w0)).fs, readX_ok hT⟩

end Go.E.ReadChain
