/- The laws' marks in sessions: nothing else changes. -/
import Derived.Test.YtclbkfmelhheaaaMSt
import Derived.Test.YtclbkfmelhheaaaMDk
set_option linter.unusedVariables false
set_option linter.unusedSimpArgs false
namespace Go.E
open Go
def L120 : LFn := ⟨2, (.seq (.reg [⟨(.some 4), (.mv (.c (.lf (.int .i64 0)))), none⟩])
 (.seq (.seq (.reg [⟨(.some 5), (.mv (.c (.lf (.int .i64 0)))), none⟩])
 (.block 0 (.loop (.seq (.seq (.reg [⟨(.some 6), (.mv (.t 5)), none⟩, ⟨(.some 7), (.mv (.t 0)), none⟩, ⟨(.some 8), (.len (.t 7)), none⟩, ⟨(.some 9), (.bin .lss (.t 6) (.t 8)), none⟩])
 (.cond (.t 9) .skip (.exit 0)))
 (.seq (.block 1 (.seq (.reg [⟨(.some 12), (.mv (.t 0)), none⟩, ⟨(.some 13), (.mv (.t 5)), none⟩, ⟨(.some 14), (.mv (.t 1)), none⟩, ⟨(.some 15), (.iaddr 3 (.t 12) (.t 13)), none⟩, ⟨(.some 16), (.faddr 0 (.t 15)), none⟩, ⟨none, (.store 1 (.t 16) (.t 14)), none⟩])
 (.seq (.reg [⟨(.some 17), (.mv (.t 1)), none⟩, ⟨(.some 18), (.bin .add (.t 17) (.c (.lf (.int .i64 1)))), none⟩, ⟨(.some 1), (.mv (.t 18)), none⟩])
 (.seq (.reg [⟨(.some 19), (.mv (.t 0)), none⟩, ⟨(.some 20), (.mv (.t 5)), none⟩, ⟨(.some 21), (.mv (.t 1)), none⟩, ⟨(.some 22), (.iaddr 3 (.t 19) (.t 20)), none⟩, ⟨(.some 23), (.faddr 1 (.t 22)), none⟩, ⟨none, (.store 1 (.t 23) (.t 21)), none⟩])
 (.seq (.reg [⟨(.some 24), (.mv (.t 1)), none⟩, ⟨(.some 25), (.bin .add (.t 24) (.c (.lf (.int .i64 1)))), none⟩, ⟨(.some 1), (.mv (.t 25)), none⟩])
 (.reg [⟨(.some 26), (.mv (.t 0)), none⟩, ⟨(.some 27), (.mv (.t 5)), none⟩, ⟨(.some 28), (.iaddr 3 (.t 26) (.t 27)), none⟩, ⟨(.some 29), (.faddr 2 (.t 28)), none⟩, ⟨(.some 30), (.load false 1 (.t 29)), none⟩, ⟨(.some 31), (.mv (.t 1)), none⟩, ⟨(.some 32), (.call false 17 [(.t 30), (.t 31)]), none⟩, ⟨(.some 1), (.mv (.t 32)), none⟩]))))))
 (.reg [⟨(.some 10), (.mv (.t 5)), none⟩, ⟨(.some 11), (.bin .add (.t 10) (.c (.lf (.int .i64 1)))), none⟩, ⟨(.some 5), (.mv (.t 11)), none⟩]))))))
 (.seq (.reg [⟨(.some 33), (.mv (.t 1)), none⟩, ⟨(.some 4), (.mv (.t 33)), none⟩])
 .ret))), [(.tmp 4)]⟩
class HasKC (S : Sys) : Prop extends HasF S where
  f120 : S.fs 120 = some L120
def L121 : LFn := ⟨2, (.seq (.reg [⟨(.some 4), (.mv (.c (.lf (.int .i64 0)))), none⟩])
 (.seq (.seq (.reg [⟨(.some 5), (.mv (.c (.lf (.int .i64 0)))), none⟩])
 (.block 0 (.loop (.seq (.seq (.reg [⟨(.some 6), (.mv (.t 5)), none⟩, ⟨(.some 7), (.mv (.t 0)), none⟩, ⟨(.some 8), (.len (.t 7)), none⟩, ⟨(.some 9), (.bin .lss (.t 6) (.t 8)), none⟩])
 (.cond (.t 9) .skip (.exit 0)))
 (.seq (.block 1 (.seq (.reg [⟨(.some 12), (.mv (.t 0)), none⟩, ⟨(.some 13), (.mv (.t 5)), none⟩, ⟨(.some 14), (.iaddr 5 (.t 12) (.t 13)), none⟩, ⟨(.some 15), (.faddr 0 (.t 14)), none⟩, ⟨(.some 16), (.load false 1 (.t 15)), none⟩, ⟨(.some 17), (.mv (.t 1)), none⟩, ⟨(.some 18), (.call false 171 [(.t 16), (.t 17)]), none⟩, ⟨(.some 1), (.mv (.t 18)), none⟩])
 (.seq (.reg [⟨(.some 19), (.mv (.t 0)), none⟩, ⟨(.some 20), (.mv (.t 5)), none⟩, ⟨(.some 21), (.mv (.t 1)), none⟩, ⟨(.some 22), (.iaddr 5 (.t 19) (.t 20)), none⟩, ⟨(.some 23), (.faddr 1 (.t 22)), none⟩, ⟨none, (.store 1 (.t 23) (.t 21)), none⟩])
 (.seq (.reg [⟨(.some 24), (.mv (.t 1)), none⟩, ⟨(.some 25), (.bin .add (.t 24) (.c (.lf (.int .i64 1)))), none⟩, ⟨(.some 1), (.mv (.t 25)), none⟩])
 (.seq (.reg [⟨(.some 26), (.mv (.t 0)), none⟩, ⟨(.some 27), (.mv (.t 5)), none⟩, ⟨(.some 28), (.mv (.t 1)), none⟩, ⟨(.some 29), (.toflt .f32 (.t 28)), none⟩, ⟨(.some 30), (.iaddr 5 (.t 26) (.t 27)), none⟩, ⟨(.some 31), (.faddr 2 (.t 30)), none⟩, ⟨none, (.store 1 (.t 31) (.t 29)), none⟩])
 (.seq (.reg [⟨(.some 32), (.mv (.t 1)), none⟩, ⟨(.some 33), (.bin .add (.t 32) (.c (.lf (.int .i64 1)))), none⟩, ⟨(.some 1), (.mv (.t 33)), none⟩])
 (.seq (.reg [⟨(.some 34), (.mv (.t 0)), none⟩, ⟨(.some 35), (.mv (.t 5)), none⟩, ⟨(.some 36), (.mv (.t 1)), none⟩, ⟨(.some 37), (.bin .rem (.t 36) (.c (.lf (.int .i64 3)))), none⟩, ⟨(.some 38), (.bin .eql (.t 37) (.c (.lf (.int .i64 0)))), none⟩, ⟨(.some 39), (.iaddr 5 (.t 34) (.t 35)), none⟩, ⟨(.some 40), (.faddr 3 (.t 39)), none⟩, ⟨none, (.store 1 (.t 40) (.t 38)), none⟩])
 (.seq (.reg [⟨(.some 41), (.mv (.t 1)), none⟩, ⟨(.some 42), (.bin .add (.t 41) (.c (.lf (.int .i64 1)))), none⟩, ⟨(.some 1), (.mv (.t 42)), none⟩])
 (.seq (.reg [⟨(.some 43), (.mv (.t 0)), none⟩, ⟨(.some 44), (.mv (.t 5)), none⟩, ⟨(.some 45), (.mv (.t 1)), none⟩, ⟨(.some 46), (.bin .rem (.t 45) (.c (.lf (.int .i64 3)))), none⟩, ⟨(.some 47), (.bin .eql (.t 46) (.c (.lf (.int .i64 0)))), none⟩, ⟨(.some 48), (.iaddr 5 (.t 43) (.t 44)), none⟩, ⟨(.some 49), (.faddr 4 (.t 48)), none⟩, ⟨none, (.store 1 (.t 49) (.t 47)), none⟩])
 (.reg [⟨(.some 50), (.mv (.t 1)), none⟩, ⟨(.some 51), (.bin .add (.t 50) (.c (.lf (.int .i64 1)))), none⟩, ⟨(.some 1), (.mv (.t 51)), none⟩]))))))))))
 (.reg [⟨(.some 10), (.mv (.t 5)), none⟩, ⟨(.some 11), (.bin .add (.t 10) (.c (.lf (.int .i64 1)))), none⟩, ⟨(.some 5), (.mv (.t 11)), none⟩]))))))
 (.seq (.reg [⟨(.some 52), (.mv (.t 1)), none⟩, ⟨(.some 4), (.mv (.t 52)), none⟩])
 .ret))), [(.tmp 4)]⟩
class HasKP (S : Sys) : Prop extends HasKE S where
  f121 : S.fs 121 = some L121
def L50 : LFn := ⟨2, (.seq (.reg [⟨(.some 2), (.box 46 (.t 0)), none⟩, ⟨(.some 4), (.mv (.c (.lf (.int .i64 0)))), none⟩])
 (.seq (.reg [⟨(.some 5), (.faddr 0 (.t 2)), none⟩, ⟨(.some 6), (.load false 1 (.t 5)), none⟩, ⟨(.some 7), (.mv (.t 1)), none⟩, ⟨(.some 8), (.call false 120 [(.t 6), (.t 7)]), none⟩, ⟨(.some 1), (.mv (.t 8)), none⟩])
 (.seq (.reg [⟨(.some 9), (.faddr 1 (.t 2)), none⟩, ⟨(.some 10), (.load false 1 (.t 9)), none⟩, ⟨(.some 11), (.mv (.t 1)), none⟩, ⟨(.some 12), (.call false 121 [(.t 10), (.t 11)]), none⟩, ⟨(.some 1), (.mv (.t 12)), none⟩])
 (.seq (.reg [⟨(.some 13), (.mv (.t 1)), none⟩, ⟨(.some 4), (.mv (.t 13)), none⟩])
 .ret)))), [(.tmp 4)]⟩
class HasKN (S : Sys) : Prop extends HasKC S, HasKP S where
  f50 : S.fs 50 = some L50
section
variable {g g' g2 : Hp} {ls ls' : List Lf}
theorem Buts.trans (a : Buts g g' ls) (b : Buts g' g2 ls') (hs : ∀ s ∈ ls', s ∈ ls) : Buts g g2 ls :=
  ⟨Nat.le_trans a.len b.len, fun id hid hne => by
    rw [b.same id (Nat.lt_of_lt_of_le hid a.len) (fun s q hn => hne s (hs s q) hn), a.same id hid hne]⟩
theorem Buts.mono (a : Buts g g' ls) (hs : ∀ s ∈ ls, s ∈ ls') : Buts g g' ls' := ⟨a.len, fun id hid hne => a.same id hid fun s q hn => hne s (hs s q) hn⟩
theorem Buts.ofKept (k : Kept g g') : Buts g g' ls := ⟨k.1, fun id hid _ => k.2 id hid⟩
theorem Buts.rd (a : Buts g g' ls) {id off n : Nat} {cs : List Lf} (h : rdCells g id off n = some cs) (hne : ∀ s ∈ ls, s ≠ .nils → id ≠ s.id) : rdCells g' id off n = some cs := by
  have hid := rd_lt h
  unfold rdCells at h ⊢
  rw [a.same id hid hne]; exact h
end
section
variable {h g : Hp} {l : Lf} {lim : Nat} {ss : List (Str × Lf)}
/-- One field of a strip is written anew. -/
theorem strCell {qs : List (Str × Lf)} {i off : Nat} {q' : Str × Lf} {c : Lf} {K : CV → Hp → Prop} (hN : New h g l 114 5 (qs.map Str.cells)) (hi : i < qs.length) (hc : Str.cells q' = (Str.cells qs[i]).set off c) (hoff : off < 5) (hl : lim ≤ h.length)
    (hK : ∀ g', New h g' l 114 5 ((qs.set i q').map Str.cells) → But g g' l l → K un g') : oc ((wrCells lim g l.id (l.off + i * 5 + off) [c]).map fun h' => (un, h')) K := by
  have hD : NewD h g l 114 5 (fun p : (Str × Lf) × Lf => Str.cells p.1) (fun _ => []) 0 (qs.map fun r => (r, Lf.nils)) := by
    refine ⟨by simpa [Function.comp_def] using hN, fun p hp => ?_, ?_, fun p hp => ?_⟩
    · obtain ⟨r, _, rfl⟩ := List.mem_map.1 hp; exact New.nil hN.kept
    · rw [List.pairwise_map]; exact List.pairwise_of_forall (fun _ _ => Far.nil_left)
    · obtain ⟨r, _, rfl⟩ := List.mem_map.1 hp; exact Far.nil_right
  refine hD.cell (a := q') (i := i) (by simpa using hi) (by simpa using hc) rfl hoff hl fun g' h1 h2 => hK g' ?_ h2
  have := h1.out
  have e : ((qs.map fun r => (r, Lf.nils)).set i (q', ((qs.map fun r => (r, Lf.nils))[i]'(by simpa using hi)).2)).map (fun p : (Str × Lf) × Lf => Str.cells p.1) = (qs.set i q').map Str.cells := by
    rw [List.map_set, List.map_map, List.map_set]; rfl
  rw [e] at this; exact this
/-- So many marks are set in a strip's effects. -/
def Str.ro2 (s : Str) : List Nat := List.replicate (2 * s.ps.length + szD Eff.nums s.ps) 0
@[simp] theorem Str.ro2_len {s : Str} : s.ro2.length = 2 * s.ps.length + szD Eff.nums s.ps := by simp [Str.ro2]
theorem szD_ro2 : ∀ {ss : List (Str × Lf)}, szD Str.ro2 ss ≤ 2 * szD Str.ro ss
  | [] => by simp [szD]
  | p :: ss => by
    have := szD_ro2 (ss := ss)
    simp only [szD, Str.ro2_len, Str.ro_len]
    omega
theorem szR_eq : ∀ {ss rs : List (Str × Lf)}, valS rs = valS ss → szD Str.ro rs = szD Str.ro ss
  | [], rs, h => by have := valS_eq h; rw [List.length_nil, List.length_eq_zero_iff] at this; rw [this]
  | p :: ss, [], h => by simp [valS] at h
  | p :: ss, q :: rs, h => by
    simp only [valS, List.map_cons, List.cons.injEq] at h
    have ih := szR_eq (ss := ss) (rs := rs) h.2
    have he : q.1.ps.map (·.1) = p.1.ps.map (·.1) := congrArg StrV.effs h.1
    have h1 := map_len he
    have h2 := szD_map (ro := Eff.nums) he
    simp only [szD, Str.ro_len, ih, h1, h2]
theorem mem_lvS {p : Str × Lf} {a : Lf} (hp : p ∈ ss) (ha : a ∈ lvE p) : a ∈ lvS l ss := by
  unfold lvS; exact List.mem_cons_of_mem _ (List.mem_flatMap.2 ⟨p, hp, ha⟩)
theorem head_lvS : l ∈ lvS l ss := by simp [lvS]
theorem NewS.apart (hS : NewS h g l ss) {i j : Nat} (hi : i < ss.length) (hj : j < ss.length) (hij : i < j) : ∀ a ∈ lvE ss[i], ∀ b ∈ lvE ss[j], Far a b := List.pairwise_iff_getElem.1 hS.far i j hi hj hij
end
section
variable {S : Sys} {lim : Nat} {h : Hp} {K : CV → Hp → Prop} {l l2 : Lf} {k : Int}
section
variable [HasKC S] {ps : List (Eff × Lf)}
set_option maxHeartbeats 1000000 in
theorem c_markClipS {g : Hp} (hN : NewD h g l 118 3 Eff.cells Eff.nums 22 ps) (h0 : 0 ≤ k) (h1 : kAt Eff.nums 2 k ps ps.length ≤ 1099511627776) (hn : ps.length ≤ 16777216) (hn2 : szD Eff.nums ps ≤ 16777216) (hl : lim ≤ h.length)
    (hK : ∀ g', NewD h g' l 118 3 Eff.cells Eff.nums 22 (mkD mkE Eff.nums 2 k ps ps.length) → Buts g g' (lvs l ps) → K (.lf (.int .i64 (kAt Eff.nums 2 k ps ps.length))) g') : CallT S false 120 [.lf l, .lf (.int .i64 k)] g lim K := by
  refine CallT_of_body (F := L120) (HasKC.f120) rfl ?_; unfold L120; dsimp only []
  repeat' (first | (simp (disch := first | omega | assumption | (simp only [List.length_set]; omega) | (simp [*] <;> fail) | assumption) [-Bool.decide_and, -Bool.decide_or, -Bool.not_and, -Bool.not_or, toNat_pred, toNat_succ, wrap64, wr_new, wr_new0, ok_if, ok_ifn, iadV_sl, makeV_int, decT, decF, over_at, *, hN.arr.len]) | (with_reducible refine Gd_split (fun hc => ?_) (fun hc => ?_) <;> (have hc2 := hc; try simp at hc2)) | (with_reducible refine Br_split (fun hc => ?_) (fun hc => ?_) <;> (have hc2 := hc; try simp at hc2)) | (with_reducible refine GdT_split (fun hc => ?_) (fun hc => ?_) <;> (have hc2 := hc; try simp at hc2)) | (with_reducible refine WT_alt ?_ ?_) | omega)
  refine WL_forM 8589934562 (by decide +kernel) (ps.length) (fun i b g' => i ≤ ps.length ∧ b 5 = .lf (.int .i64 i) ∧ b 1 = .lf (.int .i64 (kAt Eff.nums 2 k ps i)) ∧ NewD h g' l 118 3 Eff.cells Eff.nums 22 (mkD mkE Eff.nums 2 k ps i) ∧ Buts g g' (lvs l ps)) (fun _ _ _ hi => hi.1) ⟨by omega, by simp, by simp [kAt_zero], hN, Buts.refl⟩ ?_
  rintro i b g' ⟨hi, e5, e1, hD, hB⟩
  have hA := hD.arr.len
  rw [mkD_len] at hA
  by_cases hlt : i < ps.length
  · have hms := mkD_succ (mk := mkE) (ro := Eff.nums) (c := 2) (k := k) hlt
    obtain ⟨M, hM0⟩ : ∃ M, mkD mkE Eff.nums 2 k ps i = M := ⟨_, rfl⟩
    have hQ : i < M.length := by rw [← hM0, mkD_len]; exact hlt
    have hg : M[i] = ps[i] := by subst hM0; exact mkD_ge (mk := mkE) (ro := Eff.nums) (c := 2) (k := k) (i := i) hlt (Nat.le_refl _)
    rw [hM0] at hD hms
    clear hM0
    have hks := kAt_succ (ro := Eff.nums) (c := 2) (k := k) hlt
    have hkl := kAt_le (ro := Eff.nums) (c := 2) (k := k) hi
    have hkl2 := kAt_le (ro := Eff.nums) (c := 2) (k := k) (i := i + 1) hlt
    have hle := szD_get (ro := Eff.nums) hlt
    have hat := hD.arr.at_ (k := .i64) hQ
    have hlv := lvs_get (l := l) hlt
    clear hK
    generalize hq : kAt Eff.nums 2 k ps i = q at *
    repeat' (first | (simp (disch := first | omega | assumption | (simp only [List.length_set]; omega) | (simp [*] <;> fail) | assumption) [-Bool.decide_and, -Bool.decide_or, -Bool.not_and, -Bool.not_or, toNat_pred, toNat_succ, wrap64, wr_new, wr_new0, ok_if, ok_ifn, iadV_sl, makeV_int, decT, decF, over_at, *]) | (with_reducible refine Gd_split (fun hc => ?_) (fun hc => ?_) <;> (have hc2 := hc; try simp at hc2)) | (with_reducible refine Br_split (fun hc => ?_) (fun hc => ?_) <;> (have hc2 := hc; try simp at hc2)) | (with_reducible refine GdT_split (fun hc => ?_) (fun hc => ?_) <;> (have hc2 := hc; try simp at hc2)) | (with_reducible refine WT_alt ?_ ?_) | omega)
    refine hD.cell0 (a := ⟨q, ps[i].1.len, ps[i].1.nums⟩) hQ (by rw [hg]; rfl) (by rw [hg]) (by omega) hl fun g1 hD1 hB1 => ?_
    rw [hg] at hD1
    have hA1 := hD1.arr.len
    have hat1 := hD1.arr.at_ (k := .i64) (i := i) (by simpa using hQ)
    rw [List.length_set] at hA1
    have hBa := hB.but hB1 lvs_head
    clear hat hB hB1 hD hA
    repeat' (first | (simp (disch := first | omega | assumption | (simp only [List.length_set]; omega) | (simp [*] <;> fail) | assumption) [-Bool.decide_and, -Bool.decide_or, -Bool.not_and, -Bool.not_or, toNat_pred, toNat_succ, wrap64, wr_new, wr_new0, ok_if, ok_ifn, iadV_sl, makeV_int, decT, decF, over_at, *]) | (with_reducible refine Gd_split (fun hc => ?_) (fun hc => ?_) <;> (have hc2 := hc; try simp at hc2)) | (with_reducible refine Br_split (fun hc => ?_) (fun hc => ?_) <;> (have hc2 := hc; try simp at hc2)) | (with_reducible refine GdT_split (fun hc => ?_) (fun hc => ?_) <;> (have hc2 := hc; try simp at hc2)) | (with_reducible refine WT_alt ?_ ?_) | omega)
    refine hD1.cell (off := 1) (a := ⟨q, q + 1, ps[i].1.nums⟩) (by simpa using hQ) (by simp [Eff.cells]) (by simp) (by omega) hl fun g2 hD2 hB2 => ?_
    simp only [List.set_set, List.getElem_set_self] at hD2
    have hBb := hBa.but hB2 lvs_head
    have hA2 := hD2.arr.len
    have hat2 := hD2.arr.at_ (k := .i64) (i := i) (by simpa using hQ)
    have r2 := hD2.arr.rdIn (i := i) (j := 2) (m := 1) (by simpa using hQ) (by omega)
    have hin := hD2.inn _ (List.getElem_mem (n := i) (by simpa using hQ))
    simp only [List.getElem_set_self, hg, Eff.cells, List.drop_zero, List.drop_succ_cons, List.take_succ_cons, List.take_zero] at r2 hin
    rw [List.length_set] at hA2
    clear hat1 hA1 hBa hB2 hD1
    repeat' (first | (simp (disch := first | omega | assumption | (simp only [List.length_set]; omega) | (simp [*] <;> fail) | assumption) [-Bool.decide_and, -Bool.decide_or, -Bool.not_and, -Bool.not_or, toNat_pred, toNat_succ, wrap64, wr_new, wr_new0, ok_if, ok_ifn, iadV_sl, makeV_int, decT, decF, over_at, *]) | (with_reducible refine Gd_split (fun hc => ?_) (fun hc => ?_) <;> (have hc2 := hc; try simp at hc2)) | (with_reducible refine Br_split (fun hc => ?_) (fun hc => ?_) <;> (have hc2 := hc; try simp at hc2)) | (with_reducible refine GdT_split (fun hc => ?_) (fun hc => ?_) <;> (have hc2 := hc; try simp at hc2)) | (with_reducible refine WT_alt ?_ ?_) | omega)
    refine c_markFloat32S hin (by simp; omega) (by omega) (by omega) hl fun g3 hN3 hB3 => ?_
    simp only [List.length_map] at hN3
    have hM' : New h g3 ((M.set i (⟨q, q + 1, ps[i].1.nums⟩, ps[i].2))[i]'(by simpa using hQ)).2 22 1 ((Eff.nums (mkE q ps[i].1)).map fl) := by
      rw [List.getElem_set_self]; simp only [mkE, mkN_fl]
      have e2 : q + 1 + 1 = q + 2 := by omega
      rw [e2] at hN3; exact hN3
    have hP := hD2.put (by simpa using hQ) hM' (by simp only [List.getElem_set_self]; exact hB3) (by simp only [List.getElem_set_self]; rfl)
    simp only [List.getElem_set_self, List.set_set] at hP
    rw [← hms] at hP
    have hBc := hBb.but hB3 hlv
    clear hms hin hM' hN3 hat2 hA2 r2 hBb hB3 hD2
    repeat' (first | (simp (disch := first | omega | assumption | (simp only [List.length_set]; omega) | (simp [*] <;> fail) | assumption) [-Bool.decide_and, -Bool.decide_or, -Bool.not_and, -Bool.not_or, toNat_pred, toNat_succ, wrap64, wr_new, wr_new0, ok_if, ok_ifn, iadV_sl, makeV_int, decT, decF, over_at, *]) | (with_reducible refine Gd_split (fun hc => ?_) (fun hc => ?_) <;> (have hc2 := hc; try simp at hc2)) | (with_reducible refine Br_split (fun hc => ?_) (fun hc => ?_) <;> (have hc2 := hc; try simp at hc2)) | (with_reducible refine GdT_split (fun hc => ?_) (fun hc => ?_) <;> (have hc2 := hc; try simp at hc2)) | (with_reducible refine WT_alt ?_ ?_) | omega)
    all_goals omega
  · have : i = ps.length := by omega
    subst this
    repeat' (first | (simp (disch := first | omega | assumption | (simp only [List.length_set]; omega) | (simp [*] <;> fail) | assumption) [-Bool.decide_and, -Bool.decide_or, -Bool.not_and, -Bool.not_or, toNat_pred, toNat_succ, wrap64, wr_new, wr_new0, ok_if, ok_ifn, iadV_sl, makeV_int, decT, decF, over_at, *]) | (with_reducible refine Gd_split (fun hc => ?_) (fun hc => ?_) <;> (have hc2 := hc; try simp at hc2)) | (with_reducible refine Br_split (fun hc => ?_) (fun hc => ?_) <;> (have hc2 := hc; try simp at hc2)) | (with_reducible refine GdT_split (fun hc => ?_) (fun hc => ?_) <;> (have hc2 := hc; try simp at hc2)) | (with_reducible refine WT_alt ?_ ?_) | omega)
    all_goals exact hK _ hD hB
end
section
variable [HasKP S] {ss : List (Str × Lf)}
set_option maxHeartbeats 4000000 in
theorem c_markStripS {h0 g : Hp} (hS : NewS h0 g l ss) (h0k : 0 ≤ k) (h1 : kAt Str.ro2 4 k ss ss.length ≤ 1099511627776) (hn : ss.length ≤ 16777216) (hn2 : szD Str.ro ss ≤ 16777216) (hl : lim ≤ h0.length)
    (hK : ∀ g', Buts g g' (lvS l ss) → K (.lf (.int .i64 (kAt Str.ro2 4 k ss ss.length))) g') : CallT S false 121 [.lf l, .lf (.int .i64 k)] g lim K := by
  have hlo : ∀ s ∈ lvS l ss, s ≠ .nils → h0.length ≤ s.id := fun s hs q => (hS.lvs_lt s hs q).1
  refine CallT_of_body (F := L121) (HasKP.f121) rfl ?_; unfold L121; dsimp only []
  repeat' (first | (simp (disch := first | omega | assumption | (simp only [List.length_set]; omega) | (simp [*] <;> fail) | assumption) [-Bool.decide_and, -Bool.decide_or, -Bool.not_and, -Bool.not_or, toNat_pred, toNat_succ, wrap64, wr_new, wr_new0, ok_if, ok_ifn, iadV_sl, makeV_int, decT, decF, over_at, *, hS.arr.len]) | (with_reducible refine Gd_split (fun hc => ?_) (fun hc => ?_) <;> (have hc2 := hc; try simp at hc2)) | (with_reducible refine Br_split (fun hc => ?_) (fun hc => ?_) <;> (have hc2 := hc; try simp at hc2)) | (with_reducible refine GdT_split (fun hc => ?_) (fun hc => ?_) <;> (have hc2 := hc; try simp at hc2)) | (with_reducible refine WT_alt ?_ ?_) | omega)
  refine WL_forM 4503599627370466 (by decide +kernel) (ss.length) (fun i b g' => i ≤ ss.length ∧ b 5 = .lf (.int .i64 i) ∧ b 1 = .lf (.int .i64 (kAt Str.ro2 4 k ss i)) ∧ Buts g g' (lvS l ss) ∧ (∀ j (q : j < ss.length), i ≤ j → NewE h0 g' ss[j]) ∧ ∃ qs : List (Str × Lf), New h0 g' l 114 5 (qs.map Str.cells) ∧ qs.length = ss.length ∧ ∀ j (q1 : j < qs.length) (q2 : j < ss.length), qs[j].2 = ss[j].2) (fun _ _ _ hi => hi.1) ⟨by omega, by simp, by simp [kAt_zero], Buts.refl, fun j q _ => hS.inn _ (List.getElem_mem q), ss, hS.out, rfl, fun j _ _ => rfl⟩ ?_
  rintro i b g' ⟨hi, e5, e1, hB, hE, M, hD, hMl, hM0⟩
  have hA := hD.arr.len
  rw [hMl] at hA
  by_cases hlt : i < ss.length
  · have hQ : i < M.length := by omega
    have m1 := hM0 i hQ hlt
    have hks := kAt_succ (ro := Str.ro2) (c := 4) (k := k) hlt
    have hkl := kAt_le (ro := Str.ro2) (c := 4) (k := k) hi
    have hkl2 := kAt_le (ro := Str.ro2) (c := 4) (k := k) (i := i + 1) hlt
    have hle := szD_get (ro := Str.ro) hlt
    rw [Str.ro_len] at hle
    rw [Str.ro2_len] at hks
    have hat := hD.arr.at_ (k := .i64) hQ
    have hrd := hD.arr.rdIn0 (m := 1) hQ (by omega)
    simp only [Str.cells, List.take_succ_cons, List.take_zero, m1] at hrd
    have hEi := hE i hlt (Nat.le_refl _)
    have hkk := kAt_all (ro := Eff.nums) (c := 2) (k := kAt Str.ro2 4 k ss i) (ps := ss[i].1.ps)
    have hkH : Hid (kAt Str.ro2 4 k ss (i + 1) = kAt Str.ro2 4 k ss i + ((4 : Nat) : Int) + ((2 * ss[i].1.ps.length + szD Eff.nums ss[i].1.ps : Nat) : Int)) := hks
    have hMH : Hid (∀ j (q1 : j < M.length) (q2 : j < ss.length), M[j].2 = ss[j].2) := hM0
    clear hK hks hM0
    have hmk := fun K q1 q2 q3 q4 hK => c_markEffectS (S := S) (lim := lim) (K := K) (k := kAt Str.ro2 4 k ss i) hEi q1 q2 q3 q4 hl hK
    generalize hq : kAt Str.ro2 4 k ss i = q at *
    rw [hkk] at hmk
    have hk2 : q + ((2 * ss[i].1.ps.length : Nat) : Int) + ((szD Eff.nums ss[i].1.ps : Nat) : Int) = q + ((2 * ss[i].1.ps.length + szD Eff.nums ss[i].1.ps : Nat) : Int) := by omega
    rw [hk2] at hmk
    obtain ⟨Q, hQ2⟩ : ∃ Q : Int, q + ((2 * ss[i].1.ps.length + szD Eff.nums ss[i].1.ps : Nat) : Int) = Q := ⟨_, rfl⟩
    have hQ3 : kAt Str.ro2 4 k ss (i + 1) = Q + 4 := by rw [show kAt Str.ro2 4 k ss (i + 1) = _ from hkH]; omega
    rw [hQ2] at hmk
    rw [hQ3] at hkl2
    clear hkk hk2 hkH
    repeat' (first | (simp (disch := first | omega | assumption | (simp only [List.length_set]; omega) | (simp [*] <;> fail) | assumption) [-Bool.decide_and, -Bool.decide_or, -Bool.not_and, -Bool.not_or, toNat_pred, toNat_succ, wrap64, wr_new, wr_new0, ok_if, ok_ifn, iadV_sl, makeV_int, decT, decF, over_at, *]) | (with_reducible refine Gd_split (fun hc => ?_) (fun hc => ?_) <;> (have hc2 := hc; try simp at hc2)) | (with_reducible refine Br_split (fun hc => ?_) (fun hc => ?_) <;> (have hc2 := hc; try simp at hc2)) | (with_reducible refine GdT_split (fun hc => ?_) (fun hc => ?_) <;> (have hc2 := hc; try simp at hc2)) | (with_reducible refine WT_alt ?_ ?_) | omega)
    refine hmk _ (by omega) (by omega) (by omega) (by omega) fun g2 hM2 hB2 => ?_
    clear hmk
    have hBa := hB.trans hB2 (fun s hs => mem_lvS (List.getElem_mem hlt) hs)
    have hlo2 : ∀ s ∈ lvs ss[i].2 ss[i].1.ps, s ≠ .nils → h0.length ≤ s.id := fun s hs q => hlo s (mem_lvS (List.getElem_mem hlt) hs) q
    have hDa : New h0 g2 l 114 5 (M.map Str.cells) := hB2.new hD hlo2 fun s hs => (hS.faro _ (List.getElem_mem hlt) s hs).symm
    have hEa : ∀ j (q : j < ss.length), i + 1 ≤ j → NewE h0 g2 ss[j] := fun j q hj => hB2.newD (hE j q (by omega)) hlo2 fun s hs t ht => hS.apart hlt q (by omega) s hs t ht
    have hbut : ∀ {g3 g4 : Hp}, (∀ j (q : j < ss.length), i + 1 ≤ j → NewE h0 g3 ss[j]) → But g3 g4 l l → ∀ j (q : j < ss.length), i + 1 ≤ j → NewE h0 g4 ss[j] := fun {g3 g4} h3 hb j q hj => NewD.but (h3 j q hj) hb (hlo l head_lvS) ((hS.faro _ (List.getElem_mem q) _ lvs_head).symm) fun p hp => (hS.faro _ (List.getElem_mem q) p.2 (by unfold lvE lvs; exact List.mem_cons_of_mem _ (List.mem_map.2 ⟨p, hp, rfl⟩))).symm
    have hat0 := hDa.arr.at_ (k := .i64) hQ
    clear hat hA hrd hEi hE hB hD hB2 hM2
    repeat' (first | (simp (disch := first | omega | assumption | (simp only [List.length_set]; omega) | (simp [*] <;> fail) | assumption) [-Bool.decide_and, -Bool.decide_or, -Bool.not_and, -Bool.not_or, toNat_pred, toNat_succ, wrap64, wr_new, wr_new0, ok_if, ok_ifn, iadV_sl, makeV_int, decT, decF, over_at, *]) | (with_reducible refine Gd_split (fun hc => ?_) (fun hc => ?_) <;> (have hc2 := hc; try simp at hc2)) | (with_reducible refine Br_split (fun hc => ?_) (fun hc => ?_) <;> (have hc2 := hc; try simp at hc2)) | (with_reducible refine GdT_split (fun hc => ?_) (fun hc => ?_) <;> (have hc2 := hc; try simp at hc2)) | (with_reducible refine WT_alt ?_ ?_) | omega)
    refine strCell (off := 1) (q' := (⟨M[i].1.ps, Q, M[i].1.pan, M[i].1.mute, M[i].1.solo⟩, M[i].2)) hDa hQ (by simp [Str.cells]) (by omega) hl fun g4 h4 hB4 => ?_
    have hBb := hBa.but hB4 head_lvS
    have hEb := hbut hEa hB4
    have hat2 := h4.arr.at_ (k := .i64) (i := i) (by simpa using hQ)
    clear hat0 hDa hBa hB4 hEa
    repeat' (first | (simp (disch := first | omega | assumption | (simp only [List.length_set]; omega) | (simp [*] <;> fail) | assumption) [-Bool.decide_and, -Bool.decide_or, -Bool.not_and, -Bool.not_or, toNat_pred, toNat_succ, wrap64, wr_new, wr_new0, ok_if, ok_ifn, iadV_sl, makeV_int, decT, decF, over_at, *]) | (with_reducible refine Gd_split (fun hc => ?_) (fun hc => ?_) <;> (have hc2 := hc; try simp at hc2)) | (with_reducible refine Br_split (fun hc => ?_) (fun hc => ?_) <;> (have hc2 := hc; try simp at hc2)) | (with_reducible refine GdT_split (fun hc => ?_) (fun hc => ?_) <;> (have hc2 := hc; try simp at hc2)) | (with_reducible refine WT_alt ?_ ?_) | omega)
    refine strCell (off := 2) (q' := (⟨M[i].1.ps, Q, fofint .f32 (Q + 1), M[i].1.mute, M[i].1.solo⟩, M[i].2)) h4 (by simpa using hQ) (by simp [Str.cells]) (by omega) hl fun g5 h5 hB5 => ?_
    simp only [List.set_set] at h5
    have hBc := hBb.but hB5 head_lvS
    have hEc := hbut hEb hB5
    have hat3 := h5.arr.at_ (k := .i64) (i := i) (by simpa using hQ)
    clear hat2 h4 hBb hB5 hEb
    repeat' (first | (simp (disch := first | omega | assumption | (simp only [List.length_set]; omega) | (simp [*] <;> fail) | assumption) [-Bool.decide_and, -Bool.decide_or, -Bool.not_and, -Bool.not_or, toNat_pred, toNat_succ, wrap64, wr_new, wr_new0, ok_if, ok_ifn, iadV_sl, makeV_int, decT, decF, over_at, *]) | (with_reducible refine Gd_split (fun hc => ?_) (fun hc => ?_) <;> (have hc2 := hc; try simp at hc2)) | (with_reducible refine Br_split (fun hc => ?_) (fun hc => ?_) <;> (have hc2 := hc; try simp at hc2)) | (with_reducible refine GdT_split (fun hc => ?_) (fun hc => ?_) <;> (have hc2 := hc; try simp at hc2)) | (with_reducible refine WT_alt ?_ ?_) | omega)
    refine strCell (off := 3) (q' := (⟨M[i].1.ps, Q, fofint .f32 (Q + 1), decide ((Q + 1 + 1).tmod 3 = 0), M[i].1.solo⟩, M[i].2)) h5 (by simpa using hQ) (by simp [Str.cells]) (by omega) hl fun g6 h6 hB6 => ?_
    simp only [List.set_set] at h6
    have hBd := hBc.but hB6 head_lvS
    have hEd := hbut hEc hB6
    have hat4 := h6.arr.at_ (k := .i64) (i := i) (by simpa using hQ)
    clear hat3 h5 hBc hB6 hEc
    repeat' (first | (simp (disch := first | omega | assumption | (simp only [List.length_set]; omega) | (simp [*] <;> fail) | assumption) [-Bool.decide_and, -Bool.decide_or, -Bool.not_and, -Bool.not_or, toNat_pred, toNat_succ, wrap64, wr_new, wr_new0, ok_if, ok_ifn, iadV_sl, makeV_int, decT, decF, over_at, *]) | (with_reducible refine Gd_split (fun hc => ?_) (fun hc => ?_) <;> (have hc2 := hc; try simp at hc2)) | (with_reducible refine Br_split (fun hc => ?_) (fun hc => ?_) <;> (have hc2 := hc; try simp at hc2)) | (with_reducible refine GdT_split (fun hc => ?_) (fun hc => ?_) <;> (have hc2 := hc; try simp at hc2)) | (with_reducible refine WT_alt ?_ ?_) | omega)
    refine strCell (off := 4) (q' := (⟨M[i].1.ps, Q, fofint .f32 (Q + 1), decide ((Q + 1 + 1).tmod 3 = 0), decide ((Q + 1 + 1 + 1).tmod 3 = 0)⟩, M[i].2)) h6 (by simpa using hQ) (by simp [Str.cells]) (by omega) hl fun g7 h7 hB7 => ?_
    simp only [List.set_set] at h7
    have hBe := hBd.but hB7 head_lvS
    have hEe := hbut hEd hB7
    clear hat4 h6 hBd hB7 hEd hbut
    repeat' (first | (simp (disch := first | omega | assumption | (simp only [List.length_set]; omega) | (simp [*] <;> fail) | assumption) [-Bool.decide_and, -Bool.decide_or, -Bool.not_and, -Bool.not_or, toNat_pred, toNat_succ, wrap64, wr_new, wr_new0, ok_if, ok_ifn, iadV_sl, makeV_int, decT, decF, over_at, *]) | (with_reducible refine Gd_split (fun hc => ?_) (fun hc => ?_) <;> (have hc2 := hc; try simp at hc2)) | (with_reducible refine Br_split (fun hc => ?_) (fun hc => ?_) <;> (have hc2 := hc; try simp at hc2)) | (with_reducible refine GdT_split (fun hc => ?_) (fun hc => ?_) <;> (have hc2 := hc; try simp at hc2)) | (with_reducible refine WT_alt ?_ ?_) | omega)
    refine ⟨hlt, by omega, hEe, _, h7, by simpa using hMl, fun j q1 q2 => ?_⟩
    rw [List.length_set] at q1
    rw [List.getElem_set]
    split
    · rename_i e
      subst e
      exact m1
    · exact hMH j q1 q2
  · have : i = ss.length := by omega
    subst this
    repeat' (first | (simp (disch := first | omega | assumption | (simp only [List.length_set]; omega) | (simp [*] <;> fail) | assumption) [-Bool.decide_and, -Bool.decide_or, -Bool.not_and, -Bool.not_or, toNat_pred, toNat_succ, wrap64, wr_new, wr_new0, ok_if, ok_ifn, iadV_sl, makeV_int, decT, decF, over_at, *]) | (with_reducible refine Gd_split (fun hc => ?_) (fun hc => ?_) <;> (have hc2 := hc; try simp at hc2)) | (with_reducible refine Br_split (fun hc => ?_) (fun hc => ?_) <;> (have hc2 := hc; try simp at hc2)) | (with_reducible refine GdT_split (fun hc => ?_) (fun hc => ?_) <;> (have hc2 := hc; try simp at hc2)) | (with_reducible refine WT_alt ?_ ?_) | omega)
    all_goals exact hK _ hB
end
section
variable [HasKN S] {cs : List (Eff × Lf)} {ss : List (Str × Lf)}
set_option maxHeartbeats 2000000 in
theorem c_markSession {h0 g : Hp} (hC : NewD h0 g l 118 3 Eff.cells Eff.nums 22 cs) (hS : NewS h0 g l2 ss) (hf : ∀ a ∈ lvs l cs, ∀ b ∈ lvS l2 ss, Far a b) (hn : cs.length ≤ 16777216) (hn2 : szD Eff.nums cs ≤ 16777216) (hn3 : ss.length ≤ 16777216) (hn4 : szD Str.ro ss ≤ 16777216) (hl : lim ≤ h0.length)
    (hK : ∀ k' g', 0 ≤ k' → Buts g g' (lvs l cs ++ lvS l2 ss) → K (.lf (.int .i64 k')) g') : CallT S false 50 [.agg [l, l2], .lf (.int .i64 1)] g lim K := by
  have kb := Kept.app g [⟨[l, l2], .own 46 1⟩]
  have bx : rdCells (g ++ [⟨[l, l2], .own 46 1⟩]) g.length 1 1 = some [l2] := Cel.new.rd (by simp)
  have hC1 := hC.later kb
  have hS1 := hS.later kb
  have hka := kAt_all (ro := Eff.nums) (c := 2) (k := 1) (ps := cs)
  have hr2 := szD_ro2 (ss := ss)
  refine CallT_of_body (F := L50) (HasKN.f50) rfl ?_; unfold L50; dsimp only []
  repeat' (first | (simp (disch := first | omega | assumption | (simp only [List.length_set]; omega) | (simp [*] <;> fail) | assumption) [-Bool.decide_and, -Bool.decide_or, -Bool.not_and, -Bool.not_or, toNat_pred, toNat_succ, wrap64, wr_new, wr_new0, ok_if, ok_ifn, iadV_sl, makeV_int, decT, decF, over_at, *]) | (with_reducible refine Gd_split (fun hc => ?_) (fun hc => ?_) <;> (have hc2 := hc; try simp at hc2)) | (with_reducible refine Br_split (fun hc => ?_) (fun hc => ?_) <;> (have hc2 := hc; try simp at hc2)) | (with_reducible refine GdT_split (fun hc => ?_) (fun hc => ?_) <;> (have hc2 := hc; try simp at hc2)) | (with_reducible refine WT_alt ?_ ?_) | omega)
  refine c_markClipS hC1 (by omega) (by rw [hka]; omega) hn hn2 hl fun g2 hM hB => ?_
  rw [hka]
  obtain ⟨k2, hk2⟩ : ∃ k2 : Int, (1 : Int) + ((2 * cs.length : Nat) : Int) + ((szD Eff.nums cs : Nat) : Int) = k2 := ⟨_, rfl⟩
  have hk20 : 0 ≤ k2 ∧ k2 ≤ 67108864 := by omega
  rw [hk2]
  have hb2 := hB.rd bx (fun s hs q => by have := (hC.lvs_lt s hs q).2; omega)
  have hlo : ∀ s ∈ lvs l cs, s ≠ .nils → h0.length ≤ s.id := fun s hs q => (hC.lvs_lt s hs q).1
  have hS2 : NewS h0 g2 l2 ss := ⟨hB.new hS1.out hlo fun s hs => hf s hs _ head_lvS, fun p hp => hB.newD (hS1.inn p hp) hlo fun s hs t ht => hf s hs t (mem_lvS hp ht), hS1.far, hS1.faro⟩
  have hka2 := kAt_all (ro := Str.ro2) (c := 4) (k := k2) (ps := ss)
  clear hka hk2 hM
  repeat' (first | (simp (disch := first | omega | assumption | (simp only [List.length_set]; omega) | (simp [*] <;> fail) | assumption) [-Bool.decide_and, -Bool.decide_or, -Bool.not_and, -Bool.not_or, toNat_pred, toNat_succ, wrap64, wr_new, wr_new0, ok_if, ok_ifn, iadV_sl, makeV_int, decT, decF, over_at, *]) | (with_reducible refine Gd_split (fun hc => ?_) (fun hc => ?_) <;> (have hc2 := hc; try simp at hc2)) | (with_reducible refine Br_split (fun hc => ?_) (fun hc => ?_) <;> (have hc2 := hc; try simp at hc2)) | (with_reducible refine GdT_split (fun hc => ?_) (fun hc => ?_) <;> (have hc2 := hc; try simp at hc2)) | (with_reducible refine WT_alt ?_ ?_) | omega)
  refine c_markStripS hS2 (by omega) (by rw [hka2]; omega) hn3 hn4 hl fun g3 hB3 => ?_
  have hk3 := hK (kAt Str.ro2 4 k2 ss ss.length) g3 (by rw [hka2]; omega) (((Buts.ofKept kb).trans hB (fun s hs => List.mem_append_left _ hs)).trans hB3 (fun s hs => List.mem_append_right _ hs))
  clear hK hka2
  generalize kAt Str.ro2 4 k2 ss ss.length = q at *
  repeat' (first | (simp (disch := first | omega | assumption | (simp only [List.length_set]; omega) | (simp [*] <;> fail) | assumption) [-Bool.decide_and, -Bool.decide_or, -Bool.not_and, -Bool.not_or, toNat_pred, toNat_succ, wrap64, wr_new, wr_new0, ok_if, ok_ifn, iadV_sl, makeV_int, decT, decF, over_at, *]) | (with_reducible refine Gd_split (fun hc => ?_) (fun hc => ?_) <;> (have hc2 := hc; try simp at hc2)) | (with_reducible refine Br_split (fun hc => ?_) (fun hc => ?_) <;> (have hc2 := hc; try simp at hc2)) | (with_reducible refine GdT_split (fun hc => ?_) (fun hc => ?_) <;> (have hc2 := hc; try simp at hc2)) | (with_reducible refine WT_alt ?_ ?_) | omega)
end
end
end Go.E
