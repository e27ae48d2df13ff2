/- A note as samples, both sides. -/
import Derived.Test.YtkabbddhdnddoaaMLv
import Derived.Test.YtkabbddhdnddoaaMOs
import Derived.Test.YtkabbddhdnddoaaMEx
import Derived.Test.YtkabbddhdnddoaaMN
set_option linter.unusedVariables false
set_option linter.unusedSimpArgs false
namespace Go.E
open Go
def L32 : LFn := ⟨4, (.seq (.reg [⟨(.some 4), (.box 26 (.t 0)), none⟩, ⟨(.some 6), (.box 40 (.t 2)), none⟩, ⟨(.some 8), (.mv (.c (.lf .nils))), none⟩])
 (.seq (.reg [⟨(.some 14), (.mv (.t 3)), none⟩, ⟨(.some 15), (.call false 31 [(.t 14)]), none⟩, ⟨(.some 9), (.mv (.t 15)), none⟩])
 (.seq (.reg [⟨(.some 16), (.mv (.t 1)), none⟩, ⟨(.some 17), (.faddr 2 (.t 6)), none⟩, ⟨(.some 18), (.load false 1 (.t 17)), none⟩, ⟨(.some 19), (.call true 40 [(.t 18)]), none⟩, ⟨(.some 20), (.build [(.int .i64 0), (.flt .f32 0), (.flt .f32 0)] [(0, (1, (.t 16))), (1, (1, (.t 19)))]), none⟩, ⟨(.some 10), (.alloc 45 [(.int .i64 0), (.flt .f32 0), (.flt .f32 0)]), none⟩, ⟨none, (.store 3 (.t 10) (.t 20)), none⟩])
 (.seq (.seq (.reg [⟨(.some 21), (.faddr 0 (.t 6)), none⟩, ⟨(.some 22), (.load false 1 (.t 21)), none⟩, ⟨(.some 11), (.mv (.t 22)), none⟩])
 (.block 0 (.loop (.seq (.seq (.reg [⟨(.some 23), (.mv (.t 11)), none⟩, ⟨(.some 24), (.mv (.t 3)), none⟩, ⟨(.some 25), (.load true 4 (.t 4)), none⟩, ⟨(.some 26), (.load true 4 (.t 6)), none⟩, ⟨(.some 27), (.call true 34 [(.t 25), (.t 26)]), none⟩, ⟨(.some 28), (.mnmx false [(.t 24), (.t 27)]), none⟩, ⟨(.some 29), (.bin .lss (.t 23) (.t 28)), none⟩])
 (.cond (.t 29) .skip (.exit 0)))
 (.seq (.block 1 (.seq (.reg [⟨(.some 33), (.load true 3 (.t 10)), none⟩, ⟨(.some 34), (.call false 35 [(.t 33), (.c (.lf (.int .i64 1)))]), none⟩, ⟨(.some 32), (.mv (.t 34)), none⟩, ⟨(.some 35), (.ext (.t 32) 0), none⟩, ⟨(.some 36), (.ext (.t 32) 1), none⟩, ⟨(.some 13), (.alloc 45 [(.int .i64 0), (.flt .f32 0), (.flt .f32 0)]), none⟩, ⟨(.some 12), (.mv (.t 35)), none⟩, ⟨none, (.store 3 (.t 13) (.t 36)), none⟩])
 (.seq (.reg [⟨(.some 37), (.load true 3 (.t 13)), none⟩, ⟨none, (.store 3 (.t 10) (.t 37)), none⟩])
 (.reg [⟨(.some 38), (.mv (.t 9)), none⟩, ⟨(.some 39), (.mv (.t 11)), none⟩, ⟨(.some 40), (.mv (.t 12)), none⟩, ⟨(.some 41), (.iaddr 1 (.t 40) (.c (.lf (.int .i64 0)))), none⟩, ⟨(.some 42), (.load false 1 (.t 41)), none⟩, ⟨(.some 43), (.load true 4 (.t 4)), none⟩, ⟨(.some 44), (.faddr 1 (.t 6)), none⟩, ⟨(.some 45), (.load false 1 (.t 44)), none⟩, ⟨(.some 46), (.mv (.t 11)), none⟩, ⟨(.some 47), (.faddr 0 (.t 6)), none⟩, ⟨(.some 48), (.load false 1 (.t 47)), none⟩, ⟨(.some 49), (.bin .sub (.t 46) (.t 48)), none⟩, ⟨(.some 50), (.call true 42 [(.t 43), (.t 45), (.t 49)]), none⟩, ⟨(.some 51), (.bin .mul (.t 42) (.t 50)), none⟩, ⟨(.some 52), (.faddr 3 (.t 6)), none⟩, ⟨(.some 53), (.load false 1 (.t 52)), none⟩, ⟨(.some 54), (.bin .mul (.t 51) (.t 53)), none⟩, ⟨(.some 55), (.iaddr 1 (.t 38) (.t 39)), none⟩, ⟨none, (.store 1 (.t 55) (.t 54)), none⟩]))))
 (.reg [⟨(.some 30), (.mv (.t 11)), none⟩, ⟨(.some 31), (.bin .add (.t 30) (.c (.lf (.int .i64 1)))), none⟩, ⟨(.some 11), (.mv (.t 31)), none⟩]))))))
 (.seq (.reg [⟨(.some 56), (.mv (.t 9)), none⟩, ⟨(.some 8), (.mv (.t 56)), none⟩])
 .ret))))), [(.tmp 8)]⟩
class HasRn (S : Sys) : Prop extends HasLv S, HasOs S, HasSp S, HasN S where
  f32 : S.fs 32 = some L32
theorem min_i {x y : Int} : mnmxV false [.lf (.int .i64 x), .lf (.int .i64 y)] = some (.lf (.int .i64 (min x y))) := by
  have h : (if y < x then y else x) = min x y := by split <;> omega
  simp [mnmxV, mnmx2, h]
theorem CF_nil : CF 0 := ⟨by decide, by decide⟩
/-- A note of an envelope: kind; attack, decay, sustain, release; start, held, pitch, gain. -/
structure Rnt where
  k : Int
  a : Int
  d : Int
  s : Nat
  r : Int
  b : Nat
  u : Nat
  p : Int
  g : Nat
  E : Nat
/-- Its i-th sample, if it sounds. -/
def Rnt.at (x : Rnt) (j : Nat) : Nat := fbin .mul .f32 (fbin .mul .f32 (wave32 x.k (phT (step32 x.p) 0 j)) (levF x.a x.d x.s x.r x.u j)) x.g
def Rnt.val (x : Rnt) (i : Nat) : Nat := if i < x.b ∨ x.E ≤ i then 0 else x.at (i - x.b)
/-- So many samples of the first i sound. -/
def Rnt.cnt (x : Rnt) (i : Nat) : Nat := min i x.E - x.b
/-- The first m samples, and zeros. -/
def Rnt.upto (x : Rnt) (n m : Nat) : List Nat := tabTo (fun j => if j < m then x.val j else 0) n
def Rnt.ok (x : Rnt) : Prop := (0 ≤ x.k ∧ x.k ≤ 3) ∧ (0 ≤ x.a ∧ x.a ≤ 1000) ∧ (0 ≤ x.d ∧ x.d ≤ 1000) ∧ (0 ≤ x.r ∧ x.r ≤ 1000) ∧ x.b ≤ 1000 ∧ x.u ≤ 1000 ∧ (0 ≤ x.p ∧ x.p ≤ 127) ∧ (x.E : Int) = x.b + x.u + x.r
theorem Rnt.upto_all {x : Rnt} {n m : Nat} (h : min n x.E ≤ m ∨ min n x.E ≤ x.b) : x.upto n m = tabTo x.val n := by
  unfold Rnt.upto tabTo
  apply List.map_congr_left
  intro j hj
  have hj2 : j < n := by simpa using hj
  split
  · rfl
  · unfold Rnt.val
    rw [if_pos (by omega)]
theorem Rnt.upto_zero {x : Rnt} {n m : Nat} (h : m ≤ x.b) : x.upto n m = List.replicate n 0 := by
  unfold Rnt.upto tabTo
  apply List.ext_getElem
  · simp
  · intro j h1 h2
    simp only [List.getElem_map, List.getElem_range, List.getElem_replicate]
    split
    · unfold Rnt.val; rw [if_pos (by omega)]
    · rfl
theorem Rnt.upto_len {x : Rnt} {n m : Nat} : (x.upto n m).length = n := tabTo_len
theorem Rnt.upto_get {x : Rnt} {n m j : Nat} (hj : j < (x.upto n m).length) : (x.upto n m)[j] = if j < m then x.val j else 0 := by simp [Rnt.upto, tabTo]
theorem Rnt.upto_succ {x : Rnt} {n m : Nat} (h : m < n) : x.upto n (m + 1) = (x.upto n m).set m (x.val m) := by
  apply List.ext_getElem
  · rw [List.length_set, Rnt.upto_len, Rnt.upto_len]
  · intro j h1 h2
    rw [List.getElem_set, Rnt.upto_get, Rnt.upto_get]
    by_cases e : m = j
    · subst e; rw [if_pos rfl, if_pos (by omega)]
    · rw [if_neg e]
      by_cases hj : j < m
      · rw [if_pos hj, if_pos (by omega)]
      · rw [if_neg hj, if_neg (by omega)]
section
variable {S : Sys} {lim : Nat} {h : Hp} {K : CV → Hp → Prop} [HasRn S] {x : Rnt}
theorem note_parts {id off : Nat} {b u p : Int} {g : Nat} (hr : rdCells h id off 4 = some [.int .i64 b, .int .i64 u, .int .i64 p, .flt .f32 g]) : rdCells h id off 1 = some [.int .i64 b] ∧ rdCells h id (off + 1) 1 = some [.int .i64 u] ∧ rdCells h id (off + 2) 1 = some [.int .i64 p] ∧ rdCells h id (off + 3) 1 = some [.flt .f32 g] := by
  have r0 := rd_sub hr (j := 0) (m := 1) (by omega)
  have r1 := rd_sub hr (j := 1) (m := 1) (by omega)
  have r2 := rd_sub hr (j := 2) (m := 1) (by omega)
  have r3 := rd_sub hr (j := 3) (m := 1) (by omega)
  simp at r0 r1 r2 r3
  exact ⟨r0, r1, r2, r3⟩
set_option maxHeartbeats 4000000 in
set_option maxHeartbeats 8000000 in
theorem c_render {n : Nat} (hx : x.ok) (hc : n ≤ 256) (hl : lim ≤ h.length)
    (hK : ∀ o g, New h g o 24 1 ((tabTo x.val n).map fl) → K (.lf o) g) : CallT S false 32 [.agg [.int .i64 x.a, .int .i64 x.d, .flt .f32 x.s, .int .i64 x.r], .lf (.int .i64 x.k), .agg [.int .i64 x.b, .int .i64 x.u, .int .i64 x.p, .flt .f32 x.g], .lf (.int .i64 n)] h lim K := by
  obtain ⟨hk, ha, hd, hr, hb, hu, hp, hE⟩ := hx
  have hstp := fun h lim K => c_stepOf (S := S) (h := h) (lim := lim) (K := K) hp
  have hh3 : held3 x.a x.d x.r = true := by unfold held3; simp only [decide_eq_true_eq]; omega
  have hnt : noted x.b x.u x.p = true := by unfold noted; simp only [decide_eq_true_eq]; omega
  have hend := fun h lim K => c_implEnd (S := S) (h := h) (lim := lim) (K := K) (s := x.s) (g := x.g) hh3 hnt
  rw [← hE] at hend
  have cE : Cel (h ++ [⟨[.int .i64 x.a, .int .i64 x.d, .flt .f32 x.s, .int .i64 x.r], .own 26 1⟩, ⟨[.int .i64 x.b, .int .i64 x.u, .int .i64 x.p, .flt .f32 x.g], .own 40 1⟩]) h.length 26 [.int .i64 x.a, .int .i64 x.d, .flt .f32 x.s, .int .i64 x.r] := Cel.new
  have cN : Cel (h ++ [⟨[.int .i64 x.a, .int .i64 x.d, .flt .f32 x.s, .int .i64 x.r], .own 26 1⟩, ⟨[.int .i64 x.b, .int .i64 x.u, .int .i64 x.p, .flt .f32 x.g], .own 40 1⟩]) (h.length + 1) 40 [.int .i64 x.b, .int .i64 x.u, .int .i64 x.p, .flt .f32 x.g] := by simp [Cel]
  have kb := Kept.app h [⟨[.int .i64 x.a, .int .i64 x.d, .flt .f32 x.s, .int .i64 x.r], .own 26 1⟩, ⟨[.int .i64 x.b, .int .i64 x.u, .int .i64 x.p, .flt .f32 x.g], .own 40 1⟩]
  have hlb : (h ++ [⟨[.int .i64 x.a, .int .i64 x.d, .flt .f32 x.s, .int .i64 x.r], .own 26 1⟩, ⟨[.int .i64 x.b, .int .i64 x.u, .int .i64 x.p, .flt .f32 x.g], .own 40 1⟩] : Hp).length = h.length + 2 := by simp
  have hz : x.upto n x.b = List.replicate n 0 := Rnt.upto_zero (Nat.le_refl _)
  refine CallT_of_body (F := L32) (HasRn.f32) rfl ?_; unfold L32; dsimp only []
  repeat' (first | (simp (disch := first | omega | assumption | (simp only [List.length_set]; omega) | (simp [*] <;> fail) | assumption) [-Bool.decide_and, -Bool.decide_or, -Bool.not_and, -Bool.not_or, toNat_pred, toNat_succ, wrap64, wr_new, wr_new0, ok_if, ok_ifn, iadV_sl, makeV_int, decT, decF, over_at, *]) | (with_reducible refine Gd_split (fun hc => ?_) (fun hc => ?_) <;> (have hc2 := hc; try simp at hc2)) | (with_reducible refine Br_split (fun hc => ?_) (fun hc => ?_) <;> (have hc2 := hc; try simp at hc2)) | (with_reducible refine GdT_split (fun hc => ?_) (fun hc => ?_) <;> (have hc2 := hc; try simp at hc2)) | (with_reducible refine WT_alt ?_ ?_) | omega)
  generalize (h ++ [⟨[.int .i64 x.a, .int .i64 x.d, .flt .f32 x.s, .int .i64 x.r], .own 26 1⟩, ⟨[.int .i64 x.b, .int .i64 x.u, .int .i64 x.p, .flt .f32 x.g], .own 40 1⟩] : Hp) = hb0 at *
  refine c_zeros (by omega) (by omega) fun o g0 hZ => ?_
  rw [← hz] at hZ
  have hZ1 := hZ.base kb
  have cE0 := cE.kept hZ.kept
  have cN0 := cN.kept hZ.kept
  have ho0 : ∀ q : o ≠ .nils, h.length + 2 ≤ o.id ∧ o.id < g0.length := fun q => by have := hZ.lt q; omega
  have hlg := hZ.kept.1
  have rN0 : rdCells g0 (h.length + 1) 0 1 = some [.int .i64 x.b] := by have := cN0.rd (off := 0) (n := 1) (by simp); simpa using this
  have rN2 : rdCells g0 (h.length + 1) 2 1 = some [.int .i64 x.p] := by have := cN0.rd (off := 2) (n := 1) (by simp); simpa using this
  have rN0A := fun t => (Kept.app g0 t).rd rN0
  have hZ2 := hZ1.app (t := [⟨[.int .i64 x.k, .flt .f32 (step32 x.p), .flt .f32 0], .own 45 1⟩])
  have cE1 := cE0.app (t := [⟨[.int .i64 x.k, .flt .f32 (step32 x.p), .flt .f32 0], .own 45 1⟩])
  have cN1 := cN0.app (t := [⟨[.int .i64 x.k, .flt .f32 (step32 x.p), .flt .f32 0], .own 45 1⟩])
  clear hZ hZ1 cE cN hz
  repeat' (first | (simp (disch := first | omega | assumption | (simp only [List.length_set]; omega) | (simp [*] <;> fail) | assumption) [-Bool.decide_and, -Bool.decide_or, -Bool.not_and, -Bool.not_or, toNat_pred, toNat_succ, wrap64, wr_new, wr_new0, ok_if, ok_ifn, iadV_sl, makeV_int, decT, decF, over_at, *, leavesAll, fillL]) | (with_reducible refine Gd_split (fun hc => ?_) (fun hc => ?_) <;> (have hc2 := hc; try simp at hc2)) | (with_reducible refine Br_split (fun hc => ?_) (fun hc => ?_) <;> (have hc2 := hc; try simp at hc2)) | (with_reducible refine GdT_split (fun hc => ?_) (fun hc => ?_) <;> (have hc2 := hc; try simp at hc2)) | (with_reducible refine WT_alt ?_ ?_) | omega)
  obtain ⟨N0, hN0⟩ : ∃ N0, min n x.E - x.b = N0 := ⟨_, rfl⟩
  refine WL_forM 72057594029553664 (by decide +kernel) (N0) (fun c b g => c ≤ N0 ∧ b 11 = .lf (.int .i64 (x.b + c)) ∧ New h g o 24 1 ((x.upto n (x.b + c)).map fl) ∧ Cel g h.length 26 [.int .i64 x.a, .int .i64 x.d, .flt .f32 x.s, .int .i64 x.r] ∧ Cel g (h.length + 1) 40 [.int .i64 x.b, .int .i64 x.u, .int .i64 x.p, .flt .f32 x.g] ∧ Cel g g0.length 45 [.int .i64 x.k, .flt .f32 (step32 x.p), .flt .f32 (phT (step32 x.p) 0 c)]) (fun _ _ _ hi => hi.1) ⟨by omega, by simp, hZ2, cE1, cN1, by simpa [phT] using Cel.new⟩ ?_
  rintro c b g ⟨hi, e11, hN, cE, cN, cO⟩
  have lE := cE.lt
  have lN := cN.lt
  have lO := cO.lt
  have rE : rdCells g h.length 0 4 = some [.int .i64 x.a, .int .i64 x.d, .flt .f32 x.s, .int .i64 x.r] := cE.rd (by simp)
  have rN : rdCells g (h.length + 1) 0 4 = some [.int .i64 x.b, .int .i64 x.u, .int .i64 x.p, .flt .f32 x.g] := cN.rd (by simp)
  have rO : rdCells g g0.length 0 3 = some [.int .i64 x.k, .flt .f32 (step32 x.p), .flt .f32 (phT (step32 x.p) 0 c)] := cO.rd (by simp)
  have hul : (x.upto n (x.b + c)).length = n := Rnt.upto_len
  by_cases hlt : c < N0
  · have hw : ((x.b : Int) + c) < min (n : Int) x.E := by omega
    have hin : x.b + c < n := by omega
    have hv : x.val (x.b + c) = x.at c := by unfold Rnt.val; rw [if_neg (by omega)]; congr 1; omega
    have hs := Rnt.upto_succ (x := x) hin
    rw [hv] at hs
    unfold Rnt.at at hs
    have hosc := fun h K hl hK => c_oscRun (S := S) (lim := lim) (h := h) (K := K) (s := step32 x.p) (N := 1) hk (CF_ph (s := step32 x.p) (i := c) CF_nil) (by decide) hl hK
    have hos1 : osT x.k (step32 x.p) (phT (step32 x.p) 0 c) 1 = [wave32 x.k (phT (step32 x.p) 0 c)] := rfl
    have hps : phT (step32 x.p) (phT (step32 x.p) 0 c) 1 = phT (step32 x.p) 0 (c + 1) := rfl
    rw [hos1, hps] at hosc
    have hlv := fun h lim K => c_level (S := S) (h := h) (lim := lim) (K := K) (a := x.a) (d := x.d) (s := x.s) (r := x.r) (u := x.u) (n := (c : Int)) ha (by omega) (by omega)
    generalize levF x.a x.d x.s x.r x.u (c : Int) = lv at *
    generalize wave32 x.k (phT (step32 x.p) 0 c) = w at *
    obtain ⟨p2, hp2e⟩ : ∃ p2, phT (step32 x.p) 0 (c + 1) = p2 := ⟨_, rfl⟩
    simp only [hp2e] at hosc
    have hp2H : Hid (phT (step32 x.p) 0 (c + 1) = p2) := hp2e
    clear hp2e
    generalize phT (step32 x.p) 0 c = p1 at *
    obtain ⟨P, hP⟩ : ∃ P : Nat, (x.b : Int) + (c : Int) = P := ⟨x.b + c, by omega⟩
    have hPb : x.b + c = P := by omega
    have hcb : (P : Int) - x.b = c := by omega
    have hP1 : x.b + (c + 1) = P + 1 := by omega
    rw [hPb] at hN hul hs hin
    rw [hP] at e11 hw
    have hsH : Hid (x.upto n (P + 1) = (x.upto n P).set P (fbin .mul .f32 (fbin .mul .f32 w lv) x.g)) := hs
    clear hs hv hos1 hps hK hZ2 cE1 cN1 rN0 rN2 rN0A cE0 cN0
    repeat' (first | (simp (disch := first | omega | assumption | (simp only [List.length_set]; omega) | (simp [*] <;> fail) | assumption) [-Bool.decide_and, -Bool.decide_or, -Bool.not_and, -Bool.not_or, toNat_pred, toNat_succ, wrap64, wr_new, wr_new0, ok_if, ok_ifn, iadV_sl, makeV_int, decT, decF, over_at, *, min_i]) | (with_reducible refine Gd_split (fun hc => ?_) (fun hc => ?_) <;> (have hc2 := hc; try simp at hc2)) | (with_reducible refine Br_split (fun hc => ?_) (fun hc => ?_) <;> (have hc2 := hc; try simp at hc2)) | (with_reducible refine GdT_split (fun hc => ?_) (fun hc => ?_) <;> (have hc2 := hc; try simp at hc2)) | (with_reducible refine WT_alt ?_ ?_) | omega)
    refine hosc g _ (by omega) fun ow g1 hW => ?_
    clear hosc
    have hN1 := hN.later hW.kept
    have dE := cE.kept hW.kept
    have dN := cN.kept hW.kept
    have dO := cO.kept hW.kept
    have hWA := hW.arr.app (t := [⟨[.int .i64 x.k, .flt .f32 (step32 x.p), .flt .f32 p2], .own 45 1⟩])
    have hN2 := hN1.app (t := [⟨[.int .i64 x.k, .flt .f32 (step32 x.p), .flt .f32 p2], .own 45 1⟩])
    have dE2 := dE.app (t := [⟨[.int .i64 x.k, .flt .f32 (step32 x.p), .flt .f32 p2], .own 45 1⟩])
    have dN2 := dN.app (t := [⟨[.int .i64 x.k, .flt .f32 (step32 x.p), .flt .f32 p2], .own 45 1⟩])
    have dO2 := dO.app (t := [⟨[.int .i64 x.k, .flt .f32 (step32 x.p), .flt .f32 p2], .own 45 1⟩])
    have lW := hW.kept.1
    have w4 : wrCells lim (g1 ++ [⟨[.int .i64 x.k, .flt .f32 (step32 x.p), .flt .f32 p2], .own 45 1⟩]) g0.length 0 [.int .i64 x.k, .flt .f32 (step32 x.p), .flt .f32 p2] = some ((g1 ++ [⟨[.int .i64 x.k, .flt .f32 (step32 x.p), .flt .f32 p2], .own 45 1⟩] : Hp).set g0.length ⟨[.int .i64 x.k, .flt .f32 (step32 x.p), .flt .f32 p2], .own 45 1⟩) := dO2.wr (by omega) rfl
    have r13 : rdCells (g1 ++ [⟨[.int .i64 x.k, .flt .f32 (step32 x.p), .flt .f32 p2], .own 45 1⟩]) g1.length 0 3 = some [.int .i64 x.k, .flt .f32 (step32 x.p), .flt .f32 p2] := Cel.new.rd (by simp)
    have hW1 := (hW.base hN.kept).app (t := [⟨[.int .i64 x.k, .flt .f32 (step32 x.p), .flt .f32 p2], .own 45 1⟩])
    have hWid : ow ≠ .nils → g.length ≤ ow.id := fun q => (hW.lt q).1
    have O3 := Cel.put (ty := 45) (new := [.int .i64 x.k, .flt .f32 (step32 x.p), .flt .f32 p2]) dO2.lt
    have N3 := hN2.set_other (id := g0.length) (o := (⟨[.int .i64 x.k, .flt .f32 (step32 x.p), .flt .f32 p2], .own 45 1⟩ : Ob)) (by omega) (fun q => by have := ho0 q; omega)
    have W3 := (hW1.set_other (id := g0.length) (o := (⟨[.int .i64 x.k, .flt .f32 (step32 x.p), .flt .f32 p2], .own 45 1⟩ : Ob)) (by omega) (fun q => by have := hWid q; omega)).arr
    have E3 := dE2.set (id2 := g0.length) (o := (⟨[.int .i64 x.k, .flt .f32 (step32 x.p), .flt .f32 p2], .own 45 1⟩ : Ob)) (by omega)
    have M3 := dN2.set (id2 := g0.length) (o := (⟨[.int .i64 x.k, .flt .f32 (step32 x.p), .flt .f32 p2], .own 45 1⟩ : Ob)) (by omega)
    clear dE dN dO hWA hN1 hN2 dE2 dN2 dO2 hW1 hW cO cE cN rE rN rO
    obtain ⟨G, hG⟩ : ∃ G, ((g1 ++ [⟨[.int .i64 x.k, .flt .f32 (step32 x.p), .flt .f32 p2], .own 45 1⟩] : Hp).set g0.length ⟨[.int .i64 x.k, .flt .f32 (step32 x.p), .flt .f32 p2], .own 45 1⟩) = G := ⟨_, rfl⟩
    rw [hG] at w4 N3 W3 E3 M3 O3
    clear hG
    have rE : rdCells G h.length 0 4 = some [.int .i64 x.a, .int .i64 x.d, .flt .f32 x.s, .int .i64 x.r] := E3.rd (by simp)
    obtain ⟨n0, n1, n2, n3⟩ := note_parts (M3.rd (off := 0) (n := 4) (by simp))
    simp only [Nat.zero_add] at n1 n2 n3
    have hPl : P < (x.upto n P).length := by omega
    have hat := N3.arr.at_ (k := .i64) hPl
    have hwr := fun v K => oc_wr (lim := lim) (K := K) (i := P) (c := .flt .f32 v) N3 (by simpa using hPl) hl
    repeat' (first | (simp (disch := first | omega | assumption | (simp only [List.length_set]; omega) | (simp [*] <;> fail) | assumption) [-Bool.decide_and, -Bool.decide_or, -Bool.not_and, -Bool.not_or, toNat_pred, toNat_succ, wrap64, wr_new, wr_new0, ok_if, ok_ifn, iadV_sl, makeV_int, decT, decF, over_at, *, W3.at0, W3.rd0, W3.rd0j, W3.rd0A, W3.rd0jA, fl, leavesAll, fillL]) | (with_reducible refine Gd_split (fun hc => ?_) (fun hc => ?_) <;> (have hc2 := hc; try simp at hc2)) | (with_reducible refine Br_split (fun hc => ?_) (fun hc => ?_) <;> (have hc2 := hc; try simp at hc2)) | (with_reducible refine GdT_split (fun hc => ?_) (fun hc => ?_) <;> (have hc2 := hc; try simp at hc2)) | (with_reducible refine WT_alt ?_ ?_) | omega)
    refine hwr _ _ fun g4 h4 hB4 => ?_
    rw [fl_set, ← show x.upto n (P + 1) = _ from hsH] at h4
    have E4 := E3.but hB4 (fun q => by have := ho0 q; omega)
    have M4 := M3.but hB4 (fun q => by have := ho0 q; omega)
    have O4 := O3.but hB4 (fun q => by have := ho0 q; omega)
    clear hwr hat N3 W3 E3 M3 O3 hB4 hsH
    repeat' (first | (simp (disch := first | omega | assumption | (simp only [List.length_set]; omega) | (simp [*] <;> fail) | assumption) [-Bool.decide_and, -Bool.decide_or, -Bool.not_and, -Bool.not_or, toNat_pred, toNat_succ, wrap64, wr_new, wr_new0, ok_if, ok_ifn, iadV_sl, makeV_int, decT, decF, over_at, *]) | (with_reducible refine Gd_split (fun hc => ?_) (fun hc => ?_) <;> (have hc2 := hc; try simp at hc2)) | (with_reducible refine Br_split (fun hc => ?_) (fun hc => ?_) <;> (have hc2 := hc; try simp at hc2)) | (with_reducible refine GdT_split (fun hc => ?_) (fun hc => ?_) <;> (have hc2 := hc; try simp at hc2)) | (with_reducible refine WT_alt ?_ ?_) | omega)
    all_goals (repeat' apply And.intro) <;> first | assumption | omega | (rw [show phT (step32 x.p) 0 (c + 1) = _ from hp2H]; assumption)
  · have : c = N0 := by omega
    subst this
    have hw : ¬ ((x.b : Int) + c) < min (n : Int) x.E := by omega
    rw [Rnt.upto_all (by omega)] at hN
    have hk2 := hK _ _ hN
    clear hK
    repeat' (first | (simp (disch := first | omega | assumption | (simp only [List.length_set]; omega) | (simp [*] <;> fail) | assumption) [-Bool.decide_and, -Bool.decide_or, -Bool.not_and, -Bool.not_or, toNat_pred, toNat_succ, wrap64, wr_new, wr_new0, ok_if, ok_ifn, iadV_sl, makeV_int, decT, decF, over_at, *, min_i]) | (with_reducible refine Gd_split (fun hc => ?_) (fun hc => ?_) <;> (have hc2 := hc; try simp at hc2)) | (with_reducible refine Br_split (fun hc => ?_) (fun hc => ?_) <;> (have hc2 := hc; try simp at hc2)) | (with_reducible refine GdT_split (fun hc => ?_) (fun hc => ?_) <;> (have hc2 := hc; try simp at hc2)) | (with_reducible refine WT_alt ?_ ?_) | omega)
end
def L13 : LFn := ⟨4, (.seq (.reg [⟨(.some 5), (.box 26 (.t 1)), none⟩, ⟨(.some 6), (.box 40 (.t 2)), none⟩, ⟨(.some 8), (.mv (.c (.lf .nils))), none⟩, ⟨(.some 9), (.mv (.c (.lf (.bool false)))), none⟩])
 (.seq (.seq (.reg [⟨(.some 10), (.mv (.t 0)), none⟩, ⟨(.some 11), (.call true 29 [(.t 10)]), none⟩, ⟨(.some 12), (.una .not (.t 11)), none⟩, ⟨(.some 13), (.mv (.t 12)), none⟩, ⟨(.some 14), (.load true 4 (.t 5)), (.some (13, false))⟩, ⟨(.some 15), (.call true 23 [(.t 14)]), (.some (13, false))⟩, ⟨(.some 16), (.una .not (.t 15)), (.some (13, false))⟩, ⟨(.some 17), (.pick (.t 13) (.c (.lf (.bool true))) (.t 16)), none⟩, ⟨(.some 18), (.mv (.t 17)), none⟩, ⟨(.some 19), (.load true 4 (.t 6)), (.some (18, false))⟩, ⟨(.some 20), (.call true 33 [(.t 19)]), (.some (18, false))⟩, ⟨(.some 21), (.una .not (.t 20)), (.some (18, false))⟩, ⟨(.some 22), (.pick (.t 18) (.c (.lf (.bool true))) (.t 21)), none⟩, ⟨(.some 23), (.mv (.t 22)), none⟩, ⟨(.some 24), (.mv (.t 3)), (.some (23, false))⟩, ⟨(.some 25), (.call true 30 [(.t 24)]), (.some (23, false))⟩, ⟨(.some 26), (.una .not (.t 25)), (.some (23, false))⟩, ⟨(.some 27), (.pick (.t 23) (.c (.lf (.bool true))) (.t 26)), none⟩])
 (.cond (.t 27) (.seq (.reg [⟨(.some 8), (.mv (.c (.lf .nils))), none⟩, ⟨(.some 9), (.mv (.c (.lf (.bool false)))), none⟩])
 .ret) .skip))
 (.seq (.reg [⟨(.some 28), (.load true 4 (.t 5)), none⟩, ⟨(.some 29), (.mv (.t 0)), none⟩, ⟨(.some 30), (.load true 4 (.t 6)), none⟩, ⟨(.some 31), (.mv (.t 3)), none⟩, ⟨(.some 32), (.call false 32 [(.t 28), (.t 29), (.t 30), (.t 31)]), none⟩, ⟨(.some 8), (.mv (.t 32)), none⟩, ⟨(.some 9), (.mv (.c (.lf (.bool true)))), none⟩])
 .ret))), [(.tmp 8), (.tmp 9)]⟩
class HasRt (S : Sys) : Prop extends HasRn S where
  f13 : S.fs 13 = some L13
/-- Kind, envelope, note. -/
def rnt (k : Int) (a d : Int) (s : Nat) (r b u p : Int) (g : Nat) : Rnt := ⟨k, a, d, s, r, b.toNat, u.toNat, p, g, (b + u + r).toNat⟩
def okRt (k a d r b u p n : Int) : Prop := (0 ≤ k ∧ k ≤ 3) ∧ held3 a d r = true ∧ noted b u p = true ∧ 0 ≤ n ∧ n ≤ 256
noncomputable instance (k a d r b u p n : Int) : Decidable (okRt k a d r b u p n) := Classical.propDecidable _
theorem rnt_ok {k a d r b u p n : Int} {s g : Nat} (h : okRt k a d r b u p n) : (rnt k a d s r b u p g).ok := by
  obtain ⟨h1, h2, h3, h4⟩ := h
  simp only [held3, noted, decide_eq_true_eq] at h2 h3
  unfold Rnt.ok rnt
  simp only []
  omega
noncomputable def rtR (k a d : Int) (s : Nat) (r b u p : Int) (g : Nat) (n : Int) : List Nat := if okRt k a d r b u p n then tabTo (rnt k a d s r b u p g).val n.toNat else []
theorem rtR_len {k a d r b u p n : Int} {s g : Nat} : (rtR k a d s r b u p g n).length ≤ 256 := by
  unfold rtR
  split
  · rename_i h
    rw [tabTo_len]
    have := h.2.2.2
    omega
  · simp
section
variable {S : Sys} {lim : Nat} {h : Hp} {K : CV → Hp → Prop} [HasRt S] {k a d r b u p n : Int} {s g : Nat}
set_option maxHeartbeats 4000000 in
set_option maxHeartbeats 4000000 in
theorem c_implRenderNote (hl : lim ≤ h.length) (hK : ∀ o g', New h g' o 24 1 ((rtR k a d s r b u p g n).map fl) → K (.tup [.lf o, .lf (.bool (decide (okRt k a d r b u p n)))]) g') : CallT S false 13 [.lf (.int .i64 k), .agg [.int .i64 a, .int .i64 d, .flt .f32 s, .int .i64 r], .agg [.int .i64 b, .int .i64 u, .int .i64 p, .flt .f32 g], .lf (.int .i64 n)] h lim K := by
  have hE : rdCells (h ++ [⟨[.int .i64 a, .int .i64 d, .flt .f32 s, .int .i64 r], .own 26 1⟩, ⟨[.int .i64 b, .int .i64 u, .int .i64 p, .flt .f32 g], .own 40 1⟩]) h.length 0 4 = some [.int .i64 a, .int .i64 d, .flt .f32 s, .int .i64 r] := Cel.new.rd (by simp)
  have hN : rdCells (h ++ [⟨[.int .i64 a, .int .i64 d, .flt .f32 s, .int .i64 r], .own 26 1⟩, ⟨[.int .i64 b, .int .i64 u, .int .i64 p, .flt .f32 g], .own 40 1⟩]) (h.length + 1) 0 4 = some [.int .i64 b, .int .i64 u, .int .i64 p, .flt .f32 g] := by simp
  have kb := Kept.app h [⟨[.int .i64 a, .int .i64 d, .flt .f32 s, .int .i64 r], .own 26 1⟩, ⟨[.int .i64 b, .int .i64 u, .int .i64 p, .flt .f32 g], .own 40 1⟩]
  have ev := fun h lim K => c_ValidEnvelope (S := S) (h := h) (lim := lim) (K := K) (a := a) (d := d) (s := s) (r := r)
  have nv := fun h lim K => c_isNote (S := S) (h := h) (lim := lim) (K := K) (a := b) (d := u) (r := p) (s := g)
  by_cases hok : okRt k a d r b u p n
  · have hx := rnt_ok (s := s) (g := g) hok
    unfold rtR at hK
    rw [if_pos hok, decide_eq_true hok] at hK
    obtain ⟨k1, k2, k3, k4⟩ := hok
    have k2' := k2
    have k3' := k3
    simp only [held3, noted, decide_eq_true_eq] at k2' k3'
    obtain ⟨N, rfl⟩ := Int.eq_ofNat_of_zero_le k4.1
    obtain ⟨B, rfl⟩ := Int.eq_ofNat_of_zero_le k3'.1
    obtain ⟨U, rfl⟩ := Int.eq_ofNat_of_zero_le (show 0 ≤ u by omega)
    rw [Int.toNat_natCast] at hK
    rw [k2] at ev
    rw [k3] at nv
    have hrun := fun K hK => c_render (S := S) (lim := lim) (K := K) (n := N) (h := h ++ [⟨[.int .i64 a, .int .i64 d, .flt .f32 s, .int .i64 r], .own 26 1⟩, ⟨[.int .i64 B, .int .i64 U, .int .i64 p, .flt .f32 g], .own 40 1⟩]) hx (by omega) (by simp; omega) hK
    obtain ⟨y, hy⟩ : ∃ y, tabTo (rnt k a d s r B U p g).val N = y := ⟨_, rfl⟩
    rw [hy] at hK
    simp only [hy] at hrun
    simp only [rnt, Int.toNat_natCast] at hrun
    clear hy hx k2' k3' k2 k3
    refine CallT_of_body (F := L13) (HasRt.f13) rfl ?_; unfold L13; dsimp only []
    repeat' (first | (simp (disch := first | omega | assumption | (simp only [List.length_set]; omega) | (simp [*] <;> fail) | assumption) [-Bool.decide_and, -Bool.decide_or, -Bool.not_and, -Bool.not_or, toNat_pred, toNat_succ, wrap64, wr_new, wr_new0, ok_if, ok_ifn, iadV_sl, makeV_int, decT, decF, over_at, *]) | (with_reducible refine Gd_split (fun hc => ?_) (fun hc => ?_) <;> (have hc2 := hc; try simp at hc2)) | (with_reducible refine Br_split (fun hc => ?_) (fun hc => ?_) <;> (have hc2 := hc; try simp at hc2)) | (with_reducible refine GdT_split (fun hc => ?_) (fun hc => ?_) <;> (have hc2 := hc; try simp at hc2)) | (with_reducible refine WT_alt ?_ ?_) | omega)
    refine hrun _ fun o g' hO => ?_
    have hk2 := hK _ _ (hO.base kb)
    clear hK hrun
    repeat' (first | (simp (disch := first | omega | assumption | (simp only [List.length_set]; omega) | (simp [*] <;> fail) | assumption) [-Bool.decide_and, -Bool.decide_or, -Bool.not_and, -Bool.not_or, toNat_pred, toNat_succ, wrap64, wr_new, wr_new0, ok_if, ok_ifn, iadV_sl, makeV_int, decT, decF, over_at, *]) | (with_reducible refine Gd_split (fun hc => ?_) (fun hc => ?_) <;> (have hc2 := hc; try simp at hc2)) | (with_reducible refine Br_split (fun hc => ?_) (fun hc => ?_) <;> (have hc2 := hc; try simp at hc2)) | (with_reducible refine GdT_split (fun hc => ?_) (fun hc => ?_) <;> (have hc2 := hc; try simp at hc2)) | (with_reducible refine WT_alt ?_ ?_) | omega)
  · have hk2 := hK .nils _ (by unfold rtR; rw [if_neg hok]; exact New.nil kb)
    rw [decide_eq_false hok] at hk2
    clear hK
    by_cases k1 : 0 ≤ k ∧ k ≤ 3
    · cases k2 : held3 a d r
      · rw [k2] at ev
        clear hok
        refine CallT_of_body (F := L13) (HasRt.f13) rfl ?_; unfold L13; dsimp only []
        repeat' (first | (simp (disch := first | omega | assumption | (simp only [List.length_set]; omega) | (simp [*] <;> fail) | assumption) [-Bool.decide_and, -Bool.decide_or, -Bool.not_and, -Bool.not_or, toNat_pred, toNat_succ, wrap64, wr_new, wr_new0, ok_if, ok_ifn, iadV_sl, makeV_int, decT, decF, over_at, *]) | (with_reducible refine Gd_split (fun hc => ?_) (fun hc => ?_) <;> (have hc2 := hc; try simp at hc2)) | (with_reducible refine Br_split (fun hc => ?_) (fun hc => ?_) <;> (have hc2 := hc; try simp at hc2)) | (with_reducible refine GdT_split (fun hc => ?_) (fun hc => ?_) <;> (have hc2 := hc; try simp at hc2)) | (with_reducible refine WT_alt ?_ ?_) | omega)
      · rw [k2] at ev
        cases k3 : noted b u p
        · rw [k3] at nv
          clear hok
          refine CallT_of_body (F := L13) (HasRt.f13) rfl ?_; unfold L13; dsimp only []
          repeat' (first | (simp (disch := first | omega | assumption | (simp only [List.length_set]; omega) | (simp [*] <;> fail) | assumption) [-Bool.decide_and, -Bool.decide_or, -Bool.not_and, -Bool.not_or, toNat_pred, toNat_succ, wrap64, wr_new, wr_new0, ok_if, ok_ifn, iadV_sl, makeV_int, decT, decF, over_at, *]) | (with_reducible refine Gd_split (fun hc => ?_) (fun hc => ?_) <;> (have hc2 := hc; try simp at hc2)) | (with_reducible refine Br_split (fun hc => ?_) (fun hc => ?_) <;> (have hc2 := hc; try simp at hc2)) | (with_reducible refine GdT_split (fun hc => ?_) (fun hc => ?_) <;> (have hc2 := hc; try simp at hc2)) | (with_reducible refine WT_alt ?_ ?_) | omega)
        · rw [k3] at nv
          have k4 : ¬ (0 ≤ n ∧ n ≤ 256) := fun q => hok ⟨k1, k2, k3, q⟩
          clear hok
          refine CallT_of_body (F := L13) (HasRt.f13) rfl ?_; unfold L13; dsimp only []
          repeat' (first | (simp (disch := first | omega | assumption | (simp only [List.length_set]; omega) | (simp [*] <;> fail) | assumption) [-Bool.decide_and, -Bool.decide_or, -Bool.not_and, -Bool.not_or, toNat_pred, toNat_succ, wrap64, wr_new, wr_new0, ok_if, ok_ifn, iadV_sl, makeV_int, decT, decF, over_at, *]) | (with_reducible refine Gd_split (fun hc => ?_) (fun hc => ?_) <;> (have hc2 := hc; try simp at hc2)) | (with_reducible refine Br_split (fun hc => ?_) (fun hc => ?_) <;> (have hc2 := hc; try simp at hc2)) | (with_reducible refine GdT_split (fun hc => ?_) (fun hc => ?_) <;> (have hc2 := hc; try simp at hc2)) | (with_reducible refine WT_alt ?_ ?_) | omega)
    · clear hok
      refine CallT_of_body (F := L13) (HasRt.f13) rfl ?_; unfold L13; dsimp only []
      repeat' (first | (simp (disch := first | omega | assumption | (simp only [List.length_set]; omega) | (simp [*] <;> fail) | assumption) [-Bool.decide_and, -Bool.decide_or, -Bool.not_and, -Bool.not_or, toNat_pred, toNat_succ, wrap64, wr_new, wr_new0, ok_if, ok_ifn, iadV_sl, makeV_int, decT, decF, over_at, *]) | (with_reducible refine Gd_split (fun hc => ?_) (fun hc => ?_) <;> (have hc2 := hc; try simp at hc2)) | (with_reducible refine Br_split (fun hc => ?_) (fun hc => ?_) <;> (have hc2 := hc; try simp at hc2)) | (with_reducible refine GdT_split (fun hc => ?_) (fun hc => ?_) <;> (have hc2 := hc; try simp at hc2)) | (with_reducible refine WT_alt ?_ ?_) | omega)
end
end Go.E
