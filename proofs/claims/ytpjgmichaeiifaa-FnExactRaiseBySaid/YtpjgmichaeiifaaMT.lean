/- Folding of samples with taps. -/
import Derived.Test.YtpjgmichaeiifaaMP
set_option linter.unusedVariables false
set_option linter.unusedSimpArgs false
namespace Go.E
open Go
def L69 : LFn := ⟨1, (.seq (.reg [⟨(.some 2), (.mv (.c (.lf (.bool false)))), none⟩])
 (.seq (.reg [⟨(.some 3), (.mv (.t 0)), none⟩, ⟨(.some 4), (.len (.t 3)), none⟩, ⟨(.some 5), (.call true 86 [(.t 4), (.c (.lf (.int .i64 1))), (.c (.lf (.int .i64 32)))]), none⟩, ⟨(.some 2), (.mv (.t 5)), none⟩])
 .ret)), [(.tmp 2)]⟩
def L71 : LFn := ⟨3, (.seq (.reg [⟨(.some 6), (.mv (.c (.lf .nils))), none⟩, ⟨(.some 7), (.mv (.c (.lf .nils))), none⟩])
 (.seq (.reg [⟨(.some 13), (.lit 24 1 0 [] []), none⟩, ⟨(.some 14), (.mv (.t 1)), none⟩, ⟨(.some 15), (.app 24 1 4 (.t 13) (.t 14)), none⟩, ⟨(.some 16), (.mv (.t 2)), none⟩, ⟨(.some 17), (.app 24 1 4 (.t 15) (.t 16)), none⟩, ⟨(.some 8), (.mv (.t 17)), none⟩])
 (.seq (.reg [⟨(.some 18), (.lit 24 1 0 [] []), none⟩, ⟨(.some 9), (.mv (.t 18)), none⟩])
 (.seq (.seq (.reg [⟨(.some 10), (.mv (.c (.lf (.int .i64 0)))), none⟩])
 (.block 0 (.loop (.seq (.seq (.reg [⟨(.some 19), (.mv (.t 10)), none⟩, ⟨(.some 20), (.mv (.t 2)), none⟩, ⟨(.some 21), (.len (.t 20)), none⟩, ⟨(.some 22), (.bin .lss (.t 19) (.t 21)), none⟩])
 (.cond (.t 22) .skip (.exit 0)))
 (.seq (.block 1 (.seq (.reg [⟨(.some 11), (.mv (.c (.lf (.flt .f32 0)))), none⟩])
 (.seq (.seq (.reg [⟨(.some 12), (.mv (.c (.lf (.int .i64 0)))), none⟩])
 (.block 2 (.loop (.seq (.seq (.reg [⟨(.some 25), (.mv (.t 12)), none⟩, ⟨(.some 26), (.mv (.t 0)), none⟩, ⟨(.some 27), (.len (.t 26)), none⟩, ⟨(.some 28), (.bin .lss (.t 25) (.t 27)), none⟩])
 (.cond (.t 28) .skip (.exit 2)))
 (.seq (.block 3 (.reg [⟨(.some 31), (.mv (.t 11)), none⟩, ⟨(.some 32), (.mv (.t 0)), none⟩, ⟨(.some 33), (.mv (.t 12)), none⟩, ⟨(.some 34), (.iaddr 1 (.t 32) (.t 33)), none⟩, ⟨(.some 35), (.load false 1 (.t 34)), none⟩, ⟨(.some 36), (.mv (.t 8)), none⟩, ⟨(.some 37), (.mv (.t 1)), none⟩, ⟨(.some 38), (.len (.t 37)), none⟩, ⟨(.some 39), (.mv (.t 10)), none⟩, ⟨(.some 40), (.bin .add (.t 38) (.t 39)), none⟩, ⟨(.some 41), (.mv (.t 12)), none⟩, ⟨(.some 42), (.bin .sub (.t 40) (.t 41)), none⟩, ⟨(.some 43), (.iaddr 1 (.t 36) (.t 42)), none⟩, ⟨(.some 44), (.load false 1 (.t 43)), none⟩, ⟨(.some 45), (.bin .mul (.t 35) (.t 44)), none⟩, ⟨(.some 46), (.bin .add (.t 31) (.t 45)), none⟩, ⟨(.some 11), (.mv (.t 46)), none⟩]))
 (.reg [⟨(.some 29), (.mv (.t 12)), none⟩, ⟨(.some 30), (.bin .add (.t 29) (.c (.lf (.int .i64 1)))), none⟩, ⟨(.some 12), (.mv (.t 30)), none⟩]))))))
 (.reg [⟨(.some 47), (.mv (.t 9)), none⟩, ⟨(.some 48), (.mv (.t 11)), none⟩, ⟨(.some 49), (.lit 24 1 1 [(.flt .f32 0)] [(0, (1, (.t 48)))]), none⟩, ⟨(.some 50), (.app 24 1 4 (.t 47) (.t 49)), none⟩, ⟨(.some 9), (.mv (.t 50)), none⟩]))))
 (.reg [⟨(.some 23), (.mv (.t 10)), none⟩, ⟨(.some 24), (.bin .add (.t 23) (.c (.lf (.int .i64 1)))), none⟩, ⟨(.some 10), (.mv (.t 24)), none⟩]))))))
 (.seq (.reg [⟨(.some 51), (.mv (.t 9)), none⟩, ⟨(.some 52), (.lit 24 1 0 [] []), none⟩, ⟨(.some 53), (.mv (.t 8)), none⟩, ⟨(.some 54), (.mv (.t 2)), none⟩, ⟨(.some 55), (.len (.t 54)), none⟩, ⟨(.some 56), (.slice 1 (.t 53) (.some (.t 55)) none), none⟩, ⟨(.some 57), (.app 24 1 4 (.t 52) (.t 56)), none⟩, ⟨(.some 6), (.mv (.t 51)), none⟩, ⟨(.some 7), (.mv (.t 57)), none⟩])
 .ret))))), [(.tmp 6), (.tmp 7)]⟩
def L73 : LFn := ⟨1, (.seq (.reg [⟨(.some 2), (.mv (.c (.lf (.bool false)))), none⟩])
 (.seq (.reg [⟨(.some 3), (.mv (.t 0)), none⟩, ⟨(.some 4), (.len (.t 3)), none⟩, ⟨(.some 5), (.call true 76 [(.t 4)]), none⟩, ⟨(.some 6), (.call true 127 [(.t 5), (.c (.lf (.int .i64 1))), (.c (.lf (.int .i64 32)))]), none⟩, ⟨(.some 2), (.mv (.t 6)), none⟩])
 .ret)), [(.tmp 2)]⟩
def L129 : LFn := ⟨1, (.seq (.reg [⟨(.some 2), (.mv (.c (.lf .nils))), none⟩])
 (.seq (.reg [⟨(.some 3), (.lit 24 1 0 [] []), none⟩, ⟨(.some 4), (.mv (.t 0)), none⟩, ⟨(.some 5), (.app 24 1 4 (.t 3) (.t 4)), none⟩, ⟨(.some 2), (.mv (.t 5)), none⟩])
 .ret)), [(.tmp 2)]⟩
def L74 : LFn := ⟨3, (.seq (.reg [⟨(.some 6), (.mv (.c (.lf .nils))), none⟩, ⟨(.some 7), (.mv (.c (.lf .nils))), none⟩])
 (.seq (.reg [⟨(.some 14), (.mv (.t 1)), none⟩, ⟨(.some 15), (.call false 129 [(.t 14)]), none⟩, ⟨(.some 16), (.mv (.t 2)), none⟩, ⟨(.some 17), (.app 24 1 4 (.t 15) (.t 16)), none⟩, ⟨(.some 8), (.mv (.t 17)), none⟩])
 (.seq (.reg [⟨(.some 9), (.mv (.c (.lf .nils))), none⟩])
 (.seq (.seq (.reg [⟨(.some 18), (.mv (.t 2)), none⟩, ⟨(.some 19), (.len (.t 18)), none⟩, ⟨(.some 20), (.mv (.c (.lf (.int .i64 0)))), none⟩])
 (.block 0 (.loop (.seq (.reg [⟨(.some 21), (.bin .lss (.t 20) (.t 19)), none⟩])
 (.seq (.cond (.t 21) .skip (.exit 0))
 (.seq (.block 1 (.seq (.reg [⟨(.some 22), (.mv (.t 20)), none⟩, ⟨(.some 10), (.mv (.t 22)), none⟩])
 (.seq (.reg [⟨(.some 11), (.mv (.c (.lf (.flt .f32 0)))), none⟩])
 (.seq (.seq (.reg [⟨(.some 23), (.mv (.t 0)), none⟩, ⟨(.some 24), (.len (.t 23)), none⟩, ⟨(.some 25), (.mv (.c (.lf (.int .i64 0)))), none⟩])
 (.block 2 (.loop (.seq (.reg [⟨(.some 26), (.bin .lss (.t 25) (.t 24)), none⟩])
 (.seq (.cond (.t 26) .skip (.exit 2))
 (.seq (.block 3 (.seq (.reg [⟨(.some 27), (.mv (.t 25)), none⟩, ⟨(.some 28), (.iaddr 1 (.t 23) (.t 25)), none⟩, ⟨(.some 29), (.load false 1 (.t 28)), none⟩, ⟨(.some 12), (.mv (.t 27)), none⟩, ⟨(.some 13), (.mv (.t 29)), none⟩])
 (.reg [⟨(.some 30), (.mv (.t 11)), none⟩, ⟨(.some 31), (.mv (.t 13)), none⟩, ⟨(.some 32), (.mv (.t 8)), none⟩, ⟨(.some 33), (.mv (.t 1)), none⟩, ⟨(.some 34), (.len (.t 33)), none⟩, ⟨(.some 35), (.mv (.t 10)), none⟩, ⟨(.some 36), (.bin .add (.t 34) (.t 35)), none⟩, ⟨(.some 37), (.mv (.t 12)), none⟩, ⟨(.some 38), (.bin .sub (.t 36) (.t 37)), none⟩, ⟨(.some 39), (.iaddr 1 (.t 32) (.t 38)), none⟩, ⟨(.some 40), (.load false 1 (.t 39)), none⟩, ⟨(.some 41), (.bin .mul (.t 31) (.t 40)), none⟩, ⟨(.some 42), (.bin .add (.t 30) (.t 41)), none⟩, ⟨(.some 11), (.mv (.t 42)), none⟩])))
 (.reg [⟨(.some 43), (.bin .add (.t 25) (.c (.lf (.int .i64 1)))), none⟩, ⟨(.some 25), (.mv (.t 43)), none⟩])))))))
 (.reg [⟨(.some 44), (.mv (.t 9)), none⟩, ⟨(.some 45), (.mv (.t 11)), none⟩, ⟨(.some 46), (.lit 24 1 1 [(.flt .f32 0)] [(0, (1, (.t 45)))]), none⟩, ⟨(.some 47), (.app 24 1 4 (.t 44) (.t 46)), none⟩, ⟨(.some 9), (.mv (.t 47)), none⟩])))))
 (.reg [⟨(.some 48), (.bin .add (.t 20) (.c (.lf (.int .i64 1)))), none⟩, ⟨(.some 20), (.mv (.t 48)), none⟩])))))))
 (.seq (.reg [⟨(.some 49), (.mv (.t 9)), none⟩, ⟨(.some 50), (.mv (.t 8)), none⟩, ⟨(.some 51), (.mv (.t 2)), none⟩, ⟨(.some 52), (.len (.t 51)), none⟩, ⟨(.some 53), (.slice 1 (.t 50) (.some (.t 52)) none), none⟩, ⟨(.some 54), (.call false 129 [(.t 53)]), none⟩, ⟨(.some 6), (.mv (.t 49)), none⟩, ⟨(.some 7), (.mv (.t 54)), none⟩])
 .ret))))), [(.tmp 6), (.tmp 7)]⟩
class HasT (S : Sys) : Prop extends HasP S where
  f69 : S.fs 69 = some L69
  f71 : S.fs 71 = some L71
  f73 : S.fs 73 = some L73
  f129 : S.fs 129 = some L129
  f74 : S.fs 74 = some L74
/-- The sum of the first n taps, each times the sample that lies so far behind p. -/
def tapSum (ts line : List Nat) (p : Nat) : Nat → Nat
  | 0 => 0
  | j + 1 => fbin .add .f32 (tapSum ts line p j) (fbin .mul .f32 (ts.getD j 0) (line.getD (p - j) 0))
def folded (ts ds xs : List Nat) (n : Nat) : List Nat := (List.range n).map fun k => tapSum ts (ds ++ xs) (ds.length + k) ts.length
@[simp] theorem folded_len {ts ds xs : List Nat} {n : Nat} : (folded ts ds xs n).length = n := by simp [folded]
theorem folded_succ {ts ds xs : List Nat} {n : Nat} : folded ts ds xs (n + 1) = folded ts ds xs n ++ [tapSum ts (ds ++ xs) (ds.length + n) ts.length] := by simp [folded, List.range_succ]
def okT (ts ds xs : List Nat) : Bool := decide ((1 ≤ ts.length ∧ ts.length ≤ 32) ∧ ds.length + 1 = ts.length ∧ xs.length ≤ 256)
section
variable {S : Sys} {lim : Nat} {h : Hp} {K : CV → Hp → Prop} [HasT S] {l1 l2 l3 l : Lf} {ts ds xs : List Nat}
theorem c_l06Taps (hA : Arr h l 1 (xs.map fl)) : CallT S true 69 [.lf l] h lim K = K (.lf (.bool (decide (1 ≤ (xs.length : Int) ∧ (xs.length : Int) ≤ 32)))) h := by
  refine CallT_pure (F := L69) (HasT.f69) rfl (by first | rfl | (split <;> rfl) | simp) ?_; unfold L69; dsimp only []
  repeat' (first | (simp (disch := first | omega | assumption | (simp [*] <;> fail) | assumption) [-Bool.decide_and, -Bool.decide_or, -Bool.not_and, -Bool.not_or, toNat_pred, toNat_succ, wrap64, wr_new, wr_new0, ok_if, ok_ifn, iadV_sl, makeV_int, decT, decF, over_at, *, hA.len]) | (with_reducible refine Gd_split (fun hc => ?_) (fun hc => ?_) <;> (have hc2 := hc; try simp at hc2)) | (with_reducible refine Br_split (fun hc => ?_) (fun hc => ?_) <;> (have hc2 := hc; try simp at hc2)) | (with_reducible refine GdT_split (fun hc => ?_) (fun hc => ?_) <;> (have hc2 := hc; try simp at hc2)) | (with_reducible refine WT_alt ?_ ?_) | omega)
theorem c_areTaps (hA : Arr h l 1 (xs.map fl)) : CallT S true 73 [.lf l] h lim K = K (.lf (.bool (decide (1 ≤ (xs.length : Int) ∧ (xs.length : Int) ≤ 32)))) h := by
  refine CallT_pure (F := L73) (HasT.f73) rfl (by first | rfl | (split <;> rfl) | simp) ?_; unfold L73; dsimp only []
  repeat' (first | (simp (disch := first | omega | assumption | (simp [*] <;> fail) | assumption) [-Bool.decide_and, -Bool.decide_or, -Bool.not_and, -Bool.not_or, toNat_pred, toNat_succ, wrap64, wr_new, wr_new0, ok_if, ok_ifn, iadV_sl, makeV_int, decT, decF, over_at, *, hA.len]) | (with_reducible refine Gd_split (fun hc => ?_) (fun hc => ?_) <;> (have hc2 := hc; try simp at hc2)) | (with_reducible refine Br_split (fun hc => ?_) (fun hc => ?_) <;> (have hc2 := hc; try simp at hc2)) | (with_reducible refine GdT_split (fun hc => ?_) (fun hc => ?_) <;> (have hc2 := hc; try simp at hc2)) | (with_reducible refine WT_alt ?_ ?_) | omega)
theorem fl_rows : ∀ (i : Nat) (r : List Lf), (xs.map fl)[i]? = some r → r.length = 1 := by
  intro i r hi
  rw [List.getElem?_map] at hi
  obtain ⟨x, _, rfl⟩ := Option.map_eq_some_iff.1 hi
  rfl
/-- Known of a slice: its rows, and that they can be had at once. -/
structure Sm (h : Hp) (l : Lf) (xs : List Nat) : Prop where
  arr : Arr h l 1 (xs.map fl)
  src : srcCells 1 h (.lf l) = some ((xs.map fl).length, (xs.map fl).flatten)
theorem Sm.kept {g : Hp} (s : Sm h l xs) (k : Kept h g) : Sm g l xs := ⟨s.arr.kept k, src_kept k s.src⟩
theorem Sm.new {g : Hp} (hN : New h g l 24 1 (xs.map fl)) : Sm g l xs := ⟨hN.arr, hN.src⟩
theorem New.joined {g : Hp} {ys : List Nat} (hN : New h g l 24 1 (ys.map fl)) (s : Sm g l2 xs) (hl : lim ≤ h.length) (hb : ys.length + xs.length ≤ 1000000) : ∃ l' g', appV lim 24 1 4 g (.lf l) (.lf l2) = some (.lf l', g') ∧ New h g' l' 24 1 ((ys ++ xs).map fl) ∧ But g g' l l' := by
  obtain ⟨l', g', h1, h2, h3⟩ := hN.append (lim := lim) (bytes := 4) (by omega) hl s.src fl_rows (by simp; omega) (by simp; omega)
  exact ⟨l', g', h1, by simpa using h2, h3⟩
theorem c_copyNumbers (s : Sm h l xs) (hn : xs.length ≤ 1000000) (hl : lim ≤ h.length) (hK : ∀ l' g, New h g l' 24 1 (xs.map fl) → K (.lf l') g) : CallT S false 129 [.lf l] h lim K := by
  obtain ⟨l', g', h1, h2, h3⟩ := (New.lit0 (h := h) (ty := 24) (sz := 1)).joined (ys := []) (lim := lim) (s.kept (Kept.app h _)) hl (by simp; omega)
  rw [List.nil_append] at h2
  refine CallT_of_body (F := L129) (HasT.f129) rfl ?_; unfold L129; dsimp only []
  repeat' (first | (simp (disch := first | omega | assumption | (simp [*] <;> fail) | assumption) [-Bool.decide_and, -Bool.decide_or, -Bool.not_and, -Bool.not_or, toNat_pred, toNat_succ, wrap64, wr_new, wr_new0, ok_if, ok_ifn, iadV_sl, makeV_int, decT, decF, over_at, *, leavesAll, fillL]) | (with_reducible refine Gd_split (fun hc => ?_) (fun hc => ?_) <;> (have hc2 := hc; try simp at hc2)) | (with_reducible refine Br_split (fun hc => ?_) (fun hc => ?_) <;> (have hc2 := hc; try simp at hc2)) | (with_reducible refine GdT_split (fun hc => ?_) (fun hc => ?_) <;> (have hc2 := hc; try simp at hc2)) | (with_reducible refine WT_alt ?_ ?_) | omega)
theorem Sm.from_ {j : Nat} (s : Sm h l xs) (hj : j ≤ xs.length) : Sm h (l.from_ j 1) (xs.drop j) := by
  refine ⟨?_, ?_⟩
  · have := s.arr.from_ (j := j) (by simpa using hj)
    simpa using this
  · have := src_from fl_rows s.src (j := j) (by simpa using hj)
    simpa using this
theorem tapSum_eq {line : List Nat} {p j q : Nat} (hj : j < ts.length) (hq : q = p - j) (hq2 : q < line.length) : tapSum ts line p (j + 1) = fbin .add .f32 (tapSum ts line p j) (fbin .mul .f32 ts[j] line[q]) := by
  subst hq
  simp [tapSum, hj, hq2]
theorem c_l06Fold (h1 : Sm h l1 ts) (h2 : Sm h l2 ds) (h3 : Sm h l3 xs) (hok : okT ts ds xs = true) (hl : lim ≤ h.length) (hK : ∀ o g3 r g4, New h g3 o 24 1 ((folded ts ds xs xs.length).map fl) → New g3 g4 r 24 1 (((ds ++ xs).drop xs.length).map fl) → K (.tup [.lf o, .lf r]) g4) :
    CallT S false 71 [.lf l1, .lf l2, .lf l3] h lim K := by
  simp only [okT, decide_eq_true_eq] at hok
  obtain ⟨a1, b1, e1, hN1, _⟩ := (New.lit0 (h := h) (ty := 24) (sz := 1)).joined (ys := []) (lim := lim) (h2.kept (Kept.app h _)) hl (by simp; omega)
  rw [List.nil_append] at hN1
  obtain ⟨a2, b2, e2, hN2, _⟩ := hN1.joined (lim := lim) (h3.kept hN1.kept) hl (by omega)
  have k2 := hN2.kept.1
  refine CallT_of_body (F := L71) (HasT.f71) rfl ?_; unfold L71; dsimp only []
  repeat' (first | (simp (disch := first | omega | assumption | (simp [*] <;> fail) | assumption) [-Bool.decide_and, -Bool.decide_or, -Bool.not_and, -Bool.not_or, toNat_pred, toNat_succ, wrap64, wr_new, wr_new0, ok_if, ok_ifn, iadV_sl, makeV_int, decT, decF, over_at, *, leavesAll, fillL]) | (with_reducible refine Gd_split (fun hc => ?_) (fun hc => ?_) <;> (have hc2 := hc; try simp at hc2)) | (with_reducible refine Br_split (fun hc => ?_) (fun hc => ?_) <;> (have hc2 := hc; try simp at hc2)) | (with_reducible refine GdT_split (fun hc => ?_) (fun hc => ?_) <;> (have hc2 := hc; try simp at hc2)) | (with_reducible refine WT_alt ?_ ?_) | omega)
  refine WL_for xs.length (fun k a' g => k ≤ xs.length ∧ a' 0 = .lf l1 ∧ a' 1 = .lf l2 ∧ a' 2 = .lf l3 ∧ a' 8 = .lf a2 ∧ a' 10 = .lf (.int .i64 k) ∧ (∃ o, a' 9 = .lf o ∧ New b2 g o 24 1 ((folded ts ds xs k).map fl))) (fun i a' h' hi => hi.1) ?_ ⟨by simp, by simp, by simp, by simp, by simp, by simp, ⟨.sl b2.length 0 0 1, by simp, by simpa [folded] using New.lit0⟩⟩
  rintro k a' g ⟨hk, e0, e1', e2', e8, e10, ⟨o, e9, hO⟩⟩
  have kg := hN2.kept.trans hO.kept
  have hA1 := (h1.kept kg).arr
  have hA2 := (h2.kept kg).arr
  have hA3 := (h3.kept kg).arr
  have hL := (hN2.arr.kept hO.kept)
  by_cases hlt : k < xs.length
  · repeat' (first | (simp (disch := first | omega | assumption | (simp [*] <;> fail) | assumption) [-Bool.decide_and, -Bool.decide_or, -Bool.not_and, -Bool.not_or, toNat_pred, toNat_succ, wrap64, wr_new, wr_new0, ok_if, ok_ifn, iadV_sl, makeV_int, decT, decF, over_at, *, hA1.len, hA2.len, hA3.len]) | (with_reducible refine Gd_split (fun hc => ?_) (fun hc => ?_) <;> (have hc2 := hc; try simp at hc2)) | (with_reducible refine Br_split (fun hc => ?_) (fun hc => ?_) <;> (have hc2 := hc; try simp at hc2)) | (with_reducible refine GdT_split (fun hc => ?_) (fun hc => ?_) <;> (have hc2 := hc; try simp at hc2)) | (with_reducible refine WT_alt ?_ ?_) | omega)
    refine WL_for ts.length (fun j a' g' => j ≤ ts.length ∧ a' 0 = .lf l1 ∧ a' 1 = .lf l2 ∧ a' 2 = .lf l3 ∧ a' 8 = .lf a2 ∧ a' 10 = .lf (.int .i64 k) ∧ a' 9 = .lf o ∧ a' 11 = .lf (.flt .f32 (tapSum ts (ds ++ xs) (ds.length + k) j)) ∧ a' 12 = .lf (.int .i64 j) ∧ g' = g) (fun i a' h' hi => hi.1) ?_ ⟨by simp, by simp [e0], by simp [e1'], by simp [e2'], by simp [e8], by simp [e10], by simp [e9], by simp [tapSum], by simp, rfl⟩
    rintro j a' g' ⟨hj, e0, e1', e2', e8, e10, e9, e11, e12, rfl⟩
    by_cases hjt : j < ts.length
    · have q1 := hA1.at_ (k := .i64) hjt
      have q2 := hA1.rd1 hjt
      have hq : ds.length + k - j < (ds ++ xs).length := by simp; omega
      have ec : (ds.length : Int) + k - j = ((ds.length + k - j : Nat) : Int) := by omega
      have q3 := hL.at_ (k := .i64) hq
      have q4 := hL.rd1 hq
      have hs := tapSum_eq (ts := ts) (line := ds ++ xs) (p := ds.length + k) hjt rfl hq
      simp only [fl] at q2 q4
      simp only [Nat.mul_one] at q1 q3
      generalize (ds ++ xs)[ds.length + k - j] = y at q4 hs
      repeat' (first | (simp (disch := first | omega | assumption | (simp [*] <;> fail) | assumption) [-Bool.decide_and, -Bool.decide_or, -Bool.not_and, -Bool.not_or, toNat_pred, toNat_succ, wrap64, wr_new, wr_new0, ok_if, ok_ifn, iadV_sl, makeV_int, decT, decF, over_at, *, hA1.len, hA2.len]) | (with_reducible refine Gd_split (fun hc => ?_) (fun hc => ?_) <;> (have hc2 := hc; try simp at hc2)) | (with_reducible refine Br_split (fun hc => ?_) (fun hc => ?_) <;> (have hc2 := hc; try simp at hc2)) | (with_reducible refine GdT_split (fun hc => ?_) (fun hc => ?_) <;> (have hc2 := hc; try simp at hc2)) | (with_reducible refine WT_alt ?_ ?_) | omega)
    · have : j = ts.length := by omega
      subst this
      obtain ⟨o2, g2, e, hO2, _⟩ := hO.push (lim := lim) (bytes := 4) (r := fl (tapSum ts (ds ++ xs) (ds.length + k) ts.length)) (by omega) (by omega) rfl (by simp; omega) (by simp; omega)
      simp only [fl] at e
      repeat' (first | (simp (disch := first | omega | assumption | (simp [*] <;> fail) | assumption) [-Bool.decide_and, -Bool.decide_or, -Bool.not_and, -Bool.not_or, toNat_pred, toNat_succ, wrap64, wr_new, wr_new0, ok_if, ok_ifn, iadV_sl, makeV_int, decT, decF, over_at, *, hA1.len, leavesAll, fillL]) | (with_reducible refine Gd_split (fun hc => ?_) (fun hc => ?_) <;> (have hc2 := hc; try simp at hc2)) | (with_reducible refine Br_split (fun hc => ?_) (fun hc => ?_) <;> (have hc2 := hc; try simp at hc2)) | (with_reducible refine GdT_split (fun hc => ?_) (fun hc => ?_) <;> (have hc2 := hc; try simp at hc2)) | (with_reducible refine WT_alt ?_ ?_) | omega)
      refine ⟨hlt, ?_⟩
      rw [folded_succ]
      simpa [fl] using hO2
  · have : k = xs.length := by omega
    subst this
    have sL : Sm g a2 (ds ++ xs) := (Sm.new hN2).kept hO.kept
    have hsl : slcV 1 (.lf a2) (some (.lf (.int .i64 xs.length))) none = some (.lf (a2.from_ xs.length 1)) := slcV_from hL (by omega) (by simp)
    obtain ⟨r, g4, e4, hR, _⟩ := (New.lit0 (h := g) (ty := 24) (sz := 1)).joined (ys := []) (lim := lim) ((sL.from_ (j := xs.length) (by simp)).kept (Kept.app g _)) (by have := hO.kept.1; omega) (by simp; omega)
    rw [List.nil_append] at hR
    repeat' (first | (simp (disch := first | omega | assumption | (simp [*] <;> fail) | assumption) [-Bool.decide_and, -Bool.decide_or, -Bool.not_and, -Bool.not_or, toNat_pred, toNat_succ, wrap64, wr_new, wr_new0, ok_if, ok_ifn, iadV_sl, makeV_int, decT, decF, over_at, *, hA3.len, leavesAll, fillL]) | (with_reducible refine Gd_split (fun hc => ?_) (fun hc => ?_) <;> (have hc2 := hc; try simp at hc2)) | (with_reducible refine Br_split (fun hc => ?_) (fun hc => ?_) <;> (have hc2 := hc; try simp at hc2)) | (with_reducible refine GdT_split (fun hc => ?_) (fun hc => ?_) <;> (have hc2 := hc; try simp at hc2)) | (with_reducible refine WT_alt ?_ ?_) | omega)
    exact hK o g r g4 (hO.base hN2.kept) hR
theorem c_implFold (h1 : Sm h l1 ts) (h2 : Sm h l2 ds) (h3 : Sm h l3 xs) (hok : okT ts ds xs = true) (hl : lim ≤ h.length) (hK : ∀ o g3 r g4, New h g3 o 24 1 ((folded ts ds xs xs.length).map fl) → New g3 g4 r 24 1 (((ds ++ xs).drop xs.length).map fl) → K (.tup [.lf o, .lf r]) g4) :
    CallT S false 74 [.lf l1, .lf l2, .lf l3] h lim K := by
  simp only [okT, decide_eq_true_eq] at hok
  refine CallT_of_body (F := L74) (HasT.f74) rfl ?_; unfold L74; dsimp only []
  repeat' (first | (simp (disch := first | omega | assumption | (simp [*] <;> fail) | assumption) [-Bool.decide_and, -Bool.decide_or, -Bool.not_and, -Bool.not_or, toNat_pred, toNat_succ, wrap64, wr_new, wr_new0, ok_if, ok_ifn, iadV_sl, makeV_int, decT, decF, over_at, *]) | (with_reducible refine Gd_split (fun hc => ?_) (fun hc => ?_) <;> (have hc2 := hc; try simp at hc2)) | (with_reducible refine Br_split (fun hc => ?_) (fun hc => ?_) <;> (have hc2 := hc; try simp at hc2)) | (with_reducible refine GdT_split (fun hc => ?_) (fun hc => ?_) <;> (have hc2 := hc; try simp at hc2)) | (with_reducible refine WT_alt ?_ ?_) | omega)
  refine c_copyNumbers h2 (by omega) hl fun a1 b1 hN1 => ?_
  obtain ⟨a2, b2, e2, hN2, _⟩ := hN1.joined (lim := lim) (h3.kept hN1.kept) hl (by omega)
  have k2 := hN2.kept.1
  have hA3 := (h3.kept hN2.kept).arr
  repeat' (first | (simp (disch := first | omega | assumption | (simp [*] <;> fail) | assumption) [-Bool.decide_and, -Bool.decide_or, -Bool.not_and, -Bool.not_or, toNat_pred, toNat_succ, wrap64, wr_new, wr_new0, ok_if, ok_ifn, iadV_sl, makeV_int, decT, decF, over_at, *, hA3.len]) | (with_reducible refine Gd_split (fun hc => ?_) (fun hc => ?_) <;> (have hc2 := hc; try simp at hc2)) | (with_reducible refine Br_split (fun hc => ?_) (fun hc => ?_) <;> (have hc2 := hc; try simp at hc2)) | (with_reducible refine GdT_split (fun hc => ?_) (fun hc => ?_) <;> (have hc2 := hc; try simp at hc2)) | (with_reducible refine WT_alt ?_ ?_) | omega)
  clear hA3
  refine WL_for xs.length (fun k a' g => k ≤ xs.length ∧ a' 0 = .lf l1 ∧ a' 1 = .lf l2 ∧ a' 2 = .lf l3 ∧ a' 8 = .lf a2 ∧ a' 19 = .lf (.int .i64 xs.length) ∧ a' 20 = .lf (.int .i64 k) ∧ (∃ o, a' 9 = .lf o ∧ New b2 g o 24 1 ((folded ts ds xs k).map fl))) (fun i a' h' hi => hi.1) ?_ ⟨by simp, by simp, by simp, by simp, by simp, by simp, by simp, ⟨.nils, by simp, by simpa [folded] using New.nil (Kept.refl b2)⟩⟩
  rintro k a' g ⟨hk, e0, e1', e2', e8, e19, e10, ⟨o, e9, hO⟩⟩
  have kg := hN2.kept.trans hO.kept
  have hA1 := (h1.kept kg).arr
  have hA2 := (h2.kept kg).arr
  have hA3 := (h3.kept kg).arr
  have hL := (hN2.arr.kept hO.kept)
  by_cases hlt : k < xs.length
  · repeat' (first | (simp (disch := first | omega | assumption | (simp [*] <;> fail) | assumption) [-Bool.decide_and, -Bool.decide_or, -Bool.not_and, -Bool.not_or, toNat_pred, toNat_succ, wrap64, wr_new, wr_new0, ok_if, ok_ifn, iadV_sl, makeV_int, decT, decF, over_at, *, hA1.len, hA2.len, hA3.len]) | (with_reducible refine Gd_split (fun hc => ?_) (fun hc => ?_) <;> (have hc2 := hc; try simp at hc2)) | (with_reducible refine Br_split (fun hc => ?_) (fun hc => ?_) <;> (have hc2 := hc; try simp at hc2)) | (with_reducible refine GdT_split (fun hc => ?_) (fun hc => ?_) <;> (have hc2 := hc; try simp at hc2)) | (with_reducible refine WT_alt ?_ ?_) | omega)
    refine WL_for ts.length (fun j a' g' => j ≤ ts.length ∧ a' 0 = .lf l1 ∧ a' 1 = .lf l2 ∧ a' 2 = .lf l3 ∧ a' 8 = .lf a2 ∧ a' 19 = .lf (.int .i64 xs.length) ∧ a' 20 = .lf (.int .i64 k) ∧ a' 10 = .lf (.int .i64 k) ∧ a' 9 = .lf o ∧ a' 11 = .lf (.flt .f32 (tapSum ts (ds ++ xs) (ds.length + k) j)) ∧ a' 23 = .lf l1 ∧ a' 24 = .lf (.int .i64 ts.length) ∧ a' 25 = .lf (.int .i64 j) ∧ g' = g) (fun i a' h' hi => hi.1) ?_ ⟨by simp, by simp [e0], by simp [e1'], by simp [e2'], by simp [e8], by simp [e19], by simp [e10], by simp, by simp [e9], by simp [tapSum], by simp, by simp, by simp, rfl⟩
    rintro j a' g' ⟨hj, e0, e1', e2', e8, e19, e20, e10, e9, e11, e23, e24, e12, rfl⟩
    by_cases hjt : j < ts.length
    · have q1 := hA1.at_ (k := .i64) hjt
      have q2 := hA1.rd1 hjt
      have hq : ds.length + k - j < (ds ++ xs).length := by simp; omega
      have ec : (ds.length : Int) + k - j = ((ds.length + k - j : Nat) : Int) := by omega
      have q3 := hL.at_ (k := .i64) hq
      have q4 := hL.rd1 hq
      have hs := tapSum_eq (ts := ts) (line := ds ++ xs) (p := ds.length + k) hjt rfl hq
      simp only [fl] at q2 q4
      simp only [Nat.mul_one] at q1 q3
      generalize (ds ++ xs)[ds.length + k - j] = y at q4 hs
      repeat' (first | (simp (disch := first | omega | assumption | (simp [*] <;> fail) | assumption) [-Bool.decide_and, -Bool.decide_or, -Bool.not_and, -Bool.not_or, toNat_pred, toNat_succ, wrap64, wr_new, wr_new0, ok_if, ok_ifn, iadV_sl, makeV_int, decT, decF, over_at, *, hA1.len, hA2.len]) | (with_reducible refine Gd_split (fun hc => ?_) (fun hc => ?_) <;> (have hc2 := hc; try simp at hc2)) | (with_reducible refine Br_split (fun hc => ?_) (fun hc => ?_) <;> (have hc2 := hc; try simp at hc2)) | (with_reducible refine GdT_split (fun hc => ?_) (fun hc => ?_) <;> (have hc2 := hc; try simp at hc2)) | (with_reducible refine WT_alt ?_ ?_) | omega)
    · have : j = ts.length := by omega
      subst this
      obtain ⟨o2, g2, e, hO2, _⟩ := hO.push (lim := lim) (bytes := 4) (r := fl (tapSum ts (ds ++ xs) (ds.length + k) ts.length)) (by omega) (by omega) rfl (by simp; omega) (by simp; omega)
      simp only [fl] at e
      repeat' (first | (simp (disch := first | omega | assumption | (simp [*] <;> fail) | assumption) [-Bool.decide_and, -Bool.decide_or, -Bool.not_and, -Bool.not_or, toNat_pred, toNat_succ, wrap64, wr_new, wr_new0, ok_if, ok_ifn, iadV_sl, makeV_int, decT, decF, over_at, *, hA1.len, leavesAll, fillL]) | (with_reducible refine Gd_split (fun hc => ?_) (fun hc => ?_) <;> (have hc2 := hc; try simp at hc2)) | (with_reducible refine Br_split (fun hc => ?_) (fun hc => ?_) <;> (have hc2 := hc; try simp at hc2)) | (with_reducible refine GdT_split (fun hc => ?_) (fun hc => ?_) <;> (have hc2 := hc; try simp at hc2)) | (with_reducible refine WT_alt ?_ ?_) | omega)
      refine ⟨hlt, ?_⟩
      rw [folded_succ]
      simpa [fl] using hO2
  · have : k = xs.length := by omega
    subst this
    have sL : Sm g a2 (ds ++ xs) := (Sm.new hN2).kept hO.kept
    have hsl : slcV 1 (.lf a2) (some (.lf (.int .i64 xs.length))) none = some (.lf (a2.from_ xs.length 1)) := slcV_from hL (by omega) (by simp)
    repeat' (first | (simp (disch := first | omega | assumption | (simp [*] <;> fail) | assumption) [-Bool.decide_and, -Bool.decide_or, -Bool.not_and, -Bool.not_or, toNat_pred, toNat_succ, wrap64, wr_new, wr_new0, ok_if, ok_ifn, iadV_sl, makeV_int, decT, decF, over_at, *, hA3.len]) | (with_reducible refine Gd_split (fun hc => ?_) (fun hc => ?_) <;> (have hc2 := hc; try simp at hc2)) | (with_reducible refine Br_split (fun hc => ?_) (fun hc => ?_) <;> (have hc2 := hc; try simp at hc2)) | (with_reducible refine GdT_split (fun hc => ?_) (fun hc => ?_) <;> (have hc2 := hc; try simp at hc2)) | (with_reducible refine WT_alt ?_ ?_) | omega)
    refine c_copyNumbers (sL.from_ (j := xs.length) (by simp)) (by simp; omega) (by have := hO.kept.1; omega) fun r g4 hR => ?_
    repeat' (first | (simp (disch := first | omega | assumption | (simp [*] <;> fail) | assumption) [-Bool.decide_and, -Bool.decide_or, -Bool.not_and, -Bool.not_or, toNat_pred, toNat_succ, wrap64, wr_new, wr_new0, ok_if, ok_ifn, iadV_sl, makeV_int, decT, decF, over_at, *]) | (with_reducible refine Gd_split (fun hc => ?_) (fun hc => ?_) <;> (have hc2 := hc; try simp at hc2)) | (with_reducible refine Br_split (fun hc => ?_) (fun hc => ?_) <;> (have hc2 := hc; try simp at hc2)) | (with_reducible refine GdT_split (fun hc => ?_) (fun hc => ?_) <;> (have hc2 := hc; try simp at hc2)) | (with_reducible refine WT_alt ?_ ?_) | omega)
    exact hK o g r g4 (hO.base hN2.kept) hR
def foldO (ts ds xs : List Nat) : List Nat := if okT ts ds xs then folded ts ds xs xs.length else []
def foldR (ts ds xs : List Nat) : List Nat := if okT ts ds xs then (ds ++ xs).drop xs.length else []
theorem foldO_len : (foldO ts ds xs).length ≤ 256 := by
  unfold foldO; split
  · rename_i hok; simp only [okT, decide_eq_true_eq] at hok; simp; omega
  · simp
theorem foldR_len : (foldR ts ds xs).length ≤ 256 := by
  unfold foldR; split
  · rename_i hok; simp only [okT, decide_eq_true_eq] at hok; simp; omega
  · simp
end
end Go.E
