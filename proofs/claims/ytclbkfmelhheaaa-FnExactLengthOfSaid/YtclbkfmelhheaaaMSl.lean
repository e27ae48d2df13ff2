/- How long a session is, both sides. -/
import Derived.Test.YtclbkfmelhheaaaMSv
set_option linter.unusedVariables false
set_option linter.unusedSimpArgs false
namespace Go.E
open Go
def L99 : LFn := ⟨2, (.seq (.reg [⟨(.some 4), (.mv (.c (.lf (.int .i64 0)))), none⟩])
 (.seq (.seq (.reg [⟨(.some 5), (.mv (.t 0)), none⟩, ⟨(.some 6), (.mv (.t 1)), none⟩, ⟨(.some 7), (.bin .gtr (.t 5) (.t 6)), none⟩])
 (.cond (.t 7) (.seq (.reg [⟨(.some 8), (.mv (.t 0)), none⟩, ⟨(.some 4), (.mv (.t 8)), none⟩])
 .ret) .skip))
 (.seq (.reg [⟨(.some 9), (.mv (.t 1)), none⟩, ⟨(.some 4), (.mv (.t 9)), none⟩])
 .ret))), [(.tmp 4)]⟩
def L100 : LFn := ⟨1, (.seq (.reg [⟨(.some 2), (.mv (.c (.lf (.int .i64 0)))), none⟩])
 (.seq (.reg [⟨(.some 3), (.mv (.t 0)), none⟩, ⟨(.some 4), (.nilck (.t 3)), none⟩, ⟨(.some 5), (.faddr 1 (.t 4)), none⟩, ⟨(.some 6), (.load false 1 (.t 5)), none⟩, ⟨(.some 7), (.mv (.t 0)), none⟩, ⟨(.some 8), (.nilck (.t 7)), none⟩, ⟨(.some 9), (.faddr 2 (.t 8)), none⟩, ⟨(.some 10), (.load false 1 (.t 9)), none⟩, ⟨(.some 11), (.len (.t 10)), none⟩, ⟨(.some 12), (.bin .add (.t 6) (.t 11)), none⟩, ⟨(.some 2), (.mv (.t 12)), none⟩])
 .ret)), [(.tmp 2)]⟩
def L101 : LFn := ⟨1, (.seq (.reg [⟨(.some 1), (.box 118 (.t 0)), none⟩, ⟨(.some 2), (.mv (.c (.lf (.int .i64 0)))), none⟩])
 (.seq (.reg [⟨(.some 3), (.faddr 1 (.t 1)), none⟩, ⟨(.some 4), (.load false 1 (.t 3)), none⟩, ⟨(.some 5), (.faddr 2 (.t 1)), none⟩, ⟨(.some 6), (.load false 1 (.t 5)), none⟩, ⟨(.some 7), (.len (.t 6)), none⟩, ⟨(.some 8), (.call true 74 [(.t 7)]), none⟩, ⟨(.some 9), (.bin .add (.t 4) (.t 8)), none⟩, ⟨(.some 2), (.mv (.t 9)), none⟩])
 .ret)), [(.tmp 2)]⟩
def L30 : LFn := ⟨1, (.seq (.reg [⟨(.some 1), (.box 46 (.t 0)), none⟩, ⟨(.some 2), (.mv (.c (.lf (.int .i64 0)))), none⟩, ⟨(.some 3), (.mv (.c (.lf (.bool false)))), none⟩])
 (.seq (.seq (.reg [⟨(.some 6), (.call true 70 [(.t 1)]), none⟩, ⟨(.some 7), (.una .not (.t 6)), none⟩])
 (.cond (.t 7) (.seq (.reg [⟨(.some 2), (.mv (.c (.lf (.int .i64 0)))), none⟩, ⟨(.some 3), (.mv (.c (.lf (.bool false)))), none⟩])
 .ret) .skip))
 (.seq (.reg [⟨(.some 4), (.mv (.c (.lf (.int .i64 0)))), none⟩])
 (.seq (.seq (.reg [⟨(.some 8), (.faddr 0 (.t 1)), none⟩, ⟨(.some 9), (.load false 1 (.t 8)), none⟩, ⟨(.some 10), (.len (.t 9)), none⟩, ⟨(.some 11), (.mv (.c (.lf (.int .i64 0)))), none⟩])
 (.block 0 (.loop (.seq (.reg [⟨(.some 12), (.bin .lss (.t 11) (.t 10)), none⟩])
 (.seq (.cond (.t 12) .skip (.exit 0))
 (.seq (.block 1 (.seq (.reg [⟨(.some 13), (.mv (.t 11)), none⟩, ⟨(.some 5), (.mv (.t 13)), none⟩])
 (.reg [⟨(.some 14), (.mv (.t 4)), none⟩, ⟨(.some 15), (.faddr 0 (.t 1)), none⟩, ⟨(.some 16), (.load false 1 (.t 15)), none⟩, ⟨(.some 17), (.mv (.t 5)), none⟩, ⟨(.some 18), (.iaddr 3 (.t 16) (.t 17)), none⟩, ⟨(.some 19), (.call true 100 [(.t 18)]), none⟩, ⟨(.some 20), (.call true 99 [(.t 14), (.t 19)]), none⟩, ⟨(.some 4), (.mv (.t 20)), none⟩])))
 (.reg [⟨(.some 21), (.bin .add (.t 11) (.c (.lf (.int .i64 1)))), none⟩, ⟨(.some 11), (.mv (.t 21)), none⟩])))))))
 (.seq (.reg [⟨(.some 22), (.mv (.t 4)), none⟩, ⟨(.some 2), (.mv (.t 22)), none⟩, ⟨(.some 3), (.mv (.c (.lf (.bool true)))), none⟩])
 .ret))))), [(.tmp 2), (.tmp 3)]⟩
def L31 : LFn := ⟨1, (.seq (.reg [⟨(.some 1), (.box 46 (.t 0)), none⟩, ⟨(.some 2), (.mv (.c (.lf (.int .i64 0)))), none⟩, ⟨(.some 3), (.mv (.c (.lf (.bool false)))), none⟩])
 (.seq (.seq (.reg [⟨(.some 7), (.load true 2 (.t 1)), none⟩, ⟨(.some 8), (.call true 22 [(.t 7)]), none⟩, ⟨(.some 9), (.una .not (.t 8)), none⟩])
 (.cond (.t 9) (.seq (.reg [⟨(.some 2), (.mv (.c (.lf (.int .i64 0)))), none⟩, ⟨(.some 3), (.mv (.c (.lf (.bool false)))), none⟩])
 .ret) .skip))
 (.seq (.reg [⟨(.some 4), (.mv (.c (.lf (.int .i64 0)))), none⟩])
 (.seq (.seq (.reg [⟨(.some 10), (.faddr 0 (.t 1)), none⟩, ⟨(.some 11), (.load false 1 (.t 10)), none⟩, ⟨(.some 12), (.len (.t 11)), none⟩, ⟨(.some 13), (.mv (.c (.lf (.int .i64 0)))), none⟩])
 (.block 0 (.loop (.seq (.reg [⟨(.some 14), (.bin .lss (.t 13) (.t 12)), none⟩])
 (.seq (.cond (.t 14) .skip (.exit 0))
 (.seq (.block 1 (.seq (.reg [⟨(.some 15), (.iaddr 3 (.t 11) (.t 13)), none⟩, ⟨(.some 16), (.load true 3 (.t 15)), none⟩, ⟨(.some 6), (.alloc 118 [(.int .i64 0), (.int .i64 0), .nils]), none⟩, ⟨none, (.store 3 (.t 6) (.t 16)), none⟩])
 (.reg [⟨(.some 17), (.mv (.t 4)), none⟩, ⟨(.some 18), (.load true 3 (.t 6)), none⟩, ⟨(.some 19), (.call true 101 [(.t 18)]), none⟩, ⟨(.some 20), (.mnmx true [(.t 17), (.t 19)]), none⟩, ⟨(.some 4), (.mv (.t 20)), none⟩])))
 (.reg [⟨(.some 21), (.bin .add (.t 13) (.c (.lf (.int .i64 1)))), none⟩, ⟨(.some 13), (.mv (.t 21)), none⟩])))))))
 (.seq (.reg [⟨(.some 22), (.mv (.t 4)), none⟩, ⟨(.some 2), (.mv (.t 22)), none⟩, ⟨(.some 3), (.mv (.c (.lf (.bool true)))), none⟩])
 .ret))))), [(.tmp 2), (.tmp 3)]⟩
class HasLn (S : Sys) : Prop extends HasVs S where
  f99 : S.fs 99 = some L99
  f100 : S.fs 100 = some L100
  f101 : S.fs 101 = some L101
  f30 : S.fs 30 = some L30
  f31 : S.fs 31 = some L31
def endC (c : Eff) : Int := c.len + c.nums.length
def lenTo (cs : List Eff) (i : Nat) : Int := (cs.take i).foldl (fun n c => max n (endC c)) 0
theorem lenTo_zero {cs : List Eff} : lenTo cs 0 = 0 := by simp [lenTo]
theorem lenTo_succ {cs : List Eff} {i : Nat} (hi : i < cs.length) : lenTo cs (i + 1) = max (lenTo cs i) (endC cs[i]) := by
  unfold lenTo
  rw [List.take_succ_eq_append_getElem hi, List.foldl_append]; rfl
theorem lenTo_le {cs : List Eff} {n : Int} (hc : ∀ c ∈ cs, clpOk n c) : ∀ {i : Nat}, i ≤ cs.length → 0 ≤ lenTo cs i ∧ lenTo cs i ≤ 512
  | 0, _ => by rw [lenTo_zero]; omega
  | i + 1, hi => by
    have h1 := lenTo_le hc (i := i) (by omega)
    have h2 := hc cs[i] (List.getElem_mem _)
    rw [lenTo_succ (by omega)]
    unfold endC
    obtain ⟨_, h3, h4⟩ := h2
    omega
noncomputable def lenT (cs : List Eff) (vs : List StrV) : CV := if sesOk cs vs then .tup [.lf (.int .i64 (lenTo cs cs.length)), .lf (.bool true)] else .tup [.lf (.int .i64 0), .lf (.bool false)]
theorem max_i64 {x y : Int} : mnmxV true [.lf (.int .i64 x), .lf (.int .i64 y)] = some (.lf (.int .i64 (max x y))) := by
  have h : (if x < y then y else x) = max x y := by split <;> omega
  simp [mnmxV, mnmx2, h]
section
variable {S : Sys} {lim : Nat} {h : Hp} {K : CV → Hp → Prop} {l l2 : Lf} {cs : List (Eff × Lf)} {ss : List (Str × Lf)} [HasLn S]
@[simp] theorem c_l00Max {x y : Int} : CallT S true 99 [.lf (.int .i64 x), .lf (.int .i64 y)] h lim K = K (.lf (.int .i64 (max x y))) h := by
  by_cases hlt : y < x
  · rw [Int.max_eq_left (by omega)]
    refine CallT_pure (F := L99) (HasLn.f99) rfl (by first | rfl | (split <;> rfl) | simp) ?_; unfold L99; dsimp only []
    repeat' (first | (simp (disch := first | omega | assumption | (simp only [List.length_set]; omega) | (simp [*] <;> fail) | assumption) [-Bool.decide_and, -Bool.decide_or, -Bool.not_and, -Bool.not_or, toNat_pred, toNat_succ, wrap64, wr_new, wr_new0, ok_if, ok_ifn, iadV_sl, makeV_int, decT, decF, over_at, *]) | (with_reducible refine Gd_split (fun hc => ?_) (fun hc => ?_) <;> (have hc2 := hc; try simp at hc2)) | (with_reducible refine Br_split (fun hc => ?_) (fun hc => ?_) <;> (have hc2 := hc; try simp at hc2)) | (with_reducible refine GdT_split (fun hc => ?_) (fun hc => ?_) <;> (have hc2 := hc; try simp at hc2)) | (with_reducible refine WT_alt ?_ ?_) | omega)
  · rw [Int.max_eq_right (by omega)]
    refine CallT_pure (F := L99) (HasLn.f99) rfl (by first | rfl | (split <;> rfl) | simp) ?_; unfold L99; dsimp only []
    repeat' (first | (simp (disch := first | omega | assumption | (simp only [List.length_set]; omega) | (simp [*] <;> fail) | assumption) [-Bool.decide_and, -Bool.decide_or, -Bool.not_and, -Bool.not_or, toNat_pred, toNat_succ, wrap64, wr_new, wr_new0, ok_if, ok_ifn, iadV_sl, makeV_int, decT, decF, over_at, *]) | (with_reducible refine Gd_split (fun hc => ?_) (fun hc => ?_) <;> (have hc2 := hc; try simp at hc2)) | (with_reducible refine Br_split (fun hc => ?_) (fun hc => ?_) <;> (have hc2 := hc; try simp at hc2)) | (with_reducible refine GdT_split (fun hc => ?_) (fun hc => ?_) <;> (have hc2 := hc; try simp at hc2)) | (with_reducible refine WT_alt ?_ ?_) | omega)
theorem c_l09End {id off : Nat} {x y : Int} {l' : Lf} {xs : List Nat} (hr : ∀ t : Hp, rdCells (h ++ t) id off 3 = some [.int .i64 x, .int .i64 y, l']) (hA : Arr h l' 1 (xs.map fl)) (hy : 0 ≤ y ∧ y ≤ 256) (hx : xs.length ≤ 256) : CallT S true 100 [.lf (.ptr id off)] h lim K = K (.lf (.int .i64 (y + xs.length))) h := by
  have hr0 := hr []
  rw [List.append_nil] at hr0
  have r1 : rdCells h id (off + 1) 1 = some [.int .i64 y] := by have := rd_sub hr0 (j := 1) (m := 1) (by omega); simpa using this
  have r2 : rdCells h id (off + 2) 1 = some [l'] := by have := rd_sub hr0 (j := 2) (m := 1) (by omega); simpa using this
  clear hr hr0
  refine CallT_pure (F := L100) (HasLn.f100) rfl (by first | rfl | (split <;> rfl) | simp) ?_; unfold L100; dsimp only []
  repeat' (first | (simp (disch := first | omega | assumption | (simp only [List.length_set]; omega) | (simp [*] <;> fail) | assumption) [-Bool.decide_and, -Bool.decide_or, -Bool.not_and, -Bool.not_or, toNat_pred, toNat_succ, wrap64, wr_new, wr_new0, ok_if, ok_ifn, iadV_sl, makeV_int, decT, decF, over_at, *, hA.len]) | (with_reducible refine Gd_split (fun hc => ?_) (fun hc => ?_) <;> (have hc2 := hc; try simp at hc2)) | (with_reducible refine Br_split (fun hc => ?_) (fun hc => ?_) <;> (have hc2 := hc; try simp at hc2)) | (with_reducible refine GdT_split (fun hc => ?_) (fun hc => ?_) <;> (have hc2 := hc; try simp at hc2)) | (with_reducible refine WT_alt ?_ ?_) | omega)
theorem c_end {x y : Int} {l' : Lf} {xs : List Nat} (hA : Arr h l' 1 (xs.map fl)) (hy : 0 ≤ y ∧ y ≤ 256) (hx : xs.length ≤ 256) : CallT S true 101 [.agg [.int .i64 x, .int .i64 y, l']] h lim K = K (.lf (.int .i64 (y + xs.length))) h := by
  refine CallT_pure (F := L101) (HasLn.f101) rfl (by first | rfl | (split <;> rfl) | simp) ?_; unfold L101; dsimp only []
  repeat' (first | (simp (disch := first | omega | assumption | (simp only [List.length_set]; omega) | (simp [*] <;> fail) | assumption) [-Bool.decide_and, -Bool.decide_or, -Bool.not_and, -Bool.not_or, toNat_pred, toNat_succ, wrap64, wr_new, wr_new0, ok_if, ok_ifn, iadV_sl, makeV_int, decT, decF, over_at, *, hA.len]) | (with_reducible refine Gd_split (fun hc => ?_) (fun hc => ?_) <;> (have hc2 := hc; try simp at hc2)) | (with_reducible refine Br_split (fun hc => ?_) (fun hc => ?_) <;> (have hc2 := hc; try simp at hc2)) | (with_reducible refine GdT_split (fun hc => ?_) (fun hc => ?_) <;> (have hc2 := hc; try simp at hc2)) | (with_reducible refine WT_alt ?_ ?_) | omega)
set_option maxHeartbeats 2000000 in
theorem c_specLengthOf (hC : Arr h l 3 (cs.map Eff.cells)) (hCI : In h Eff.nums cs) (hS : Arr h l2 5 (ss.map Str.cells)) (hSI : InS h ss) : CallT S true 30 [.agg [l, l2]] h lim K = K (lenT (cs.map (·.1)) (valS ss)) h := by
  have hbC := hC.bound
  obtain ⟨hr0, hr1⟩ := box_rd (h := h) (l := l) (l2 := l2) (ty := 46) (t := [])
  have hv := fun lim K => c_l09Is (S := S) (lim := lim) (K := K) (h := h ++ [⟨[l, l2], .own 46 1⟩]) (id := h.length) (off := 0) hr0 hr1 hC.app (hCI.kept (Kept.app _ _)) hS.app (hSI.kept (Kept.app _ _))
  unfold lenT
  by_cases hok : sesOk (cs.map (·.1)) (valS ss)
  · rw [decide_eq_true hok] at hv
    rw [if_pos hok]
    have hcl := hok.2.2.2
    have hbd := fun i => lenTo_le hcl (i := i)
    rw [List.length_map] at hbd
    have hn12 : cs.length ≤ 12 := by have := hok.2.1; simpa using this
    clear hok
    refine CallT_pure (F := L30) (HasLn.f30) rfl (by first | rfl | (split <;> rfl) | simp) ?_; unfold L30; dsimp only []
    repeat' (first | (simp (disch := first | omega | assumption | (simp only [List.length_set]; omega) | (simp [*] <;> fail) | assumption) [-Bool.decide_and, -Bool.decide_or, -Bool.not_and, -Bool.not_or, toNat_pred, toNat_succ, wrap64, wr_new, wr_new0, ok_if, ok_ifn, iadV_sl, makeV_int, decT, decF, over_at, *, hC.len]) | (with_reducible refine Gd_split (fun hc => ?_) (fun hc => ?_) <;> (have hc2 := hc; try simp at hc2)) | (with_reducible refine Br_split (fun hc => ?_) (fun hc => ?_) <;> (have hc2 := hc; try simp at hc2)) | (with_reducible refine GdT_split (fun hc => ?_) (fun hc => ?_) <;> (have hc2 := hc; try simp at hc2)) | (with_reducible refine WT_alt ?_ ?_) | omega)
    refine WL_forM 4192304 (by decide +kernel) (cs.length) (fun i b g => i ≤ cs.length ∧ b 11 = .lf (.int .i64 i) ∧ b 4 = .lf (.int .i64 (lenTo (cs.map (·.1)) i)) ∧ g = h ++ [⟨[l, l2], .own 46 1⟩]) (fun _ _ _ hi => hi.1) ⟨by omega, by simp, by simp [lenTo_zero], rfl⟩ ?_
    rintro i b g ⟨hi, e11, e4, rfl⟩
    by_cases hlt : i < cs.length
    · have hs := lenTo_succ (cs := cs.map (·.1)) (i := i) (by simpa using hlt)
      rw [List.getElem_map] at hs
      have hc1 := hcl cs[i].1 (List.mem_map.2 ⟨cs[i], List.getElem_mem hlt, rfl⟩)
      have he := fun lim K => c_l09End (S := S) (lim := lim) (K := K) (h := h ++ [⟨[l, l2], .own 46 1⟩]) (id := l.id) (off := l.off + i * 3) (x := cs[i].1.kind) (y := cs[i].1.len) (l' := cs[i].2) (xs := cs[i].1.nums) (fun t => by rw [List.append_assoc]; exact hC.rdA hlt) (hCI i hlt).app hc1.2.1 hc1.2.2
      have hbi := hbd i hi
      have hsH : Hid (lenTo (cs.map (·.1)) (i + 1) = max (lenTo (cs.map (·.1)) i) (endC cs[i].1)) := hs
      clear hs hcl hbd
      generalize lenTo (cs.map (·.1)) i = z at *
      repeat' (first | (simp (disch := first | omega | assumption | (simp only [List.length_set]; omega) | (simp [*] <;> fail) | assumption) [-Bool.decide_and, -Bool.decide_or, -Bool.not_and, -Bool.not_or, toNat_pred, toNat_succ, wrap64, wr_new, wr_new0, ok_if, ok_ifn, iadV_sl, makeV_int, decT, decF, over_at, *, hC.len, hC.at_, hC.at_', hC.rd, hC.rdIn, hC.rdIn0, hC.rdA, hC.rdInA, hC.rdIn0A]) | (with_reducible refine Gd_split (fun hc => ?_) (fun hc => ?_) <;> (have hc2 := hc; try simp at hc2)) | (with_reducible refine Br_split (fun hc => ?_) (fun hc => ?_) <;> (have hc2 := hc; try simp at hc2)) | (with_reducible refine GdT_split (fun hc => ?_) (fun hc => ?_) <;> (have hc2 := hc; try simp at hc2)) | (with_reducible refine WT_alt ?_ ?_) | omega)
      exact ⟨hlt, by rw [show lenTo (cs.map (·.1)) (i + 1) = _ from hsH]; rfl⟩
    · have : i = cs.length := by omega
      subst this
      repeat' (first | (simp (disch := first | omega | assumption | (simp only [List.length_set]; omega) | (simp [*] <;> fail) | assumption) [-Bool.decide_and, -Bool.decide_or, -Bool.not_and, -Bool.not_or, toNat_pred, toNat_succ, wrap64, wr_new, wr_new0, ok_if, ok_ifn, iadV_sl, makeV_int, decT, decF, over_at, *, hC.len]) | (with_reducible refine Gd_split (fun hc => ?_) (fun hc => ?_) <;> (have hc2 := hc; try simp at hc2)) | (with_reducible refine Br_split (fun hc => ?_) (fun hc => ?_) <;> (have hc2 := hc; try simp at hc2)) | (with_reducible refine GdT_split (fun hc => ?_) (fun hc => ?_) <;> (have hc2 := hc; try simp at hc2)) | (with_reducible refine WT_alt ?_ ?_) | omega)
  · rw [decide_eq_false hok] at hv
    rw [if_neg hok]
    refine CallT_pure (F := L30) (HasLn.f30) rfl (by first | rfl | (split <;> rfl) | simp) ?_; unfold L30; dsimp only []
    repeat' (first | (simp (disch := first | omega | assumption | (simp only [List.length_set]; omega) | (simp [*] <;> fail) | assumption) [-Bool.decide_and, -Bool.decide_or, -Bool.not_and, -Bool.not_or, toNat_pred, toNat_succ, wrap64, wr_new, wr_new0, ok_if, ok_ifn, iadV_sl, makeV_int, decT, decF, over_at, *]) | (with_reducible refine Gd_split (fun hc => ?_) (fun hc => ?_) <;> (have hc2 := hc; try simp at hc2)) | (with_reducible refine Br_split (fun hc => ?_) (fun hc => ?_) <;> (have hc2 := hc; try simp at hc2)) | (with_reducible refine GdT_split (fun hc => ?_) (fun hc => ?_) <;> (have hc2 := hc; try simp at hc2)) | (with_reducible refine WT_alt ?_ ?_) | omega)
set_option maxHeartbeats 2000000 in
theorem c_implLengthOf (hC : Arr h l 3 (cs.map Eff.cells)) (hCI : In h Eff.nums cs) (hS : Arr h l2 5 (ss.map Str.cells)) (hSI : InS h ss) : CallT S true 31 [.agg [l, l2]] h lim K = K (lenT (cs.map (·.1)) (valS ss)) h := by
  have hbC := hC.bound
  have hv := fun lim K => c_implValidSession (S := S) (lim := lim) (K := K) (h := h ++ [⟨[l, l2], .own 46 1⟩]) hC.app (hCI.kept (Kept.app _ _)) hS.app (hSI.kept (Kept.app _ _))
  have hkb := Kept.app h [⟨[l, l2], .own 46 1⟩]
  unfold lenT
  by_cases hok : sesOk (cs.map (·.1)) (valS ss)
  · rw [decide_eq_true hok] at hv
    rw [if_pos hok]
    have hcl := hok.2.2.2
    have hbd := fun i => lenTo_le hcl (i := i)
    rw [List.length_map] at hbd
    have hn12 : cs.length ≤ 12 := by have := hok.2.1; simpa using this
    clear hok
    refine CallT_pure (F := L31) (HasLn.f31) rfl (by first | rfl | (split <;> rfl) | simp) ?_; unfold L31; dsimp only []
    repeat' (first | (simp (disch := first | omega | assumption | (simp only [List.length_set]; omega) | (simp [*] <;> fail) | assumption) [-Bool.decide_and, -Bool.decide_or, -Bool.not_and, -Bool.not_or, toNat_pred, toNat_succ, wrap64, wr_new, wr_new0, ok_if, ok_ifn, iadV_sl, makeV_int, decT, decF, over_at, *, hC.len]) | (with_reducible refine Gd_split (fun hc => ?_) (fun hc => ?_) <;> (have hc2 := hc; try simp at hc2)) | (with_reducible refine Br_split (fun hc => ?_) (fun hc => ?_) <;> (have hc2 := hc; try simp at hc2)) | (with_reducible refine GdT_split (fun hc => ?_) (fun hc => ?_) <;> (have hc2 := hc; try simp at hc2)) | (with_reducible refine WT_alt ?_ ?_) | omega)
    refine WL_forM 4186192 (by decide +kernel) (cs.length) (fun i b g => i ≤ cs.length ∧ b 13 = .lf (.int .i64 i) ∧ b 4 = .lf (.int .i64 (lenTo (cs.map (·.1)) i)) ∧ Kept (h ++ [⟨[l, l2], .own 46 1⟩]) g) (fun _ _ _ hi => hi.1) ⟨by omega, by simp, by simp [lenTo_zero], Kept.refl _⟩ ?_
    rintro i b g ⟨hi, e11, e4, hkg⟩
    have hk := hkb.trans hkg
    have hC1 := hC.kept hk
    have hg := hk.1
    by_cases hlt : i < cs.length
    · have hs := lenTo_succ (cs := cs.map (·.1)) (i := i) (by simpa using hlt)
      rw [List.getElem_map] at hs
      have hc1 := hcl cs[i].1 (List.mem_map.2 ⟨cs[i], List.getElem_mem hlt, rfl⟩)
      have he := fun t lim K => c_end (S := S) (lim := lim) (K := K) (h := g ++ t) (x := cs[i].1.kind) (y := cs[i].1.len) (l' := cs[i].2) (xs := cs[i].1.nums) ((hCI i hlt).kept hk).app hc1.2.1 hc1.2.2
      have hbi := hbd i hi
      have hsH : Hid (lenTo (cs.map (·.1)) (i + 1) = max (lenTo (cs.map (·.1)) i) (endC cs[i].1)) := hs
      clear hs hcl hbd
      generalize lenTo (cs.map (·.1)) i = z at *
      repeat' (first | (simp (disch := first | omega | assumption | (simp only [List.length_set]; omega) | (simp [*] <;> fail) | assumption) [-Bool.decide_and, -Bool.decide_or, -Bool.not_and, -Bool.not_or, toNat_pred, toNat_succ, wrap64, wr_new, wr_new0, ok_if, ok_ifn, iadV_sl, makeV_int, decT, decF, over_at, *, hC1.len, hC1.at_, hC1.at_', hC1.rd, hC1.rdIn, hC1.rdIn0, hC1.rdA, hC1.rdInA, hC1.rdIn0A, Eff.cells, leavesAll, fillL, max_i64]) | (with_reducible refine Gd_split (fun hc => ?_) (fun hc => ?_) <;> (have hc2 := hc; try simp at hc2)) | (with_reducible refine Br_split (fun hc => ?_) (fun hc => ?_) <;> (have hc2 := hc; try simp at hc2)) | (with_reducible refine GdT_split (fun hc => ?_) (fun hc => ?_) <;> (have hc2 := hc; try simp at hc2)) | (with_reducible refine WT_alt ?_ ?_) | omega)
      exact ⟨hlt, by rw [show lenTo (cs.map (·.1)) (i + 1) = _ from hsH]; rfl⟩
    · have : i = cs.length := by omega
      subst this
      repeat' (first | (simp (disch := first | omega | assumption | (simp only [List.length_set]; omega) | (simp [*] <;> fail) | assumption) [-Bool.decide_and, -Bool.decide_or, -Bool.not_and, -Bool.not_or, toNat_pred, toNat_succ, wrap64, wr_new, wr_new0, ok_if, ok_ifn, iadV_sl, makeV_int, decT, decF, over_at, *, hC1.len]) | (with_reducible refine Gd_split (fun hc => ?_) (fun hc => ?_) <;> (have hc2 := hc; try simp at hc2)) | (with_reducible refine Br_split (fun hc => ?_) (fun hc => ?_) <;> (have hc2 := hc; try simp at hc2)) | (with_reducible refine GdT_split (fun hc => ?_) (fun hc => ?_) <;> (have hc2 := hc; try simp at hc2)) | (with_reducible refine WT_alt ?_ ?_) | omega)
  · rw [decide_eq_false hok] at hv
    rw [if_neg hok]
    refine CallT_pure (F := L31) (HasLn.f31) rfl (by first | rfl | (split <;> rfl) | simp) ?_; unfold L31; dsimp only []
    repeat' (first | (simp (disch := first | omega | assumption | (simp only [List.length_set]; omega) | (simp [*] <;> fail) | assumption) [-Bool.decide_and, -Bool.decide_or, -Bool.not_and, -Bool.not_or, toNat_pred, toNat_succ, wrap64, wr_new, wr_new0, ok_if, ok_ifn, iadV_sl, makeV_int, decT, decF, over_at, *]) | (with_reducible refine Gd_split (fun hc => ?_) (fun hc => ?_) <;> (have hc2 := hc; try simp at hc2)) | (with_reducible refine Br_split (fun hc => ?_) (fun hc => ?_) <;> (have hc2 := hc; try simp at hc2)) | (with_reducible refine GdT_split (fun hc => ?_) (fun hc => ?_) <;> (have hc2 := hc; try simp at hc2)) | (with_reducible refine WT_alt ?_ ?_) | omega)
end
end Go.E
