/- A unit sample, and what a filter makes of it. -/
import Derived.Test.YtonfalhekphaeaaMFr
import Derived.Test.YtonfalhekphaeaaMN
import Derived.Test.YtonfalhekphaeaaMRl
import Derived.Test.YtonfalhekphaeaaMRf
set_option linter.unusedVariables false
set_option linter.unusedSimpArgs false
namespace Go.E
open Go
def L105 : LFn := ⟨1, (.seq (.reg [⟨(.some 2), (.mv (.c (.lf .nils))), none⟩])
 (.seq (.reg [⟨(.some 4), (.mv (.t 0)), none⟩, ⟨(.some 5), (.call false 145 [(.t 4)]), none⟩, ⟨(.some 3), (.mv (.t 5)), none⟩])
 (.seq (.seq (.reg [⟨(.some 6), (.mv (.t 0)), none⟩, ⟨(.some 7), (.bin .gtr (.t 6) (.c (.lf (.int .i64 0)))), none⟩])
 (.cond (.t 7) (.reg [⟨(.some 8), (.mv (.t 3)), none⟩, ⟨(.some 9), (.iaddr 1 (.t 8) (.c (.lf (.int .i64 0)))), none⟩, ⟨none, (.store 1 (.t 9) (.c (.lf (.flt .f32 1065353216)))), none⟩]) .skip))
 (.seq (.reg [⟨(.some 10), (.mv (.t 3)), none⟩, ⟨(.some 2), (.mv (.t 10)), none⟩])
 .ret)))), [(.tmp 2)]⟩
def L39 : LFn := ⟨3, (.seq (.reg [⟨(.some 3), (.box 58 (.t 0)), none⟩, ⟨(.some 6), (.mv (.c (.lf .nils))), none⟩, ⟨(.some 7), (.mv (.c (.lf (.bool false)))), none⟩])
 (.seq (.seq (.reg [⟨(.some 11), (.mv (.t 1)), none⟩, ⟨(.some 12), (.call true 101 [(.t 11)]), none⟩, ⟨(.some 13), (.una .not (.t 12)), none⟩, ⟨(.some 14), (.mv (.t 13)), none⟩, ⟨(.some 15), (.mv (.t 2)), (.some (14, false))⟩, ⟨(.some 16), (.call true 73 [(.t 15), (.c (.lf (.int .i64 0))), (.c (.lf (.int .i64 256)))]), (.some (14, false))⟩, ⟨(.some 17), (.una .not (.t 16)), (.some (14, false))⟩, ⟨(.some 18), (.pick (.t 14) (.c (.lf (.bool true))) (.t 17)), none⟩])
 (.cond (.t 18) (.seq (.reg [⟨(.some 6), (.mv (.c (.lf .nils))), none⟩, ⟨(.some 7), (.mv (.c (.lf (.bool false)))), none⟩])
 .ret) .skip))
 (.seq (.reg [⟨(.some 19), (.mv (.t 2)), none⟩, ⟨(.some 20), (.make 42 1 4 [(.flt .f32 0)] (.t 19) (.t 19)), none⟩, ⟨(.some 8), (.mv (.t 20)), none⟩])
 (.seq (.seq (.reg [⟨(.some 21), (.mv (.t 2)), none⟩, ⟨(.some 22), (.bin .gtr (.t 21) (.c (.lf (.int .i64 0)))), none⟩])
 (.cond (.t 22) (.reg [⟨(.some 23), (.mv (.t 8)), none⟩, ⟨(.some 24), (.iaddr 1 (.t 23) (.c (.lf (.int .i64 0)))), none⟩, ⟨none, (.store 1 (.t 24) (.c (.lf (.flt .f32 1065353216)))), none⟩]) .skip))
 (.seq (.reg [⟨(.some 26), (.mv (.t 1)), none⟩, ⟨(.some 27), (.build [(.flt .f32 0), (.flt .f32 0), (.flt .f32 0), (.flt .f32 0)] []), none⟩, ⟨(.some 28), (.mv (.t 8)), none⟩, ⟨(.some 29), (.call false 102 [(.t 3), (.t 26), (.c (.lf (.bool false))), (.t 27), (.t 28)]), none⟩, ⟨(.some 25), (.mv (.t 29)), none⟩, ⟨(.some 30), (.ext (.t 25) 0), none⟩, ⟨(.some 31), (.ext (.t 25) 1), none⟩, ⟨(.some 10), (.alloc 125 [(.flt .f32 0), (.flt .f32 0), (.flt .f32 0), (.flt .f32 0)]), none⟩, ⟨(.some 9), (.mv (.t 30)), none⟩, ⟨none, (.store 4 (.t 10) (.t 31)), none⟩])
 (.seq (.reg [⟨(.some 32), (.mv (.t 9)), none⟩, ⟨(.some 6), (.mv (.t 32)), none⟩, ⟨(.some 7), (.mv (.c (.lf (.bool true)))), none⟩])
 .ret)))))), [(.tmp 6), (.tmp 7)]⟩
def L41 : LFn := ⟨3, (.seq (.reg [⟨(.some 3), (.box 58 (.t 0)), none⟩, ⟨(.some 6), (.mv (.c (.lf .nils))), none⟩, ⟨(.some 7), (.mv (.c (.lf (.bool false)))), none⟩])
 (.seq (.seq (.reg [⟨(.some 10), (.mv (.t 1)), none⟩, ⟨(.some 11), (.call true 103 [(.t 10)]), none⟩, ⟨(.some 12), (.una .not (.t 11)), none⟩, ⟨(.some 13), (.mv (.t 12)), none⟩, ⟨(.some 14), (.mv (.t 2)), (.some (13, false))⟩, ⟨(.some 15), (.call true 87 [(.t 14)]), (.some (13, false))⟩, ⟨(.some 16), (.una .not (.t 15)), (.some (13, false))⟩, ⟨(.some 17), (.pick (.t 13) (.c (.lf (.bool true))) (.t 16)), none⟩])
 (.cond (.t 17) (.seq (.reg [⟨(.some 6), (.mv (.c (.lf .nils))), none⟩, ⟨(.some 7), (.mv (.c (.lf (.bool false)))), none⟩])
 .ret) .skip))
 (.seq (.any (.op ⟨(.some 20), (.mv (.t 1)), none⟩ (.op ⟨(.some 21), (.build [(.flt .f32 0), (.flt .f32 0), (.flt .f32 0), (.flt .f32 0)] []), none⟩ (.op ⟨(.some 22), (.mv (.t 2)), none⟩ (.alt (.op ⟨(.some 19), (.load true 5 (.t 3)), none⟩ (.alt (.op ⟨(.some 23), (.call false 105 [(.t 22)]), none⟩ (.alt (.op ⟨(.some 24), (.call false 104 [(.t 19), (.t 20), (.c (.lf (.bool false))), (.t 21), (.t 23)]), none⟩ (.op ⟨(.some 18), (.mv (.t 24)), none⟩ (.op ⟨(.some 25), (.ext (.t 18) 0), none⟩ (.op ⟨(.some 26), (.ext (.t 18) 1), none⟩ (.op ⟨(.some 9), (.alloc 125 [(.flt .f32 0), (.flt .f32 0), (.flt .f32 0), (.flt .f32 0)]), none⟩ (.op ⟨(.some 8), (.mv (.t 25)), none⟩ (.op ⟨none, (.store 4 (.t 9) (.t 26)), none⟩ .nil))))))) (.op ⟨(.some 9), (.alloc 125 [(.flt .f32 0), (.flt .f32 0), (.flt .f32 0), (.flt .f32 0)]), none⟩ (.op ⟨(.some 24), (.call false 104 [(.t 19), (.t 20), (.c (.lf (.bool false))), (.t 21), (.t 23)]), none⟩ (.op ⟨(.some 18), (.mv (.t 24)), none⟩ (.op ⟨(.some 25), (.ext (.t 18) 0), none⟩ (.op ⟨(.some 26), (.ext (.t 18) 1), none⟩ (.op ⟨(.some 8), (.mv (.t 25)), none⟩ (.op ⟨none, (.store 4 (.t 9) (.t 26)), none⟩ .nil))))))))) (.op ⟨(.some 9), (.alloc 125 [(.flt .f32 0), (.flt .f32 0), (.flt .f32 0), (.flt .f32 0)]), none⟩ (.op ⟨(.some 23), (.call false 105 [(.t 22)]), none⟩ (.op ⟨(.some 24), (.call false 104 [(.t 19), (.t 20), (.c (.lf (.bool false))), (.t 21), (.t 23)]), none⟩ (.op ⟨(.some 18), (.mv (.t 24)), none⟩ (.op ⟨(.some 25), (.ext (.t 18) 0), none⟩ (.op ⟨(.some 26), (.ext (.t 18) 1), none⟩ (.op ⟨(.some 8), (.mv (.t 25)), none⟩ (.op ⟨none, (.store 4 (.t 9) (.t 26)), none⟩ .nil)))))))))) (.alt (.op ⟨(.some 23), (.call false 105 [(.t 22)]), none⟩ (.op ⟨(.some 19), (.load true 5 (.t 3)), none⟩ (.alt (.op ⟨(.some 24), (.call false 104 [(.t 19), (.t 20), (.c (.lf (.bool false))), (.t 21), (.t 23)]), none⟩ (.op ⟨(.some 18), (.mv (.t 24)), none⟩ (.op ⟨(.some 25), (.ext (.t 18) 0), none⟩ (.op ⟨(.some 26), (.ext (.t 18) 1), none⟩ (.op ⟨(.some 9), (.alloc 125 [(.flt .f32 0), (.flt .f32 0), (.flt .f32 0), (.flt .f32 0)]), none⟩ (.op ⟨(.some 8), (.mv (.t 25)), none⟩ (.op ⟨none, (.store 4 (.t 9) (.t 26)), none⟩ .nil))))))) (.op ⟨(.some 9), (.alloc 125 [(.flt .f32 0), (.flt .f32 0), (.flt .f32 0), (.flt .f32 0)]), none⟩ (.op ⟨(.some 24), (.call false 104 [(.t 19), (.t 20), (.c (.lf (.bool false))), (.t 21), (.t 23)]), none⟩ (.op ⟨(.some 18), (.mv (.t 24)), none⟩ (.op ⟨(.some 25), (.ext (.t 18) 0), none⟩ (.op ⟨(.some 26), (.ext (.t 18) 1), none⟩ (.op ⟨(.some 8), (.mv (.t 25)), none⟩ (.op ⟨none, (.store 4 (.t 9) (.t 26)), none⟩ .nil)))))))))) (.op ⟨(.some 9), (.alloc 125 [(.flt .f32 0), (.flt .f32 0), (.flt .f32 0), (.flt .f32 0)]), none⟩ (.alt (.op ⟨(.some 19), (.load true 5 (.t 3)), none⟩ (.op ⟨(.some 23), (.call false 105 [(.t 22)]), none⟩ (.op ⟨(.some 24), (.call false 104 [(.t 19), (.t 20), (.c (.lf (.bool false))), (.t 21), (.t 23)]), none⟩ (.op ⟨(.some 18), (.mv (.t 24)), none⟩ (.op ⟨(.some 25), (.ext (.t 18) 0), none⟩ (.op ⟨(.some 26), (.ext (.t 18) 1), none⟩ (.op ⟨(.some 8), (.mv (.t 25)), none⟩ (.op ⟨none, (.store 4 (.t 9) (.t 26)), none⟩ .nil)))))))) (.op ⟨(.some 23), (.call false 105 [(.t 22)]), none⟩ (.op ⟨(.some 19), (.load true 5 (.t 3)), none⟩ (.op ⟨(.some 24), (.call false 104 [(.t 19), (.t 20), (.c (.lf (.bool false))), (.t 21), (.t 23)]), none⟩ (.op ⟨(.some 18), (.mv (.t 24)), none⟩ (.op ⟨(.some 25), (.ext (.t 18) 0), none⟩ (.op ⟨(.some 26), (.ext (.t 18) 1), none⟩ (.op ⟨(.some 8), (.mv (.t 25)), none⟩ (.op ⟨none, (.store 4 (.t 9) (.t 26)), none⟩ .nil))))))))))))))))
 (.seq (.reg [⟨(.some 27), (.mv (.t 8)), none⟩, ⟨(.some 6), (.mv (.t 27)), none⟩, ⟨(.some 7), (.mv (.c (.lf (.bool true)))), none⟩])
 .ret)))), [(.tmp 6), (.tmp 7)]⟩
class HasIo (S : Sys) : Prop extends HasRf S, HasN S, HasRl S where
  f105 : S.fs 105 = some L105
  f39 : S.fs 39 = some L39
  f41 : S.fs 41 = some L41
def imp (n : Nat) : List Nat := (List.replicate n 0).set 0 1065353216
theorem imp_len {n : Nat} : (imp n).length = n := by simp [imp]
theorem CF_one : CF 1065353216 := by refine ⟨by decide, ?_⟩; decide +kernel
theorem imp_CF {n : Nat} : ∀ x ∈ imp n, CF x := by
  intro x hx
  rcases List.mem_or_eq_of_mem_set hx with h1 | h1
  · rw [(List.mem_replicate.1 h1).2]; exact CF_zero
  · rw [h1]; exact CF_one
theorem CF_memz : Mem.zero.CF := ⟨CF_zero, CF_zero, CF_zero, CF_zero⟩
theorem fls_flat : ∀ {xs : List Nat}, (xs.map fl).flatten = xs.map (Lf.flt .f32)
  | [] => rfl
  | x :: r => by simp [fl, fls_flat (xs := r)]
theorem New.fls {h g : Hp} {xs : List Nat} {cs : List Lf} {ty : Nat} (hk : Kept h g) (hc : cs = xs.map (Lf.flt .f32)) (hb : xs.length ≤ 140737488355328) : New h (g ++ [⟨cs, .own ty 1⟩]) (.sl g.length 0 xs.length 1) ty 1 (xs.map fl) := by
  subst hc
  have hs : Sl (g ++ [⟨xs.map (Lf.flt .f32), .own ty 1⟩]) g.length ty 1 (xs.map fl) := ⟨by rw [List.getElem?_append_right (Nat.le_refl _)]; simp [fls_flat], fun i r hi => by
    rw [List.getElem?_map] at hi
    obtain ⟨x, _, rfl⟩ := Option.map_eq_some_iff.1 hi
    rfl⟩
  have := New.of_sl (hk.trans (Kept.app g [⟨xs.map (Lf.flt .f32), .own ty 1⟩])) hs hk.1 (by simpa using hb)
  simpa using this
theorem wr_last {lim ty : Nat} {g : Hp} {cs new : List Lf} (hl : lim ≤ g.length) (hn : new.length = cs.length) : wrCells lim (g ++ [⟨cs, .own ty 1⟩]) g.length 0 new = some (g ++ [⟨new, .own ty 1⟩]) := by
  have := (Cel.new (g := g) (t := []) (ty := ty) (cs := cs)).wr (lim := lim) (new := new) hl hn
  simpa using this
theorem kept_cons {h t : Hp} {a : Ob} : Kept (h ++ [a]) (h ++ a :: t) := by
  have := Kept.app (h ++ [a]) t
  simpa using this
theorem cel_cons {h t : Hp} {a : Ob} {cs : List Lf} {ty : Nat} : Cel (h ++ a :: ⟨cs, .own ty 1⟩ :: t) (h.length + 1) ty cs := by
  have := Cel.new (g := h ++ [a]) (t := t) (ty := ty) (cs := cs)
  simpa using this
theorem imp_pos {n : Nat} (h : 0 < n) : imp n = 1065353216 :: List.replicate (n - 1) 0 := by
  obtain ⟨k, rfl⟩ : ∃ k, n = k + 1 := ⟨n - 1, by omega⟩
  simp [imp, List.replicate_succ]
theorem imp_not {n : Nat} (h : ¬ 0 < n) : imp n = List.replicate n 0 := by
  have : n = 0 := by omega
  subst this; rfl
section
variable {S : Sys} {lim : Nat} {h : Hp} {K : CV → Hp → Prop} [HasIo S] {l : Lf} {xs : List Nat}
theorem c_impulse {n : Nat} (hn : n ≤ 256) (hl : lim ≤ h.length) (hK : ∀ l' g, New h g l' 42 1 ((imp n).map fl) → K (.lf l') g) : CallT S false 105 [.lf (.int .i64 n)] h lim K := by
  refine CallT_of_body (F := L105) (HasIo.f105) rfl ?_; unfold L105; dsimp only []
  repeat' (first | (simp (disch := first | omega | assumption | (simp only [List.length_set]; omega) | (simp [*] <;> fail) | assumption) [-Bool.decide_and, -Bool.decide_or, -Bool.not_and, -Bool.not_or, toNat_pred, toNat_succ, wrap64, wr_new, wr_new0, ok_if, ok_ifn, iadV_sl, makeV_int, decT, decF, over_at, *]) | (with_reducible refine Gd_split (fun hc => ?_) (fun hc => ?_) <;> (have hc2 := hc; try simp at hc2)) | (with_reducible refine Br_split (fun hc => ?_) (fun hc => ?_) <;> (have hc2 := hc; try simp at hc2)) | (with_reducible refine GdT_split (fun hc => ?_) (fun hc => ?_) <;> (have hc2 := hc; try simp at hc2)) | (with_reducible refine WT_alt ?_ ?_) | omega)
  refine c_zeros (by omega) hl fun l g hN => ?_
  have hC := hN.arr
  by_cases h0 : 0 < n
  · repeat' (first | (simp (disch := first | omega | assumption | (simp only [List.length_set]; omega) | (simp [*] <;> fail) | assumption) [-Bool.decide_and, -Bool.decide_or, -Bool.not_and, -Bool.not_or, toNat_pred, toNat_succ, wrap64, wr_new, wr_new0, ok_if, ok_ifn, iadV_sl, makeV_int, decT, decF, over_at, *, hC.at0, hC.rd0, hC.rd0j, hC.rd0A, hC.rd0jA]) | (with_reducible refine Gd_split (fun hc => ?_) (fun hc => ?_) <;> (have hc2 := hc; try simp at hc2)) | (with_reducible refine Br_split (fun hc => ?_) (fun hc => ?_) <;> (have hc2 := hc; try simp at hc2)) | (with_reducible refine GdT_split (fun hc => ?_) (fun hc => ?_) <;> (have hc2 := hc; try simp at hc2)) | (with_reducible refine WT_alt ?_ ?_) | omega)
    refine oc_wr (i := 0) hN (by simp; omega) hl fun g' hN' hB => ?_
    repeat' (first | (simp (disch := first | omega | assumption | (simp only [List.length_set]; omega) | (simp [*] <;> fail) | assumption) [-Bool.decide_and, -Bool.decide_or, -Bool.not_and, -Bool.not_or, toNat_pred, toNat_succ, wrap64, wr_new, wr_new0, ok_if, ok_ifn, iadV_sl, makeV_int, decT, decF, over_at, *]) | (with_reducible refine Gd_split (fun hc => ?_) (fun hc => ?_) <;> (have hc2 := hc; try simp at hc2)) | (with_reducible refine Br_split (fun hc => ?_) (fun hc => ?_) <;> (have hc2 := hc; try simp at hc2)) | (with_reducible refine GdT_split (fun hc => ?_) (fun hc => ?_) <;> (have hc2 := hc; try simp at hc2)) | (with_reducible refine WT_alt ?_ ?_) | omega)
    rw [fl_set] at hN'
    exact hK _ _ hN'
  · repeat' (first | (simp (disch := first | omega | assumption | (simp only [List.length_set]; omega) | (simp [*] <;> fail) | assumption) [-Bool.decide_and, -Bool.decide_or, -Bool.not_and, -Bool.not_or, toNat_pred, toNat_succ, wrap64, wr_new, wr_new0, ok_if, ok_ifn, iadV_sl, makeV_int, decT, decF, over_at, *]) | (with_reducible refine Gd_split (fun hc => ?_) (fun hc => ?_) <;> (have hc2 := hc; try simp at hc2)) | (with_reducible refine Br_split (fun hc => ?_) (fun hc => ?_) <;> (have hc2 := hc; try simp at hc2)) | (with_reducible refine GdT_split (fun hc => ?_) (fun hc => ?_) <;> (have hc2 := hc; try simp at hc2)) | (with_reducible refine WT_alt ?_ ?_) | omega)
    exact hK _ _ (by have : n = 0 := by omega
                     subst this; simpa [imp] using hN)
def okIo (form c : Int) : Prop := (0 ≤ form ∧ form ≤ 2) ∧ 0 ≤ c ∧ c ≤ 256
instance {form c : Int} : Decidable (okIo form c) := by unfold okIo; infer_instance
noncomputable def impF (f : Fil) (form c : Int) : List Nat := if okIo form c then (scan (stepF f form false) Mem.zero (imp c.toNat)).1 else []
theorem impF_len {f : Fil} {form c : Int} : (impF f form c).length ≤ 256 := by
  unfold impF
  split
  · rename_i hk
    rw [scan_len, imp_len]
    have := hk.2
    omega
  · simp
theorem d_specImpulseOf {f : Fil} {form c : Int} (hl : lim ≤ h.length) (hK : ∀ o g, New h g o 42 1 ((impF f form c).map fl) → K (.tup [.lf o, .lf (.bool (decide (okIo form c)))]) g) :
    CallT S false 39 [.agg f.cells, .lf (.int .i64 form), .lf (.int .i64 c)] h lim K := by
  have hf5 : f.cells.length = 5 := rfl
  have ht5 : List.take 5 f.cells = f.cells := rfl
  have b5 : ∀ g, Kept (h ++ [⟨f.cells, .own 58 1⟩]) g → rdCells g h.length 0 5 = some f.cells := fun g k => k.rd (Cel.new.rd (by simp [hf5]))
  by_cases hk : okIo form c
  · have hT : ∀ o g, New h g o 42 1 ((scan (stepF f form false) Mem.zero (imp c.toNat)).1.map fl) → K (.tup [.lf o, .lf (.bool true)]) g := fun o g hN => by
      have := hK o g (by simpa [impF, hk] using hN); simpa [hk] using this
    clear hK
    obtain ⟨hk1, hk2, hk3⟩ := hk
    obtain ⟨n, rfl⟩ := Int.eq_ofNat_of_zero_le hk2
    simp only [Int.toNat_natCast] at hT
    have hz4 : Mem.zero.cells = [.flt .f32 0, .flt .f32 0, .flt .f32 0, .flt .f32 0] := rfl
    refine CallT_of_body (F := L39) (HasIo.f39) rfl ?_; unfold L39; dsimp only []
    by_cases h0 : 0 < n
    · have hN := New.fls (h := h) (g := h ++ [⟨f.cells, .own 58 1⟩]) (xs := imp n) (cs := .flt .f32 1065353216 :: List.replicate (n - 1) (.flt .f32 0)) (ty := 42) (Kept.app _ _) (by rw [imp_pos h0]; simp) (by rw [imp_len]; omega)
      have b5' := b5 _ (Kept.app (h ++ [⟨f.cells, .own 58 1⟩]) [⟨.flt .f32 1065353216 :: List.replicate (n - 1) (.flt .f32 0), .own 42 1⟩])
      simp only [List.append_assoc, List.singleton_append, List.length_append, List.length_singleton, imp_len] at hN b5'
      repeat' (first | (simp (disch := first | omega | assumption | (simp only [List.length_set]; omega) | (simp [*] <;> fail) | assumption) [-Bool.decide_and, -Bool.decide_or, -Bool.not_and, -Bool.not_or, toNat_pred, toNat_succ, wrap64, wr_new, wr_new0, ok_if, ok_ifn, iadV_sl, makeV_int, decT, decF, over_at, *, leavesAll, fillL]) | (with_reducible refine Gd_split (fun hc => ?_) (fun hc => ?_) <;> (have hc2 := hc; try simp at hc2)) | (with_reducible refine Br_split (fun hc => ?_) (fun hc => ?_) <;> (have hc2 := hc; try simp at hc2)) | (with_reducible refine GdT_split (fun hc => ?_) (fun hc => ?_) <;> (have hc2 := hc; try simp at hc2)) | (with_reducible refine WT_alt ?_ ?_) | omega)
      rw [← hz4]
      refine c_l02Run (f := f) (xs := imp n) b5' CF_memz hN.arr imp_CF (by rw [imp_len]; omega) (by simp; omega) fun o g hO => ?_
      have hO2 := fun t => hT _ _ ((hO.base hN.kept).app (t := t))
      have ht4 : ∀ q : Mem, List.take 4 q.cells = q.cells := fun _ => rfl
      have hy4 : ∀ q : Mem, q.cells.length = 4 := fun _ => rfl
      have z := hO.kept.1
      simp only [List.length_append, List.length_cons, List.length_nil] at z
      have w := fun q : Mem => wr_last (ty := 125) (cs := [.flt .f32 0, .flt .f32 0, .flt .f32 0, .flt .f32 0]) (new := q.cells) (show lim ≤ g.length by omega) rfl
      repeat' (first | (simp (disch := first | omega | assumption | (simp only [List.length_set]; omega) | (simp [*] <;> fail) | assumption) [-Bool.decide_and, -Bool.decide_or, -Bool.not_and, -Bool.not_or, toNat_pred, toNat_succ, wrap64, wr_new, wr_new0, ok_if, ok_ifn, iadV_sl, makeV_int, decT, decF, over_at, *, leavesAll, fillL]) | (with_reducible refine Gd_split (fun hc => ?_) (fun hc => ?_) <;> (have hc2 := hc; try simp at hc2)) | (with_reducible refine Br_split (fun hc => ?_) (fun hc => ?_) <;> (have hc2 := hc; try simp at hc2)) | (with_reducible refine GdT_split (fun hc => ?_) (fun hc => ?_) <;> (have hc2 := hc; try simp at hc2)) | (with_reducible refine WT_alt ?_ ?_) | omega)
    · have hN := New.fls (h := h) (g := h ++ [⟨f.cells, .own 58 1⟩]) (xs := imp n) (cs := List.replicate n (.flt .f32 0)) (ty := 42) (Kept.app _ _) (by rw [imp_not h0]; simp) (by rw [imp_len]; omega)
      have b5' := b5 _ (Kept.app (h ++ [⟨f.cells, .own 58 1⟩]) [⟨List.replicate n (.flt .f32 0), .own 42 1⟩])
      simp only [List.append_assoc, List.singleton_append, List.length_append, List.length_singleton, imp_len] at hN b5'
      repeat' (first | (simp (disch := first | omega | assumption | (simp only [List.length_set]; omega) | (simp [*] <;> fail) | assumption) [-Bool.decide_and, -Bool.decide_or, -Bool.not_and, -Bool.not_or, toNat_pred, toNat_succ, wrap64, wr_new, wr_new0, ok_if, ok_ifn, iadV_sl, makeV_int, decT, decF, over_at, *, leavesAll, fillL]) | (with_reducible refine Gd_split (fun hc => ?_) (fun hc => ?_) <;> (have hc2 := hc; try simp at hc2)) | (with_reducible refine Br_split (fun hc => ?_) (fun hc => ?_) <;> (have hc2 := hc; try simp at hc2)) | (with_reducible refine GdT_split (fun hc => ?_) (fun hc => ?_) <;> (have hc2 := hc; try simp at hc2)) | (with_reducible refine WT_alt ?_ ?_) | omega)
      rw [← hz4]
      refine c_l02Run (f := f) (xs := imp n) b5' CF_memz hN.arr imp_CF (by rw [imp_len]; omega) (by simp; omega) fun o g hO => ?_
      have hO2 := fun t => hT _ _ ((hO.base hN.kept).app (t := t))
      have ht4 : ∀ q : Mem, List.take 4 q.cells = q.cells := fun _ => rfl
      have hy4 : ∀ q : Mem, q.cells.length = 4 := fun _ => rfl
      have z := hO.kept.1
      simp only [List.length_append, List.length_cons, List.length_nil] at z
      have w := fun q : Mem => wr_last (ty := 125) (cs := [.flt .f32 0, .flt .f32 0, .flt .f32 0, .flt .f32 0]) (new := q.cells) (show lim ≤ g.length by omega) rfl
      repeat' (first | (simp (disch := first | omega | assumption | (simp only [List.length_set]; omega) | (simp [*] <;> fail) | assumption) [-Bool.decide_and, -Bool.decide_or, -Bool.not_and, -Bool.not_or, toNat_pred, toNat_succ, wrap64, wr_new, wr_new0, ok_if, ok_ifn, iadV_sl, makeV_int, decT, decF, over_at, *, leavesAll, fillL]) | (with_reducible refine Gd_split (fun hc => ?_) (fun hc => ?_) <;> (have hc2 := hc; try simp at hc2)) | (with_reducible refine Br_split (fun hc => ?_) (fun hc => ?_) <;> (have hc2 := hc; try simp at hc2)) | (with_reducible refine GdT_split (fun hc => ?_) (fun hc => ?_) <;> (have hc2 := hc; try simp at hc2)) | (with_reducible refine WT_alt ?_ ?_) | omega)
  · have hF : ∀ g, Kept h g → K (.tup [.lf .nils, .lf (.bool false)]) g := fun g q => by
      have := hK .nils g (by simpa [impF, hk] using New.nil q); simpa [hk] using this
    clear hK
    refine CallT_of_body (F := L39) (HasIo.f39) rfl ?_; unfold L39; dsimp only []
    have hF2 := hF _ (Kept.app h [⟨f.cells, .own 58 1⟩])
    clear hF
    by_cases h1 : 0 ≤ form ∧ form ≤ 2
    · have h2 : ¬ (0 ≤ c ∧ c ≤ 256) := fun q => hk ⟨h1, q⟩
      repeat' (first | (simp (disch := first | omega | assumption | (simp only [List.length_set]; omega) | (simp [*] <;> fail) | assumption) [-Bool.decide_and, -Bool.decide_or, -Bool.not_and, -Bool.not_or, toNat_pred, toNat_succ, wrap64, wr_new, wr_new0, ok_if, ok_ifn, iadV_sl, makeV_int, decT, decF, over_at, *]) | (with_reducible refine Gd_split (fun hc => ?_) (fun hc => ?_) <;> (have hc2 := hc; try simp at hc2)) | (with_reducible refine Br_split (fun hc => ?_) (fun hc => ?_) <;> (have hc2 := hc; try simp at hc2)) | (with_reducible refine GdT_split (fun hc => ?_) (fun hc => ?_) <;> (have hc2 := hc; try simp at hc2)) | (with_reducible refine WT_alt ?_ ?_) | omega)
    · repeat' (first | (simp (disch := first | omega | assumption | (simp only [List.length_set]; omega) | (simp [*] <;> fail) | assumption) [-Bool.decide_and, -Bool.decide_or, -Bool.not_and, -Bool.not_or, toNat_pred, toNat_succ, wrap64, wr_new, wr_new0, ok_if, ok_ifn, iadV_sl, makeV_int, decT, decF, over_at, *]) | (with_reducible refine Gd_split (fun hc => ?_) (fun hc => ?_) <;> (have hc2 := hc; try simp at hc2)) | (with_reducible refine Br_split (fun hc => ?_) (fun hc => ?_) <;> (have hc2 := hc; try simp at hc2)) | (with_reducible refine GdT_split (fun hc => ?_) (fun hc => ?_) <;> (have hc2 := hc; try simp at hc2)) | (with_reducible refine WT_alt ?_ ?_) | omega)
theorem d_implImpulseOf {f : Fil} {form c : Int} (hl : lim ≤ h.length) (hK : ∀ o g, New h g o 42 1 ((impF f form c).map fl) → K (.tup [.lf o, .lf (.bool (decide (okIo form c)))]) g) :
    CallT S false 41 [.agg f.cells, .lf (.int .i64 form), .lf (.int .i64 c)] h lim K := by
  have hf5 : f.cells.length = 5 := rfl
  have ht5 : List.take 5 f.cells = f.cells := rfl
  have b5 : ∀ g, Kept (h ++ [⟨f.cells, .own 58 1⟩]) g → rdCells g h.length 0 5 = some f.cells := fun g k => k.rd (Cel.new.rd (by simp [hf5]))
  by_cases hk : okIo form c
  · have hT : ∀ o g, New h g o 42 1 ((scan (stepF f form false) Mem.zero (imp c.toNat)).1.map fl) → K (.tup [.lf o, .lf (.bool true)]) g := fun o g hN => by
      have := hK o g (by simpa [impF, hk] using hN); simpa [hk] using this
    clear hK
    obtain ⟨hk1, hk2, hk3⟩ := hk
    obtain ⟨n, rfl⟩ := Int.eq_ofNat_of_zero_le hk2
    simp only [Int.toNat_natCast] at hT
    have hz4 : Mem.zero.cells = [.flt .f32 0, .flt .f32 0, .flt .f32 0, .flt .f32 0] := rfl
    have ht4 : ∀ q : Mem, List.take 4 q.cells = q.cells := fun _ => rfl
    have b0 := b5 _ (Kept.refl _)
    have b1 := fun t => b5 _ (Kept.app (h ++ [⟨f.cells, .own 58 1⟩]) t)
    simp only [List.append_assoc, List.singleton_append] at b1
    refine CallT_of_body (F := L41) (HasIo.f41) rfl ?_; unfold L41; dsimp only []
    repeat' (first | (simp (disch := first | omega | assumption | (simp only [List.length_set]; omega) | (simp [*] <;> fail) | assumption) [-Bool.decide_and, -Bool.decide_or, -Bool.not_and, -Bool.not_or, toNat_pred, toNat_succ, wrap64, wr_new, wr_new0, ok_if, ok_ifn, iadV_sl, makeV_int, decT, decF, over_at, *, leavesAll, fillL]) | (with_reducible refine Gd_split (fun hc => ?_) (fun hc => ?_) <;> (have hc2 := hc; try simp at hc2)) | (with_reducible refine Br_split (fun hc => ?_) (fun hc => ?_) <;> (have hc2 := hc; try simp at hc2)) | (with_reducible refine GdT_split (fun hc => ?_) (fun hc => ?_) <;> (have hc2 := hc; try simp at hc2)) | (with_reducible refine WT_alt ?_ ?_) | omega)
    all_goals first
      | refine c_impulse (by omega) (by simp; omega) fun l g hN => ?_
      | skip
    all_goals have k : Kept (h ++ [⟨f.cells, .own 58 1⟩]) g := by first | exact hN.kept | exact kept_cons.trans hN.kept
    all_goals have k0 : Kept h g := (Kept.app h _).trans k
    all_goals have z1 := hN.kept.1
    all_goals try simp only [List.length_append, List.length_cons, List.length_nil] at z1
    all_goals have z0 := k.1
    all_goals simp only [List.length_append, List.length_cons, List.length_nil] at z0
    all_goals have r0 := b5 _ k
    all_goals have r1 := fun t => b5 _ (k.trans (Kept.app g t))
    all_goals repeat' (first | (simp (disch := first | omega | assumption | (simp only [List.length_set]; omega) | (simp [*] <;> fail) | assumption) [-Bool.decide_and, -Bool.decide_or, -Bool.not_and, -Bool.not_or, toNat_pred, toNat_succ, wrap64, wr_new, wr_new0, ok_if, ok_ifn, iadV_sl, makeV_int, decT, decF, over_at, *, leavesAll, fillL]) | (with_reducible refine Gd_split (fun hc => ?_) (fun hc => ?_) <;> (have hc2 := hc; try simp at hc2)) | (with_reducible refine Br_split (fun hc => ?_) (fun hc => ?_) <;> (have hc2 := hc; try simp at hc2)) | (with_reducible refine GdT_split (fun hc => ?_) (fun hc => ?_) <;> (have hc2 := hc; try simp at hc2)) | (with_reducible refine WT_alt ?_ ?_) | omega)
    all_goals refine c_implRun (f := f) (m := Mem.zero) (xs := imp n) CF_memz (by first | exact hN.arr | exact hN.arr.app) imp_CF (by rw [imp_len]; omega) (by first | omega | (simp; omega)) fun o g' hO => ?_
    all_goals have z := hO.kept.1
    all_goals try simp only [List.length_append, List.length_cons, List.length_nil] at z
    all_goals have hO2 : New h g' o 42 1 ((scan (stepF f form false) Mem.zero (imp n)).1.map fl) := by first | exact hO.base k0 | exact hO.base (k0.trans (Kept.app _ _))
    all_goals have nO := hO.lt
    all_goals try simp only [List.length_append, List.length_cons, List.length_nil] at nO
    all_goals have hy4 : ∀ q : Mem, q.cells.length = 4 := fun _ => rfl
    all_goals first
      | (have c9 := (Cel.new (g := g) (t := []) (ty := 125) (cs := [.flt .f32 0, .flt .f32 0, .flt .f32 0, .flt .f32 0])).kept hO.kept
         have w := fun q : Mem => c9.wr (lim := lim) (new := q.cells) (by omega) rfl
         have hO3 := fun c => hT _ _ (hO2.set_other (o := ⟨c, .own 125 1⟩) (id := g.length) (by omega) (fun q => by have := nO q; omega))
         clear hT
         repeat' (first | (simp (disch := first | omega | assumption | (simp only [List.length_set]; omega) | (simp [*] <;> fail) | assumption) [-Bool.decide_and, -Bool.decide_or, -Bool.not_and, -Bool.not_or, toNat_pred, toNat_succ, wrap64, wr_new, wr_new0, ok_if, ok_ifn, iadV_sl, makeV_int, decT, decF, over_at, *, leavesAll, fillL]) | (with_reducible refine Gd_split (fun hc => ?_) (fun hc => ?_) <;> (have hc2 := hc; try simp at hc2)) | (with_reducible refine Br_split (fun hc => ?_) (fun hc => ?_) <;> (have hc2 := hc; try simp at hc2)) | (with_reducible refine GdT_split (fun hc => ?_) (fun hc => ?_) <;> (have hc2 := hc; try simp at hc2)) | (with_reducible refine WT_alt ?_ ?_) | omega)
         done)
      | (have c9 := (((cel_cons (t := []) (ty := 125) (cs := [.flt .f32 0, .flt .f32 0, .flt .f32 0, .flt .f32 0])).kept hN.kept).kept hO.kept)
         have w := fun q : Mem => c9.wr (lim := lim) (new := q.cells) (by omega) rfl
         have hO3 := fun c => hT _ _ (hO2.set_other (o := ⟨c, .own 125 1⟩) (id := h.length + 1) (by omega) (fun q => by have := nO q; omega))
         clear hT
         repeat' (first | (simp (disch := first | omega | assumption | (simp only [List.length_set]; omega) | (simp [*] <;> fail) | assumption) [-Bool.decide_and, -Bool.decide_or, -Bool.not_and, -Bool.not_or, toNat_pred, toNat_succ, wrap64, wr_new, wr_new0, ok_if, ok_ifn, iadV_sl, makeV_int, decT, decF, over_at, *, leavesAll, fillL]) | (with_reducible refine Gd_split (fun hc => ?_) (fun hc => ?_) <;> (have hc2 := hc; try simp at hc2)) | (with_reducible refine Br_split (fun hc => ?_) (fun hc => ?_) <;> (have hc2 := hc; try simp at hc2)) | (with_reducible refine GdT_split (fun hc => ?_) (fun hc => ?_) <;> (have hc2 := hc; try simp at hc2)) | (with_reducible refine WT_alt ?_ ?_) | omega)
         done)
      | (have hO3 := fun c => hT _ _ (hO2.app (t := [c]))
         have w := fun q : Mem => wr_last (ty := 125) (cs := [.flt .f32 0, .flt .f32 0, .flt .f32 0, .flt .f32 0]) (new := q.cells) (show lim ≤ g'.length by omega) rfl
         clear hT
         repeat' (first | (simp (disch := first | omega | assumption | (simp only [List.length_set]; omega) | (simp [*] <;> fail) | assumption) [-Bool.decide_and, -Bool.decide_or, -Bool.not_and, -Bool.not_or, toNat_pred, toNat_succ, wrap64, wr_new, wr_new0, ok_if, ok_ifn, iadV_sl, makeV_int, decT, decF, over_at, *, leavesAll, fillL]) | (with_reducible refine Gd_split (fun hc => ?_) (fun hc => ?_) <;> (have hc2 := hc; try simp at hc2)) | (with_reducible refine Br_split (fun hc => ?_) (fun hc => ?_) <;> (have hc2 := hc; try simp at hc2)) | (with_reducible refine GdT_split (fun hc => ?_) (fun hc => ?_) <;> (have hc2 := hc; try simp at hc2)) | (with_reducible refine WT_alt ?_ ?_) | omega)
         done)
      | skip
  · have hF : ∀ g, Kept h g → K (.tup [.lf .nils, .lf (.bool false)]) g := fun g q => by
      have := hK .nils g (by simpa [impF, hk] using New.nil q); simpa [hk] using this
    clear hK
    refine CallT_of_body (F := L41) (HasIo.f41) rfl ?_; unfold L41; dsimp only []
    have hF2 := hF _ (Kept.app h [⟨f.cells, .own 58 1⟩])
    clear hF
    by_cases h1 : 0 ≤ form ∧ form ≤ 2
    · have h2 : ¬ (0 ≤ c ∧ c ≤ 256) := fun q => hk ⟨h1, q⟩
      repeat' (first | (simp (disch := first | omega | assumption | (simp only [List.length_set]; omega) | (simp [*] <;> fail) | assumption) [-Bool.decide_and, -Bool.decide_or, -Bool.not_and, -Bool.not_or, toNat_pred, toNat_succ, wrap64, wr_new, wr_new0, ok_if, ok_ifn, iadV_sl, makeV_int, decT, decF, over_at, *]) | (with_reducible refine Gd_split (fun hc => ?_) (fun hc => ?_) <;> (have hc2 := hc; try simp at hc2)) | (with_reducible refine Br_split (fun hc => ?_) (fun hc => ?_) <;> (have hc2 := hc; try simp at hc2)) | (with_reducible refine GdT_split (fun hc => ?_) (fun hc => ?_) <;> (have hc2 := hc; try simp at hc2)) | (with_reducible refine WT_alt ?_ ?_) | omega)
    · repeat' (first | (simp (disch := first | omega | assumption | (simp only [List.length_set]; omega) | (simp [*] <;> fail) | assumption) [-Bool.decide_and, -Bool.decide_or, -Bool.not_and, -Bool.not_or, toNat_pred, toNat_succ, wrap64, wr_new, wr_new0, ok_if, ok_ifn, iadV_sl, makeV_int, decT, decF, over_at, *]) | (with_reducible refine Gd_split (fun hc => ?_) (fun hc => ?_) <;> (have hc2 := hc; try simp at hc2)) | (with_reducible refine Br_split (fun hc => ?_) (fun hc => ?_) <;> (have hc2 := hc; try simp at hc2)) | (with_reducible refine GdT_split (fun hc => ?_) (fun hc => ?_) <;> (have hc2 := hc; try simp at hc2)) | (with_reducible refine WT_alt ?_ ?_) | omega)
end
end Go.E
