/- Filters: samples one after another. -/
import Derived.Test.YtmmmpgggnfommaaMFi
import Derived.Test.YtmmmpgggnfommaaMP
set_option linter.unusedVariables false
set_option linter.unusedSimpArgs false
namespace Go.E
open Go
def L13 : LFn := ⟨5, (.seq (.reg [⟨(.some 5), (.box 26 (.t 0)), none⟩, ⟨(.some 8), (.box 31 (.t 3)), none⟩, ⟨(.some 10), (.mv (.c (.lf .nils))), none⟩, ⟨(.some 11), (.alloc 31 [(.flt .f32 0), (.flt .f32 0), (.flt .f32 0), (.flt .f32 0)]), none⟩])
 (.seq (.reg [⟨(.some 12), (.mv (.c (.lf .nils))), none⟩])
 (.seq (.seq (.reg [⟨(.some 17), (.mv (.t 4)), none⟩, ⟨(.some 18), (.len (.t 17)), none⟩, ⟨(.some 19), (.mv (.c (.lf (.int .i64 0)))), none⟩])
 (.block 0 (.loop (.seq (.reg [⟨(.some 20), (.bin .lss (.t 19) (.t 18)), none⟩])
 (.seq (.cond (.t 20) .skip (.exit 0))
 (.seq (.block 1 (.seq (.reg [⟨(.some 21), (.iaddr 1 (.t 17) (.t 19)), none⟩, ⟨(.some 22), (.load false 1 (.t 21)), none⟩, ⟨(.some 14), (.mv (.t 22)), none⟩])
 (.seq (.reg [⟨(.some 24), (.load true 5 (.t 5)), none⟩, ⟨(.some 25), (.mv (.t 1)), none⟩, ⟨(.some 26), (.mv (.t 2)), none⟩, ⟨(.some 27), (.load true 4 (.t 8)), none⟩, ⟨(.some 28), (.mv (.t 14)), none⟩, ⟨(.some 29), (.call true 16 [(.t 24), (.t 25), (.t 26), (.t 27), (.t 28)]), none⟩, ⟨(.some 23), (.mv (.t 29)), none⟩, ⟨(.some 30), (.ext (.t 23) 0), none⟩, ⟨(.some 31), (.ext (.t 23) 1), none⟩, ⟨(.some 16), (.alloc 31 [(.flt .f32 0), (.flt .f32 0), (.flt .f32 0), (.flt .f32 0)]), none⟩, ⟨(.some 15), (.mv (.t 30)), none⟩, ⟨none, (.store 4 (.t 16) (.t 31)), none⟩])
 (.seq (.reg [⟨(.some 32), (.load true 4 (.t 16)), none⟩, ⟨none, (.store 4 (.t 8) (.t 32)), none⟩])
 (.reg [⟨(.some 33), (.mv (.t 12)), none⟩, ⟨(.some 34), (.mv (.t 15)), none⟩, ⟨(.some 35), (.lit 24 1 1 [(.flt .f32 0)] [(0, (1, (.t 34)))]), none⟩, ⟨(.some 36), (.app 24 1 4 (.t 33) (.t 35)), none⟩, ⟨(.some 12), (.mv (.t 36)), none⟩])))))
 (.reg [⟨(.some 37), (.bin .add (.t 19) (.c (.lf (.int .i64 1)))), none⟩, ⟨(.some 19), (.mv (.t 37)), none⟩])))))))
 (.seq (.reg [⟨(.some 38), (.mv (.t 12)), none⟩, ⟨(.some 39), (.load true 4 (.t 8)), none⟩, ⟨(.some 10), (.mv (.t 38)), none⟩, ⟨none, (.store 4 (.t 11) (.t 39)), none⟩])
 .ret)))), [(.tmp 10), (.cell 11 true 4)]⟩
class HasFr (S : Sys) : Prop extends HasFi S where
  f13 : S.fs 13 = some L13
section
variable {S : Sys} {lim : Nat} {h : Hp} {K : CV → Hp → Prop} [HasFr S] {l : Lf} {xs : List Nat}
theorem Mem.len (m : Mem) : m.cells.length = 4 := rfl
theorem st_CF {f : Fil} {form : Int} {fl : Bool} {m : Mem} {i : Nat} (hm : m.CF) (hx : ∀ x ∈ xs, CF x) (hi : i ≤ xs.length) : (stTo (stepF f form fl) m xs i).CF :=
  stTo_inv (I := Mem.CF) hm (fun t x ht hx' => (CF_step ht (hx x hx')).2) hi
set_option maxRecDepth 20000 in
set_option maxHeartbeats 2000000 in
theorem c_implRun {f : Fil} {form : Int} {fb : Bool} {m : Mem} (hm : m.CF) (hA : Arr h l 1 (xs.map fl)) (hx : ∀ x ∈ xs, CF x) (hn : xs.length ≤ 100000) (hl : lim ≤ h.length)
    (hK : ∀ o g, New h g o 24 1 ((scan (stepF f form fb) m xs).1.map fl) → K (.tup [.lf o, .agg (scan (stepF f form fb) m xs).2.cells]) g) :
    CallT S false 13 [.agg f.cells, .lf (.int .i64 form), .lf (.bool fb), .agg m.cells, .lf l] h lim K := by
  have hm4 := m.len
  have hf5 : f.cells.length = 5 := rfl
  refine CallT_of_body (F := L13) (HasFr.f13) rfl ?_; unfold L13; dsimp only []
  repeat' (first | (simp (disch := first | omega | assumption | (simp only [List.length_set]; omega) | (simp [*] <;> fail) | assumption) [-Bool.decide_and, -Bool.decide_or, -Bool.not_and, -Bool.not_or, toNat_pred, toNat_succ, wrap64, wr_new, wr_new0, ok_if, ok_ifn, iadV_sl, makeV_int, decT, decF, over_at, *, hA.len, hA.at_, hA.at_', hA.rd, hA.rdIn, hA.rdIn0, hA.rdA, hA.rdInA, hA.rdIn0A, leavesAll, fillL]) | (with_reducible refine Gd_split (fun hc => ?_) (fun hc => ?_) <;> (have hc2 := hc; try simp at hc2)) | (with_reducible refine Br_split (fun hc => ?_) (fun hc => ?_) <;> (have hc2 := hc; try simp at hc2)) | (with_reducible refine GdT_split (fun hc => ?_) (fun hc => ?_) <;> (have hc2 := hc; try simp at hc2)) | (with_reducible refine WT_alt ?_ ?_) | omega)
  refine WL_forM 274877501440 (by decide +kernel) (xs.length) (fun i b g => i ≤ xs.length ∧ b 19 = .lf (.int .i64 i) ∧ Cel g h.length 26 f.cells ∧ Cel g (h.length + 1) 31 (stTo (stepF f form fb) m xs i).cells ∧ Cel g (h.length + 2) 31 [.flt .f32 0, .flt .f32 0, .flt .f32 0, .flt .f32 0] ∧ ∃ o, b 12 = .lf o ∧ New h g o 24 1 ((outTo (stepF f form fb) m xs i).map fl) ∧ Not o h.length ∧ Not o (h.length + 1) ∧ Not o (h.length + 2)) (fun _ _ _ hi => hi.1) ?_ ?_
  · refine ⟨by simp, by simp, by simp [Cel], by simp [Cel], by simp [Cel], .nils, by simp, ?_, fun q => absurd rfl q, fun q => absurd rfl q, fun q => absurd rfl q⟩
    have := New.nil (h := h) (g := h ++ [⟨f.cells, .own 26 1⟩, ⟨m.cells, .own 31 1⟩, ⟨[.flt .f32 0, .flt .f32 0, .flt .f32 0, .flt .f32 0], .own 31 1⟩]) (ty := 24) (sz := 1) (Kept.app _ _)
    simpa using this
  rintro i b g ⟨hi, e19, hc5, hc8, hc11, o, e12, hN, hn5, hn8, hn11⟩
  have hk := hN.kept
  have hk1 := hk.1
  have hA1 := hA.kept hk
  have hlo := outTo_len (step := stepF f form fb) (s := m) hi
  have hcf := st_CF (f := f) (form := form) (fl := fb) hm hx hi
  by_cases hlt : i < xs.length
  · have hx1 := hx _ (List.getElem_mem hlt)
    have s1 := outTo_fl (step := stepF f form fb) (s := m) hlt
    have s2 := stTo_succ (step := stepF f form fb) (s := m) hlt
    generalize stTo (stepF f form fb) m xs i = st at *
    have hstep : ∀ (t : Hp) (K : CV → Hp → Prop), CallT S true 16 [.agg f.cells, .lf (.int .i64 form), .lf (.bool fb), .agg st.cells, .lf (.flt .f32 xs[i])] t lim K = K (.tup [.lf (.flt .f32 (stepF f form fb st xs[i]).1), .agg (stepF f form fb st xs[i]).2.cells]) t := fun t K => c_implStep hcf hx1
    have c5 : rdCells g h.length 0 5 = some f.cells := hc5.rd (by simp [hf5])
    have c8 : rdCells g (h.length + 1) 0 4 = some st.cells := hc8.rd (by simp [Mem.len])
    have hy4 := (stepF f form fb st xs[i]).2.len
    have w8 : ∀ t, wrCells lim (g ++ t) (h.length + 1) 0 (stepF f form fb st xs[i]).2.cells = some ((g ++ t).set (h.length + 1) ⟨(stepF f form fb st xs[i]).2.cells, .own 31 1⟩) := fun t => (hc8.app (t := t)).wr (by omega) (by rw [hy4, Mem.len])
    have hlt8 := hc8.lt
    generalize stepF f form fb st xs[i] = r at *
    have ht4 : List.take 4 r.2.cells = r.2.cells := rfl
    clear hK
    repeat' (first | (simp (disch := first | omega | assumption | (simp only [List.length_set]; omega) | (simp [*] <;> fail) | assumption) [-Bool.decide_and, -Bool.decide_or, -Bool.not_and, -Bool.not_or, toNat_pred, toNat_succ, wrap64, wr_new, wr_new0, ok_if, ok_ifn, iadV_sl, makeV_int, decT, decF, over_at, *, hA1.len, hA1.at_, hA1.at_', hA1.rd, hA1.rdIn, hA1.rdIn0, hA1.rdA, hA1.rdInA, hA1.rdIn0A, hA1.rd1, fl, leavesAll, fillL]) | (with_reducible refine Gd_split (fun hc => ?_) (fun hc => ?_) <;> (have hc2 := hc; try simp at hc2)) | (with_reducible refine Br_split (fun hc => ?_) (fun hc => ?_) <;> (have hc2 := hc; try simp at hc2)) | (with_reducible refine GdT_split (fun hc => ?_) (fun hc => ?_) <;> (have hc2 := hc; try simp at hc2)) | (with_reducible refine WT_alt ?_ ?_) | omega)
    have hG := (hN.set_other (o := ⟨r.2.cells, .own 31 1⟩) (by omega) hn8).app (t := [⟨r.2.cells, .own 31 1⟩, ⟨[.flt .f32 r.1], .own 24 1⟩])
    refine oc_pushS hG (r := [.flt .f32 r.1]) ?_ hl (by simp; omega) fun p g1 hP hC => ?_
    · simp [rdCells, List.getElem?_append_right, Ob.live]
    rw [← s1] at hP
    have d5 := ((hc5.set (o := ⟨r.2.cells, .own 31 1⟩) (id2 := h.length + 1) (by omega)).app (t := [⟨r.2.cells, .own 31 1⟩, ⟨[.flt .f32 r.1], .own 24 1⟩])).but hC (fun q => (hn5 q).symm)
    have d8 := ((Cel.put (ty := 31) (new := r.2.cells) hlt8).app (t := [⟨r.2.cells, .own 31 1⟩, ⟨[.flt .f32 r.1], .own 24 1⟩])).but hC (fun q => (hn8 q).symm)
    have d11 := ((hc11.set (o := ⟨r.2.cells, .own 31 1⟩) (id2 := h.length + 1) (by omega)).app (t := [⟨r.2.cells, .own 31 1⟩, ⟨[.flt .f32 r.1], .own 24 1⟩])).but hC (fun q => (hn11 q).symm)
    have n5 := hn5.but hC (by simp; omega)
    have n8 := hn8.but hC (by simp; omega)
    have n11 := hn11.but hC (by have := hc11.lt; simp; omega)
    clear c8 c5 hC hcf hstep hc8 hc11 hn5 hn8 hn11 hc5 w8 s1 hG
    repeat' (first | (simp (disch := first | omega | assumption | (simp only [List.length_set]; omega) | (simp [*] <;> fail) | assumption) [-Bool.decide_and, -Bool.decide_or, -Bool.not_and, -Bool.not_or, toNat_pred, toNat_succ, wrap64, wr_new, wr_new0, ok_if, ok_ifn, iadV_sl, makeV_int, decT, decF, over_at, *]) | (with_reducible refine Gd_split (fun hc => ?_) (fun hc => ?_) <;> (have hc2 := hc; try simp at hc2)) | (with_reducible refine Br_split (fun hc => ?_) (fun hc => ?_) <;> (have hc2 := hc; try simp at hc2)) | (with_reducible refine GdT_split (fun hc => ?_) (fun hc => ?_) <;> (have hc2 := hc; try simp at hc2)) | (with_reducible refine WT_alt ?_ ?_) | omega)
  · have e : i = xs.length := by omega
    subst e
    rw [stTo_all] at hc8 hcf
    rw [outTo_all] at hN
    have c8 : rdCells g (h.length + 1) 0 4 = some (scan (stepF f form fb) m xs).2.cells := hc8.rd (by simp [Mem.len])
    have c11 := fun new hn => hc11.wr (lim := lim) (new := new) (by omega) hn
    have hlt11 := hc11.lt
    have hy4 := (scan (stepF f form fb) m xs).2.len
    have r11 : ∀ a b c d : Lf, rdCells (g.set (h.length + 2) ⟨[a, b, c, d], .own 31 1⟩) (h.length + 2) 0 4 = some [a, b, c, d] := fun a b c d => (Cel.put hlt11).rd (by simp)
    repeat' (first | (simp (disch := first | omega | assumption | (simp only [List.length_set]; omega) | (simp [*] <;> fail) | assumption) [-Bool.decide_and, -Bool.decide_or, -Bool.not_and, -Bool.not_or, toNat_pred, toNat_succ, wrap64, wr_new, wr_new0, ok_if, ok_ifn, iadV_sl, makeV_int, decT, decF, over_at, *, hA1.len, hA1.at_, hA1.at_', hA1.rd, hA1.rdIn, hA1.rdIn0, hA1.rdA, hA1.rdInA, hA1.rdIn0A, hy4, Mem.cells, leavesAll, fillL]) | (with_reducible refine Gd_split (fun hc => ?_) (fun hc => ?_) <;> (have hc2 := hc; try simp at hc2)) | (with_reducible refine Br_split (fun hc => ?_) (fun hc => ?_) <;> (have hc2 := hc; try simp at hc2)) | (with_reducible refine GdT_split (fun hc => ?_) (fun hc => ?_) <;> (have hc2 := hc; try simp at hc2)) | (with_reducible refine WT_alt ?_ ?_) | omega)
    exact hK _ _ (hN.set_other (by omega) hn11)
theorem CF_scan {f : Fil} {form : Int} {fb : Bool} {m : Mem} {xs : List Nat} (hm : m.CF) (hx : ∀ x ∈ xs, CF x) : ∀ y ∈ (scan (stepF f form fb) m xs).1, CF y := by
  have key : ∀ i, i ≤ xs.length → ∀ y ∈ outTo (stepF f form fb) m xs i, CF y := by
    intro i
    induction i with
    | zero => intro _ y hy; simp at hy
    | succ i ih =>
      intro hi y hy
      rw [outTo_succ (by omega)] at hy
      rcases List.mem_append.1 hy with h1 | h1
      · exact ih (by omega) y h1
      · rw [List.mem_singleton] at h1
        rw [h1]
        exact (CF_step (st_CF hm hx (by omega)) (hx _ (List.getElem_mem (by omega)))).1
  have := key xs.length (Nat.le_refl _)
  rwa [outTo_all] at this
end
end Go.E
