/- Filters: one step in each form. -/
import Derived.Test.YtmmmpgggnfommaaMFl
import Derived.Test.YtmmmpgggnfommaaMH
set_option linter.unusedVariables false
set_option linter.unusedSimpArgs false
namespace Go.E
open Go
def L16 : LFn := ⟨5, (.seq (.reg [⟨(.some 5), (.box 26 (.t 0)), none⟩, ⟨(.some 8), (.box 31 (.t 3)), none⟩, ⟨(.some 10), (.mv (.c (.lf (.flt .f32 0)))), none⟩, ⟨(.some 11), (.alloc 31 [(.flt .f32 0), (.flt .f32 0), (.flt .f32 0), (.flt .f32 0)]), none⟩])
 (.seq (.reg [⟨(.some 12), (.mv (.c (.lf (.flt .f32 0)))), none⟩])
 (.seq (.seq (.reg [⟨(.some 14), (.mv (.t 1)), none⟩])
 (.block 0 (.seq (.reg [⟨(.some 53), (.bin .eql (.t 14) (.c (.lf (.int .i64 0)))), none⟩, ⟨(.some 52), (.mv (.t 53)), none⟩])
 (.cond (.t 52) (.seq (.reg [⟨(.some 54), (.faddr 0 (.t 5)), none⟩, ⟨(.some 55), (.load false 1 (.t 54)), none⟩, ⟨(.some 56), (.mv (.t 4)), none⟩, ⟨(.some 57), (.bin .mul (.t 55) (.t 56)), none⟩, ⟨(.some 58), (.faddr 1 (.t 5)), none⟩, ⟨(.some 59), (.load false 1 (.t 58)), none⟩, ⟨(.some 60), (.faddr 0 (.t 8)), none⟩, ⟨(.some 61), (.load false 1 (.t 60)), none⟩, ⟨(.some 62), (.bin .mul (.t 59) (.t 61)), none⟩, ⟨(.some 63), (.bin .add (.t 57) (.t 62)), none⟩, ⟨(.some 64), (.faddr 2 (.t 5)), none⟩, ⟨(.some 65), (.load false 1 (.t 64)), none⟩, ⟨(.some 66), (.faddr 1 (.t 8)), none⟩, ⟨(.some 67), (.load false 1 (.t 66)), none⟩, ⟨(.some 68), (.bin .mul (.t 65) (.t 67)), none⟩, ⟨(.some 69), (.bin .add (.t 63) (.t 68)), none⟩, ⟨(.some 70), (.faddr 3 (.t 5)), none⟩, ⟨(.some 71), (.load false 1 (.t 70)), none⟩, ⟨(.some 72), (.faddr 2 (.t 8)), none⟩, ⟨(.some 73), (.load false 1 (.t 72)), none⟩, ⟨(.some 74), (.bin .mul (.t 71) (.t 73)), none⟩, ⟨(.some 75), (.bin .sub (.t 69) (.t 74)), none⟩, ⟨(.some 76), (.faddr 4 (.t 5)), none⟩, ⟨(.some 77), (.load false 1 (.t 76)), none⟩, ⟨(.some 78), (.faddr 3 (.t 8)), none⟩, ⟨(.some 79), (.load false 1 (.t 78)), none⟩, ⟨(.some 80), (.bin .mul (.t 77) (.t 79)), none⟩, ⟨(.some 81), (.bin .sub (.t 75) (.t 80)), none⟩, ⟨(.some 12), (.mv (.t 81)), none⟩])
 (.seq (.reg [⟨(.some 82), (.mv (.t 12)), none⟩, ⟨(.some 83), (.mv (.t 2)), none⟩, ⟨(.some 84), (.call true 17 [(.t 82), (.t 83)]), none⟩, ⟨(.some 12), (.mv (.t 84)), none⟩])
 (.reg [⟨(.some 85), (.mv (.t 4)), none⟩, ⟨(.some 86), (.faddr 0 (.t 8)), none⟩, ⟨(.some 87), (.load false 1 (.t 86)), none⟩, ⟨(.some 88), (.mv (.t 12)), none⟩, ⟨(.some 89), (.faddr 2 (.t 8)), none⟩, ⟨(.some 90), (.load false 1 (.t 89)), none⟩, ⟨(.some 91), (.build [(.flt .f32 0), (.flt .f32 0), (.flt .f32 0), (.flt .f32 0)] [(0, (1, (.t 85))), (1, (1, (.t 87))), (2, (1, (.t 88))), (3, (1, (.t 90)))]), none⟩, ⟨none, (.store 4 (.t 8) (.t 91)), none⟩]))) (.seq (.reg [⟨(.some 93), (.bin .eql (.t 14) (.c (.lf (.int .i64 1)))), none⟩, ⟨(.some 92), (.mv (.t 93)), none⟩])
 (.cond (.t 92) (.seq (.reg [⟨(.some 94), (.faddr 0 (.t 5)), none⟩, ⟨(.some 95), (.load false 1 (.t 94)), none⟩, ⟨(.some 96), (.mv (.t 4)), none⟩, ⟨(.some 97), (.bin .mul (.t 95) (.t 96)), none⟩, ⟨(.some 98), (.faddr 0 (.t 8)), none⟩, ⟨(.some 99), (.load false 1 (.t 98)), none⟩, ⟨(.some 100), (.bin .add (.t 97) (.t 99)), none⟩, ⟨(.some 101), (.mv (.t 2)), none⟩, ⟨(.some 102), (.call true 17 [(.t 100), (.t 101)]), none⟩, ⟨(.some 12), (.mv (.t 102)), none⟩])
 (.reg [⟨(.some 103), (.faddr 1 (.t 5)), none⟩, ⟨(.some 104), (.load false 1 (.t 103)), none⟩, ⟨(.some 105), (.mv (.t 4)), none⟩, ⟨(.some 106), (.bin .mul (.t 104) (.t 105)), none⟩, ⟨(.some 107), (.faddr 3 (.t 5)), none⟩, ⟨(.some 108), (.load false 1 (.t 107)), none⟩, ⟨(.some 109), (.mv (.t 12)), none⟩, ⟨(.some 110), (.bin .mul (.t 108) (.t 109)), none⟩, ⟨(.some 111), (.bin .sub (.t 106) (.t 110)), none⟩, ⟨(.some 112), (.faddr 1 (.t 8)), none⟩, ⟨(.some 113), (.load false 1 (.t 112)), none⟩, ⟨(.some 114), (.bin .add (.t 111) (.t 113)), none⟩, ⟨(.some 115), (.faddr 2 (.t 5)), none⟩, ⟨(.some 116), (.load false 1 (.t 115)), none⟩, ⟨(.some 117), (.mv (.t 4)), none⟩, ⟨(.some 118), (.bin .mul (.t 116) (.t 117)), none⟩, ⟨(.some 119), (.faddr 4 (.t 5)), none⟩, ⟨(.some 120), (.load false 1 (.t 119)), none⟩, ⟨(.some 121), (.mv (.t 12)), none⟩, ⟨(.some 122), (.bin .mul (.t 120) (.t 121)), none⟩, ⟨(.some 123), (.bin .sub (.t 118) (.t 122)), none⟩, ⟨(.some 124), (.build [(.flt .f32 0), (.flt .f32 0), (.flt .f32 0), (.flt .f32 0)] [(0, (1, (.t 114))), (1, (1, (.t 123)))]), none⟩, ⟨none, (.store 4 (.t 8) (.t 124)), none⟩])) (.seq (.reg [⟨(.some 15), (.mv (.t 4)), none⟩, ⟨(.some 16), (.faddr 3 (.t 5)), none⟩, ⟨(.some 17), (.load false 1 (.t 16)), none⟩, ⟨(.some 18), (.faddr 0 (.t 8)), none⟩, ⟨(.some 19), (.load false 1 (.t 18)), none⟩, ⟨(.some 20), (.bin .mul (.t 17) (.t 19)), none⟩, ⟨(.some 21), (.bin .sub (.t 15) (.t 20)), none⟩, ⟨(.some 22), (.faddr 4 (.t 5)), none⟩, ⟨(.some 23), (.load false 1 (.t 22)), none⟩, ⟨(.some 24), (.faddr 1 (.t 8)), none⟩, ⟨(.some 25), (.load false 1 (.t 24)), none⟩, ⟨(.some 26), (.bin .mul (.t 23) (.t 25)), none⟩, ⟨(.some 27), (.bin .sub (.t 21) (.t 26)), none⟩, ⟨(.some 28), (.mv (.t 2)), none⟩, ⟨(.some 29), (.call true 17 [(.t 27), (.t 28)]), none⟩, ⟨(.some 13), (.mv (.t 29)), none⟩])
 (.seq (.reg [⟨(.some 30), (.faddr 0 (.t 5)), none⟩, ⟨(.some 31), (.load false 1 (.t 30)), none⟩, ⟨(.some 32), (.mv (.t 13)), none⟩, ⟨(.some 33), (.bin .mul (.t 31) (.t 32)), none⟩, ⟨(.some 34), (.faddr 1 (.t 5)), none⟩, ⟨(.some 35), (.load false 1 (.t 34)), none⟩, ⟨(.some 36), (.faddr 0 (.t 8)), none⟩, ⟨(.some 37), (.load false 1 (.t 36)), none⟩, ⟨(.some 38), (.bin .mul (.t 35) (.t 37)), none⟩, ⟨(.some 39), (.bin .add (.t 33) (.t 38)), none⟩, ⟨(.some 40), (.faddr 2 (.t 5)), none⟩, ⟨(.some 41), (.load false 1 (.t 40)), none⟩, ⟨(.some 42), (.faddr 1 (.t 8)), none⟩, ⟨(.some 43), (.load false 1 (.t 42)), none⟩, ⟨(.some 44), (.bin .mul (.t 41) (.t 43)), none⟩, ⟨(.some 45), (.bin .add (.t 39) (.t 44)), none⟩, ⟨(.some 46), (.mv (.t 2)), none⟩, ⟨(.some 47), (.call true 17 [(.t 45), (.t 46)]), none⟩, ⟨(.some 12), (.mv (.t 47)), none⟩])
 (.reg [⟨(.some 48), (.mv (.t 13)), none⟩, ⟨(.some 49), (.faddr 0 (.t 8)), none⟩, ⟨(.some 50), (.load false 1 (.t 49)), none⟩, ⟨(.some 51), (.build [(.flt .f32 0), (.flt .f32 0), (.flt .f32 0), (.flt .f32 0)] [(0, (1, (.t 48))), (1, (1, (.t 50)))]), none⟩, ⟨none, (.store 4 (.t 8) (.t 51)), none⟩])))))))))
 (.seq (.reg [⟨(.some 125), (.mv (.t 12)), none⟩, ⟨(.some 126), (.faddr 0 (.t 8)), none⟩, ⟨(.some 127), (.load false 1 (.t 126)), none⟩, ⟨(.some 128), (.mv (.t 2)), none⟩, ⟨(.some 129), (.call true 17 [(.t 127), (.t 128)]), none⟩, ⟨(.some 130), (.faddr 1 (.t 8)), none⟩, ⟨(.some 131), (.load false 1 (.t 130)), none⟩, ⟨(.some 132), (.mv (.t 2)), none⟩, ⟨(.some 133), (.call true 17 [(.t 131), (.t 132)]), none⟩, ⟨(.some 134), (.faddr 2 (.t 8)), none⟩, ⟨(.some 135), (.load false 1 (.t 134)), none⟩, ⟨(.some 136), (.mv (.t 2)), none⟩, ⟨(.some 137), (.call true 17 [(.t 135), (.t 136)]), none⟩, ⟨(.some 138), (.faddr 3 (.t 8)), none⟩, ⟨(.some 139), (.load false 1 (.t 138)), none⟩, ⟨(.some 140), (.mv (.t 2)), none⟩, ⟨(.some 141), (.call true 17 [(.t 139), (.t 140)]), none⟩, ⟨(.some 142), (.build [(.flt .f32 0), (.flt .f32 0), (.flt .f32 0), (.flt .f32 0)] [(0, (1, (.t 129))), (1, (1, (.t 133))), (2, (1, (.t 137))), (3, (1, (.t 141)))]), none⟩, ⟨(.some 10), (.mv (.t 125)), none⟩, ⟨none, (.store 4 (.t 11) (.t 142)), none⟩])
 .ret)))), [(.tmp 10), (.cell 11 true 4)]⟩
class HasFi (S : Sys) : Prop extends HasFl2 S where
  f16 : S.fs 16 = some L16
structure Fil where
  b0 : Nat
  b1 : Nat
  b2 : Nat
  a1 : Nat
  a2 : Nat
structure Mem where
  a : Nat
  b : Nat
  c : Nat
  d : Nat
def Fil.cells (f : Fil) : List Lf := [.flt .f32 f.b0, .flt .f32 f.b1, .flt .f32 f.b2, .flt .f32 f.a1, .flt .f32 f.a2]
def Mem.cells (m : Mem) : List Lf := [.flt .f32 m.a, .flt .f32 m.b, .flt .f32 m.c, .flt .f32 m.d]
def Mem.CF (m : Mem) : Prop := E.CF m.a ∧ E.CF m.b ∧ E.CF m.c ∧ E.CF m.d
abbrev ad (x y : Nat) : Nat := fbin .add .f32 x y
abbrev su (x y : Nat) : Nat := fbin .sub .f32 x y
abbrev mu (x y : Nat) : Nat := fbin .mul .f32 x y
def yDir (f : Fil) (fl : Bool) (m : Mem) (x : Nat) : Nat := flushIf fl (su (su (ad (ad (mu f.b0 x) (mu f.b1 m.a)) (mu f.b2 m.b)) (mu f.a1 m.c)) (mu f.a2 m.d))
def yTur (f : Fil) (fl : Bool) (m : Mem) (x : Nat) : Nat := flushIf fl (ad (mu f.b0 x) m.a)
def wCan (f : Fil) (fl : Bool) (m : Mem) (x : Nat) : Nat := flushIf fl (su (su x (mu f.a1 m.a)) (mu f.a2 m.b))
def yCan (f : Fil) (fl : Bool) (m : Mem) (w : Nat) : Nat := flushIf fl (ad (ad (mu f.b0 w) (mu f.b1 m.a)) (mu f.b2 m.b))
def stepF (f : Fil) (form : Int) (fl : Bool) (m : Mem) (x : Nat) : Nat × Mem :=
  if form = 0 then (yDir f fl m x, ⟨flushIf fl x, flushIf fl m.a, flushIf fl (yDir f fl m x), flushIf fl m.c⟩)
  else if form = 1 then (yTur f fl m x, ⟨flushIf fl (ad (su (mu f.b1 x) (mu f.a1 (yTur f fl m x))) m.b), flushIf fl (su (mu f.b2 x) (mu f.a2 (yTur f fl m x))), 0, 0⟩)
  else (yCan f fl m (wCan f fl m x), ⟨flushIf fl (wCan f fl m x), flushIf fl m.a, 0, 0⟩)
theorem flushIf_zero {b : Bool} : flushIf b 0 = 0 := by unfold flushIf; split <;> rfl
theorem CF_zero : CF 0 := ⟨by decide, by decide⟩
theorem CF_yDir {f : Fil} {fl : Bool} {m : Mem} {x : Nat} : CF (yDir f fl m x) := CF_flushIf CF_bin
theorem CF_yTur {f : Fil} {fl : Bool} {m : Mem} {x : Nat} : CF (yTur f fl m x) := CF_flushIf CF_bin
theorem CF_wCan {f : Fil} {fl : Bool} {m : Mem} {x : Nat} : CF (wCan f fl m x) := CF_flushIf CF_bin
theorem CF_yCan {f : Fil} {fl : Bool} {m : Mem} {x : Nat} : CF (yCan f fl m x) := CF_flushIf CF_bin
theorem CF_step {f : Fil} {form : Int} {fl : Bool} {m : Mem} {x : Nat} (hm : m.CF) (hx : CF x) : CF (stepF f form fl m x).1 ∧ (stepF f form fl m x).2.CF := by
  obtain ⟨h1, h2, h3, h4⟩ := hm
  unfold stepF
  split
  · exact ⟨CF_yDir, CF_flushIf hx, CF_flushIf h1, CF_flushIf CF_yDir, CF_flushIf h3⟩
  · split
    · exact ⟨CF_yTur, CF_flushIf CF_bin, CF_flushIf CF_bin, CF_zero, CF_zero⟩
    · exact ⟨CF_yCan, CF_flushIf CF_wCan, CF_flushIf h1, CF_zero, CF_zero⟩
section
variable {S : Sys} {lim : Nat} {h : Hp} {K : CV → Hp → Prop} [HasFi S]
theorem rd_five {id off : Nat} {f : Fil} (hr : rdCells h id off 5 = some f.cells) : ∀ t : Hp, rdCells (h ++ t) id off 1 = some [.flt .f32 f.b0] ∧ rdCells (h ++ t) id (off + 1) 1 = some [.flt .f32 f.b1] ∧ rdCells (h ++ t) id (off + 2) 1 = some [.flt .f32 f.b2] ∧ rdCells (h ++ t) id (off + 3) 1 = some [.flt .f32 f.a1] ∧ rdCells (h ++ t) id (off + 4) 1 = some [.flt .f32 f.a2] := by
  intro t
  have hr := rd_app' (t := t) hr
  refine ⟨rd_sub hr (j := 0) (m := 1) (by omega), rd_sub hr (j := 1) (m := 1) (by omega), rd_sub hr (j := 2) (m := 1) (by omega), rd_sub hr (j := 3) (m := 1) (by omega), rd_sub hr (j := 4) (m := 1) (by omega)⟩
set_option maxRecDepth 20000 in
set_option maxHeartbeats 2000000 in
set_option maxRecDepth 20000 in
set_option maxHeartbeats 2000000 in
theorem c_implStep {f : Fil} {form : Int} {fl : Bool} {m : Mem} {x : Nat} (hm : m.CF) (hx : CF x) :
    CallT S true 16 [.agg f.cells, .lf (.int .i64 form), .lf (.bool fl), .agg m.cells, .lf (.flt .f32 x)] h lim K = K (.tup [.lf (.flt .f32 (stepF f form fl m x).1), .agg (stepF f form fl m x).2.cells]) h := by
  obtain ⟨m1, m2, m3, m4⟩ := hm
  have z1 := flushIf_zero (b := fl)
  refine CallT_pure (F := L16) (HasFi.f16) rfl (by first | rfl | (split <;> rfl) | simp) ?_; unfold L16; dsimp only []
  by_cases h0 : form = 0
  · subst h0
    repeat' (first | (simp (disch := first | omega | assumption | (simp only [List.length_set]; omega) | (simp [*] <;> fail) | assumption) [-Bool.decide_and, -Bool.decide_or, -Bool.not_and, -Bool.not_or, toNat_pred, toNat_succ, wrap64, wr_new, wr_new0, ok_if, ok_ifn, iadV_sl, makeV_int, decT, decF, over_at, *, c_flushed CF_bin, c_flushed hx, c_flushed m1, c_flushed m3, c_flushed (CF_flushIf CF_bin), Fil.cells, Mem.cells, leavesAll, fillL, stepF, yDir]) | (with_reducible refine Gd_split (fun hc => ?_) (fun hc => ?_) <;> (have hc2 := hc; try simp at hc2)) | (with_reducible refine Br_split (fun hc => ?_) (fun hc => ?_) <;> (have hc2 := hc; try simp at hc2)) | (with_reducible refine GdT_split (fun hc => ?_) (fun hc => ?_) <;> (have hc2 := hc; try simp at hc2)) | (with_reducible refine WT_alt ?_ ?_) | omega)
  · by_cases h1 : form = 1
    · subst h1
      repeat' (first | (simp (disch := first | omega | assumption | (simp only [List.length_set]; omega) | (simp [*] <;> fail) | assumption) [-Bool.decide_and, -Bool.decide_or, -Bool.not_and, -Bool.not_or, toNat_pred, toNat_succ, wrap64, wr_new, wr_new0, ok_if, ok_ifn, iadV_sl, makeV_int, decT, decF, over_at, *, c_flushed CF_bin, c_flushed CF_zero, c_flushed (CF_flushIf CF_bin), Fil.cells, Mem.cells, leavesAll, fillL, stepF, yTur]) | (with_reducible refine Gd_split (fun hc => ?_) (fun hc => ?_) <;> (have hc2 := hc; try simp at hc2)) | (with_reducible refine Br_split (fun hc => ?_) (fun hc => ?_) <;> (have hc2 := hc; try simp at hc2)) | (with_reducible refine GdT_split (fun hc => ?_) (fun hc => ?_) <;> (have hc2 := hc; try simp at hc2)) | (with_reducible refine WT_alt ?_ ?_) | omega)
    · repeat' (first | (simp (disch := first | omega | assumption | (simp only [List.length_set]; omega) | (simp [*] <;> fail) | assumption) [-Bool.decide_and, -Bool.decide_or, -Bool.not_and, -Bool.not_or, toNat_pred, toNat_succ, wrap64, wr_new, wr_new0, ok_if, ok_ifn, iadV_sl, makeV_int, decT, decF, over_at, *, c_flushed CF_bin, c_flushed m1, c_flushed CF_zero, c_flushed (CF_flushIf CF_bin), Fil.cells, Mem.cells, leavesAll, fillL, stepF, yCan, wCan]) | (with_reducible refine Gd_split (fun hc => ?_) (fun hc => ?_) <;> (have hc2 := hc; try simp at hc2)) | (with_reducible refine Br_split (fun hc => ?_) (fun hc => ?_) <;> (have hc2 := hc; try simp at hc2)) | (with_reducible refine GdT_split (fun hc => ?_) (fun hc => ?_) <;> (have hc2 := hc; try simp at hc2)) | (with_reducible refine WT_alt ?_ ?_) | omega)
end
end Go.E
