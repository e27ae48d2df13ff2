/- Which tracks are heard, both sides. -/
import Derived.Test.YtclbkfmelhheaaaMTk
import Derived.Test.YtclbkfmelhheaaaMDm
set_option linter.unusedVariables false
set_option linter.unusedSimpArgs false
namespace Go.E
open Go
def L164 : LFn := ⟨1, (.seq (.reg [⟨(.some 2), (.mv (.c (.lf .nils))), none⟩])
 (.seq (.reg [⟨(.some 3), (.mv (.c (.lf (.bool false)))), none⟩])
 (.seq (.seq (.reg [⟨(.some 7), (.mv (.t 0)), none⟩, ⟨(.some 8), (.len (.t 7)), none⟩, ⟨(.some 9), (.mv (.c (.lf (.int .i64 0)))), none⟩])
 (.block 0 (.loop (.seq (.reg [⟨(.some 10), (.bin .lss (.t 9) (.t 8)), none⟩])
 (.seq (.cond (.t 10) .skip (.exit 0))
 (.seq (.block 1 (.seq (.reg [⟨(.some 11), (.mv (.t 9)), none⟩, ⟨(.some 4), (.mv (.t 11)), none⟩])
 (.reg [⟨(.some 12), (.mv (.t 3)), none⟩, ⟨(.some 13), (.mv (.t 12)), none⟩, ⟨(.some 14), (.mv (.t 0)), (.some (13, false))⟩, ⟨(.some 15), (.mv (.t 4)), (.some (13, false))⟩, ⟨(.some 16), (.iaddr 5 (.t 14) (.t 15)), (.some (13, false))⟩, ⟨(.some 17), (.faddr 4 (.t 16)), (.some (13, false))⟩, ⟨(.some 18), (.load false 1 (.t 17)), (.some (13, false))⟩, ⟨(.some 19), (.pick (.t 13) (.c (.lf (.bool true))) (.t 18)), none⟩, ⟨(.some 3), (.mv (.t 19)), none⟩])))
 (.reg [⟨(.some 20), (.bin .add (.t 9) (.c (.lf (.int .i64 1)))), none⟩, ⟨(.some 9), (.mv (.t 20)), none⟩])))))))
 (.seq (.reg [⟨(.some 21), (.lit 2 1 0 [] []), none⟩, ⟨(.some 5), (.mv (.t 21)), none⟩])
 (.seq (.seq (.reg [⟨(.some 22), (.mv (.t 0)), none⟩, ⟨(.some 23), (.len (.t 22)), none⟩, ⟨(.some 24), (.mv (.c (.lf (.int .i64 0)))), none⟩])
 (.block 2 (.loop (.seq (.reg [⟨(.some 25), (.bin .lss (.t 24) (.t 23)), none⟩])
 (.seq (.cond (.t 25) .skip (.exit 2))
 (.seq (.block 3 (.seq (.reg [⟨(.some 26), (.mv (.t 24)), none⟩, ⟨(.some 6), (.mv (.t 26)), none⟩])
 (.seq (.reg [⟨(.some 27), (.mv (.t 0)), none⟩, ⟨(.some 28), (.mv (.t 6)), none⟩, ⟨(.some 29), (.iaddr 5 (.t 27) (.t 28)), none⟩, ⟨(.some 30), (.faddr 3 (.t 29)), none⟩, ⟨(.some 31), (.load false 1 (.t 30)), none⟩, ⟨(.some 32), (.una .not (.t 31)), none⟩, ⟨(.some 33), (.mv (.t 32)), none⟩, ⟨(.some 34), (.mv (.t 0)), (.some (33, true))⟩, ⟨(.some 35), (.mv (.t 6)), (.some (33, true))⟩, ⟨(.some 36), (.iaddr 5 (.t 34) (.t 35)), (.some (33, true))⟩, ⟨(.some 37), (.faddr 4 (.t 36)), (.some (33, true))⟩, ⟨(.some 38), (.load false 1 (.t 37)), (.some (33, true))⟩, ⟨(.some 39), (.mv (.t 38)), (.some (33, true))⟩, ⟨(.some 40), (.mv (.t 3)), (.some (39, false))⟩, ⟨(.some 41), (.una .not (.t 40)), (.some (39, false))⟩, ⟨(.some 42), (.pick (.t 39) (.c (.lf (.bool true))) (.t 41)), (.some (33, true))⟩, ⟨(.some 43), (.pick (.t 33) (.t 42) (.c (.lf (.bool false)))), none⟩])
 (.cond (.t 43) (.reg [⟨(.some 44), (.mv (.t 5)), none⟩, ⟨(.some 45), (.mv (.t 6)), none⟩, ⟨(.some 46), (.lit 2 1 1 [(.int .i64 0)] [(0, (1, (.t 45)))]), none⟩, ⟨(.some 47), (.app 2 1 8 (.t 44) (.t 46)), none⟩, ⟨(.some 5), (.mv (.t 47)), none⟩]) .skip))))
 (.reg [⟨(.some 48), (.bin .add (.t 24) (.c (.lf (.int .i64 1)))), none⟩, ⟨(.some 24), (.mv (.t 48)), none⟩])))))))
 (.seq (.reg [⟨(.some 49), (.mv (.t 5)), none⟩, ⟨(.some 2), (.mv (.t 49)), none⟩])
 .ret)))))), [(.tmp 2)]⟩
def L167 : LFn := ⟨1, (.seq (.reg [⟨(.some 2), (.mv (.c (.lf .nils))), none⟩])
 (.seq (.reg [⟨(.some 3), (.mv (.c (.lf .nils))), none⟩, ⟨(.some 4), (.mv (.c (.lf .nils))), none⟩])
 (.seq (.seq (.reg [⟨(.some 7), (.mv (.t 0)), none⟩, ⟨(.some 8), (.len (.t 7)), none⟩, ⟨(.some 9), (.mv (.c (.lf (.int .i64 0)))), none⟩])
 (.block 0 (.loop (.seq (.reg [⟨(.some 10), (.bin .lss (.t 9) (.t 8)), none⟩])
 (.seq (.cond (.t 10) .skip (.exit 0))
 (.seq (.block 1 (.seq (.reg [⟨(.some 11), (.iaddr 5 (.t 7) (.t 9)), none⟩, ⟨(.some 12), (.load true 5 (.t 11)), none⟩, ⟨(.some 6), (.alloc 151 [.nils, (.int .i64 0), (.flt .f32 0), (.bool false), (.bool false)]), none⟩, ⟨none, (.store 5 (.t 6) (.t 12)), none⟩])
 (.any (.op ⟨(.some 13), (.mv (.t 3)), none⟩ (.op ⟨(.some 14), (.faddr 3 (.t 6)), none⟩ (.op ⟨(.some 15), (.load false 1 (.t 14)), none⟩ (.op ⟨(.some 18), (.mv (.t 4)), none⟩ (.op ⟨(.some 19), (.faddr 4 (.t 6)), none⟩ (.alt (.op ⟨(.some 16), (.lit 4 1 1 [(.bool false)] [(0, (1, (.t 15)))]), none⟩ (.alt (.op ⟨(.some 17), (.app 4 1 1 (.t 13) (.t 16)), none⟩ (.op ⟨(.some 20), (.load false 1 (.t 19)), none⟩ (.op ⟨(.some 21), (.lit 4 1 1 [(.bool false)] [(0, (1, (.t 20)))]), none⟩ (.op ⟨(.some 22), (.app 4 1 1 (.t 18) (.t 21)), none⟩ (.op ⟨(.some 3), (.mv (.t 17)), none⟩ (.op ⟨(.some 4), (.mv (.t 22)), none⟩ .nil)))))) (.op ⟨(.some 20), (.load false 1 (.t 19)), none⟩ (.alt (.op ⟨(.some 17), (.app 4 1 1 (.t 13) (.t 16)), none⟩ (.op ⟨(.some 21), (.lit 4 1 1 [(.bool false)] [(0, (1, (.t 20)))]), none⟩ (.op ⟨(.some 22), (.app 4 1 1 (.t 18) (.t 21)), none⟩ (.op ⟨(.some 3), (.mv (.t 17)), none⟩ (.op ⟨(.some 4), (.mv (.t 22)), none⟩ .nil))))) (.op ⟨(.some 21), (.lit 4 1 1 [(.bool false)] [(0, (1, (.t 20)))]), none⟩ (.op ⟨(.some 17), (.app 4 1 1 (.t 13) (.t 16)), none⟩ (.op ⟨(.some 22), (.app 4 1 1 (.t 18) (.t 21)), none⟩ (.op ⟨(.some 3), (.mv (.t 17)), none⟩ (.op ⟨(.some 4), (.mv (.t 22)), none⟩ .nil))))))))) (.op ⟨(.some 20), (.load false 1 (.t 19)), none⟩ (.alt (.op ⟨(.some 16), (.lit 4 1 1 [(.bool false)] [(0, (1, (.t 15)))]), none⟩ (.alt (.op ⟨(.some 17), (.app 4 1 1 (.t 13) (.t 16)), none⟩ (.op ⟨(.some 21), (.lit 4 1 1 [(.bool false)] [(0, (1, (.t 20)))]), none⟩ (.op ⟨(.some 22), (.app 4 1 1 (.t 18) (.t 21)), none⟩ (.op ⟨(.some 3), (.mv (.t 17)), none⟩ (.op ⟨(.some 4), (.mv (.t 22)), none⟩ .nil))))) (.op ⟨(.some 21), (.lit 4 1 1 [(.bool false)] [(0, (1, (.t 20)))]), none⟩ (.op ⟨(.some 17), (.app 4 1 1 (.t 13) (.t 16)), none⟩ (.op ⟨(.some 22), (.app 4 1 1 (.t 18) (.t 21)), none⟩ (.op ⟨(.some 3), (.mv (.t 17)), none⟩ (.op ⟨(.some 4), (.mv (.t 22)), none⟩ .nil))))))) (.op ⟨(.some 21), (.lit 4 1 1 [(.bool false)] [(0, (1, (.t 20)))]), none⟩ (.op ⟨(.some 16), (.lit 4 1 1 [(.bool false)] [(0, (1, (.t 15)))]), none⟩ (.op ⟨(.some 17), (.app 4 1 1 (.t 13) (.t 16)), none⟩ (.op ⟨(.some 22), (.app 4 1 1 (.t 18) (.t 21)), none⟩ (.op ⟨(.some 3), (.mv (.t 17)), none⟩ (.op ⟨(.some 4), (.mv (.t 22)), none⟩ .nil)))))))))))))))))
 (.reg [⟨(.some 23), (.bin .add (.t 9) (.c (.lf (.int .i64 1)))), none⟩, ⟨(.some 9), (.mv (.t 23)), none⟩])))))))
 (.seq (.reg [⟨(.some 24), (.mv (.t 3)), none⟩, ⟨(.some 25), (.mv (.t 4)), none⟩, ⟨(.some 26), (.call false 170 [(.t 24), (.t 25)]), none⟩, ⟨(.some 2), (.mv (.t 26)), none⟩])
 .ret)))), [(.tmp 2)]⟩
def L170 : LFn := ⟨2, (.seq (.reg [⟨(.some 4), (.mv (.c (.lf .nils))), none⟩])
 (.seq (.reg [⟨(.some 9), (.mv (.t 1)), none⟩, ⟨(.some 10), (.call true 194 [(.t 9), (.c (.lf (.bool true)))]), none⟩, ⟨(.some 5), (.mv (.t 10)), none⟩])
 (.seq (.reg [⟨(.some 6), (.mv (.c (.lf .nils))), none⟩])
 (.seq (.seq (.reg [⟨(.some 11), (.mv (.t 0)), none⟩, ⟨(.some 12), (.len (.t 11)), none⟩, ⟨(.some 13), (.mv (.c (.lf (.int .i64 0)))), none⟩])
 (.block 0 (.loop (.seq (.reg [⟨(.some 14), (.bin .lss (.t 13) (.t 12)), none⟩])
 (.seq (.cond (.t 14) .skip (.exit 0))
 (.seq (.block 1 (.seq (.reg [⟨(.some 15), (.mv (.t 13)), none⟩, ⟨(.some 16), (.iaddr 1 (.t 11) (.t 13)), none⟩, ⟨(.some 17), (.load false 1 (.t 16)), none⟩, ⟨(.some 7), (.mv (.t 15)), none⟩, ⟨(.some 8), (.mv (.t 17)), none⟩])
 (.reg [⟨(.some 18), (.mv (.t 6)), none⟩, ⟨(.some 19), (.mv (.t 8)), none⟩, ⟨(.some 20), (.una .not (.t 19)), none⟩, ⟨(.some 21), (.mv (.t 20)), none⟩, ⟨(.some 22), (.mv (.t 1)), (.some (21, true))⟩, ⟨(.some 23), (.mv (.t 7)), (.some (21, true))⟩, ⟨(.some 24), (.iaddr 1 (.t 22) (.t 23)), (.some (21, true))⟩, ⟨(.some 25), (.load false 1 (.t 24)), (.some (21, true))⟩, ⟨(.some 26), (.mv (.t 25)), (.some (21, true))⟩, ⟨(.some 27), (.mv (.t 5)), (.some (26, false))⟩, ⟨(.some 28), (.una .not (.t 27)), (.some (26, false))⟩, ⟨(.some 29), (.pick (.t 26) (.c (.lf (.bool true))) (.t 28)), (.some (21, true))⟩, ⟨(.some 30), (.pick (.t 21) (.t 29) (.c (.lf (.bool false)))), none⟩, ⟨(.some 31), (.lit 4 1 1 [(.bool false)] [(0, (1, (.t 30)))]), none⟩, ⟨(.some 32), (.app 4 1 1 (.t 18) (.t 31)), none⟩, ⟨(.some 6), (.mv (.t 32)), none⟩])))
 (.reg [⟨(.some 33), (.bin .add (.t 13) (.c (.lf (.int .i64 1)))), none⟩, ⟨(.some 13), (.mv (.t 33)), none⟩])))))))
 (.seq (.reg [⟨(.some 34), (.mv (.t 6)), none⟩, ⟨(.some 4), (.mv (.t 34)), none⟩])
 .ret))))), [(.tmp 4)]⟩
def L194 : LFn := ⟨2, (.seq (.reg [⟨(.some 4), (.mv (.c (.lf (.bool false)))), none⟩])
 (.seq (.reg [⟨(.some 5), (.mv (.t 0)), none⟩, ⟨(.some 6), (.mv (.t 1)), none⟩, ⟨(.some 7), (.call true 211 [(.t 5), (.t 6)]), none⟩, ⟨(.some 8), (.bin .geq (.t 7) (.c (.lf (.int .i64 0)))), none⟩, ⟨(.some 4), (.mv (.t 8)), none⟩])
 .ret)), [(.tmp 4)]⟩
def L211 : LFn := ⟨2, (.seq (.reg [⟨(.some 4), (.mv (.c (.lf (.int .i64 0)))), none⟩])
 (.seq (.seq (.reg [⟨(.some 6), (.mv (.t 0)), none⟩, ⟨(.some 7), (.len (.t 6)), none⟩, ⟨(.some 8), (.mv (.c (.lf (.int .i64 0)))), none⟩])
 (.block 0 (.loop (.seq (.reg [⟨(.some 9), (.bin .lss (.t 8) (.t 7)), none⟩])
 (.seq (.cond (.t 9) .skip (.exit 0))
 (.seq (.block 1 (.seq (.reg [⟨(.some 10), (.mv (.t 8)), none⟩, ⟨(.some 5), (.mv (.t 10)), none⟩])
 (.seq (.reg [⟨(.some 11), (.mv (.t 1)), none⟩, ⟨(.some 12), (.mv (.t 0)), none⟩, ⟨(.some 13), (.mv (.t 5)), none⟩, ⟨(.some 14), (.iaddr 1 (.t 12) (.t 13)), none⟩, ⟨(.some 15), (.load false 1 (.t 14)), none⟩, ⟨(.some 16), (.beq false (.t 11) (.t 15)), none⟩])
 (.cond (.t 16) (.seq (.reg [⟨(.some 17), (.mv (.t 5)), none⟩, ⟨(.some 4), (.mv (.t 17)), none⟩])
 .ret) .skip))))
 (.reg [⟨(.some 18), (.bin .add (.t 8) (.c (.lf (.int .i64 1)))), none⟩, ⟨(.some 8), (.mv (.t 18)), none⟩])))))))
 (.seq (.reg [⟨(.some 4), (.mv (.c (.lf (.int .i64 (-1))))), none⟩])
 .ret))), [(.tmp 4)]⟩
class HasHd (S : Sys) : Prop extends HasTk S where
  f164 : S.fs 164 = some L164
  f167 : S.fs 167 = some L167
  f170 : S.fs 170 = some L170
  f194 : S.fs 194 = some L194
  f211 : S.fs 211 = some L211

class HasHt (S : Sys) : Prop extends HasHd S where

def bl (b : Bool) : List Lf := [.bool b]
def soloTo (ts : List Trk) (i : Nat) : Bool := (ts.take i).any (·.solo)
theorem soloTo_succ {ts : List Trk} {i : Nat} (hi : i < ts.length) : soloTo ts (i + 1) = (soloTo ts i || ts[i].solo) := by
  unfold soloTo; rw [List.take_succ_eq_append_getElem hi, List.any_append]; simp
def soloB (ts : List Trk) : Bool := soloTo ts ts.length
def hdB (ts : List Trk) (i : Nat) : Bool := !(ts.getD i ⟨[], 0, 0, false, false⟩).mute && ((ts.getD i ⟨[], 0, 0, false, false⟩).solo || !soloB ts)
theorem hdB_get {ts : List Trk} {i : Nat} (hi : i < ts.length) : hdB ts i = (!ts[i].mute && (ts[i].solo || !soloB ts)) := by unfold hdB; simp [hi]
def hdTo (ts : List Trk) (n : Nat) : List Int := ((List.range n).filter (hdB ts)).map fun j : Nat => (j : Int)
theorem hdTo_succ {ts : List Trk} {n : Nat} : hdTo ts (n + 1) = hdTo ts n ++ (if hdB ts n = true then [(n : Int)] else []) := by
  unfold hdTo
  rw [List.range_succ, List.filter_append, List.map_append]
  congr 1
  cases h : hdB ts n <;> simp [h]
theorem hdTo_len {ts : List Trk} {n : Nat} : (hdTo ts n).length ≤ n := by
  unfold hdTo
  rw [List.length_map]
  have := List.length_filter_le (hdB ts) (List.range n)
  simpa using this
theorem hdTo_il {ts : List Trk} {n : Nat} (h : hdB ts n = true) : (hdTo ts (n + 1)).map il = (hdTo ts n).map il ++ [[.int .i64 n]] := by rw [hdTo_succ, if_pos h, List.map_append]; rfl
theorem hdTo_no {ts : List Trk} {n : Nat} (h : hdB ts n = false) : hdTo ts (n + 1) = hdTo ts n := by rw [hdTo_succ, if_neg (by simp [h]), List.append_nil]
section
variable {S : Sys} {lim : Nat} {h : Hp} {K : CV → Hp → Prop} {l l2 : Lf} {ps : List (Trk × Lf)}
section
variable [HasHd S]
set_option maxHeartbeats 2000000 in
theorem c_l07Heard (hA : Arr h l 5 (ps.map Trk.cells)) (hn : ps.length ≤ 100) (hl : lim ≤ h.length) (hK : ∀ o g, New h g o 2 1 ((hdTo (ps.map (·.1)) ps.length).map il) → K (.lf o) g) : CallT S false 164 [.lf l] h lim K := by
  refine CallT_of_body (F := L164) (HasHd.f164) rfl ?_; unfold L164; dsimp only []
  repeat' (first | (simp (disch := first | omega | assumption | (simp only [List.length_set]; omega) | (simp [*] <;> fail) | assumption) [-Bool.decide_and, -Bool.decide_or, -Bool.not_and, -Bool.not_or, toNat_pred, toNat_succ, wrap64, wr_new, wr_new0, ok_if, ok_ifn, iadV_sl, makeV_int, decT, decF, over_at, *, hA.len]) | (with_reducible refine Gd_split (fun hc => ?_) (fun hc => ?_) <;> (have hc2 := hc; try simp at hc2)) | (with_reducible refine Br_split (fun hc => ?_) (fun hc => ?_) <;> (have hc2 := hc; try simp at hc2)) | (with_reducible refine GdT_split (fun hc => ?_) (fun hc => ?_) <;> (have hc2 := hc; try simp at hc2)) | (with_reducible refine WT_alt ?_ ?_) | omega)
  refine WL_forM 2096664 (by decide +kernel) (ps.length) (fun i b g => i ≤ ps.length ∧ b 9 = .lf (.int .i64 i) ∧ b 3 = .lf (.bool (soloTo (ps.map (·.1)) i)) ∧ h = g) (fun _ _ _ hi => hi.1) ⟨by omega, by simp, by simp [soloTo], rfl⟩ ?_
  rintro i b g ⟨hi, e9, e3, rfl⟩
  by_cases hlt : i < ps.length
  · have hs := soloTo_succ (ts := ps.map (·.1)) (i := i) (by simpa using hlt)
    rw [List.getElem_map] at hs
    generalize soloTo (ps.map (·.1)) i = so at *
    have hsH : Hid (soloTo (ps.map (·.1)) (i + 1) = (so || ps[i].1.solo)) := hs
    clear hK hs
    cases so
    · repeat' (first | (simp (disch := first | omega | assumption | (simp only [List.length_set]; omega) | (simp [*] <;> fail) | assumption) [-Bool.decide_and, -Bool.decide_or, -Bool.not_and, -Bool.not_or, toNat_pred, toNat_succ, wrap64, wr_new, wr_new0, ok_if, ok_ifn, iadV_sl, makeV_int, decT, decF, over_at, *, hA.len, hA.at_, hA.at_', hA.rd, hA.rdIn, hA.rdIn0, hA.rdA, hA.rdInA, hA.rdIn0A, Trk.cells]) | (with_reducible refine Gd_split (fun hc => ?_) (fun hc => ?_) <;> (have hc2 := hc; try simp at hc2)) | (with_reducible refine Br_split (fun hc => ?_) (fun hc => ?_) <;> (have hc2 := hc; try simp at hc2)) | (with_reducible refine GdT_split (fun hc => ?_) (fun hc => ?_) <;> (have hc2 := hc; try simp at hc2)) | (with_reducible refine WT_alt ?_ ?_) | omega)
      exact ⟨hlt, by rw [show soloTo (ps.map (·.1)) (i + 1) = _ from hsH]; rfl⟩
    · repeat' (first | (simp (disch := first | omega | assumption | (simp only [List.length_set]; omega) | (simp [*] <;> fail) | assumption) [-Bool.decide_and, -Bool.decide_or, -Bool.not_and, -Bool.not_or, toNat_pred, toNat_succ, wrap64, wr_new, wr_new0, ok_if, ok_ifn, iadV_sl, makeV_int, decT, decF, over_at, *, hA.len, hA.at_, hA.at_', hA.rd, hA.rdIn, hA.rdIn0, hA.rdA, hA.rdInA, hA.rdIn0A, Trk.cells]) | (with_reducible refine Gd_split (fun hc => ?_) (fun hc => ?_) <;> (have hc2 := hc; try simp at hc2)) | (with_reducible refine Br_split (fun hc => ?_) (fun hc => ?_) <;> (have hc2 := hc; try simp at hc2)) | (with_reducible refine GdT_split (fun hc => ?_) (fun hc => ?_) <;> (have hc2 := hc; try simp at hc2)) | (with_reducible refine WT_alt ?_ ?_) | omega)
      exact ⟨hlt, by rw [show soloTo (ps.map (·.1)) (i + 1) = _ from hsH]; rfl⟩
  · have : i = ps.length := by omega
    subst this
    have hso : soloTo (ps.map (·.1)) ps.length = soloB (ps.map (·.1)) := by unfold soloB; rw [List.length_map]
    rw [hso] at e3
    clear hso
    repeat' (first | (simp (disch := first | omega | assumption | (simp only [List.length_set]; omega) | (simp [*] <;> fail) | assumption) [-Bool.decide_and, -Bool.decide_or, -Bool.not_and, -Bool.not_or, toNat_pred, toNat_succ, wrap64, wr_new, wr_new0, ok_if, ok_ifn, iadV_sl, makeV_int, decT, decF, over_at, *, hA.len, leavesAll, fillL]) | (with_reducible refine Gd_split (fun hc => ?_) (fun hc => ?_) <;> (have hc2 := hc; try simp at hc2)) | (with_reducible refine Br_split (fun hc => ?_) (fun hc => ?_) <;> (have hc2 := hc; try simp at hc2)) | (with_reducible refine GdT_split (fun hc => ?_) (fun hc => ?_) <;> (have hc2 := hc; try simp at hc2)) | (with_reducible refine WT_alt ?_ ?_) | omega)
    refine WL_forM 562949936644192 (by decide +kernel) (ps.length) (fun i b g => i ≤ ps.length ∧ b 24 = .lf (.int .i64 i) ∧ ∃ o, b 5 = .lf o ∧ New h g o 2 1 ((hdTo (ps.map (·.1)) i).map il)) (fun _ _ _ hi => hi.1) ⟨by omega, by simp, .sl h.length 0 0 1, by simp, by simpa [hdTo] using New.lit0 (h := h)⟩ ?_
    rintro i b2 g ⟨hi, e24, o, e5, hN⟩
    have hA1 := hA.kept hN.kept
    have hol := hdTo_len (ts := ps.map (·.1)) (n := i)
    by_cases hlt : i < ps.length
    · have hg := hdB_get (ts := ps.map (·.1)) (i := i) (by simpa using hlt)
      rw [List.getElem_map] at hg
      clear hK
      generalize soloB (ps.map (·.1)) = so at *
      cases hb : hdB (ps.map (·.1)) i
      · have hn2 := hdTo_no hb
        rw [hb] at hg
        have hN2 : New h g o 2 1 ((hdTo (ps.map (·.1)) (i + 1)).map il) := by rw [hn2]; exact hN
        have hgH : Hid (false = (!ps[i].1.mute && (ps[i].1.solo || !so))) := hg
        clear hN hn2 hg
        cases hm : ps[i].1.mute
        · cases hs : ps[i].1.solo
          · cases so
            · have q : false = (!ps[i].1.mute && (ps[i].1.solo || !false)) := hgH
              rw [hm, hs] at q; cases q
            · clear hgH
              repeat' (first | (simp (disch := first | omega | assumption | (simp only [List.length_set]; omega) | (simp [*] <;> fail) | assumption) [-Bool.decide_and, -Bool.decide_or, -Bool.not_and, -Bool.not_or, toNat_pred, toNat_succ, wrap64, wr_new, wr_new0, ok_if, ok_ifn, iadV_sl, makeV_int, decT, decF, over_at, *, hA1.len, hA1.at_, hA1.at_', hA1.rd, hA1.rdIn, hA1.rdIn0, hA1.rdA, hA1.rdInA, hA1.rdIn0A, Trk.cells]) | (with_reducible refine Gd_split (fun hc => ?_) (fun hc => ?_) <;> (have hc2 := hc; try simp at hc2)) | (with_reducible refine Br_split (fun hc => ?_) (fun hc => ?_) <;> (have hc2 := hc; try simp at hc2)) | (with_reducible refine GdT_split (fun hc => ?_) (fun hc => ?_) <;> (have hc2 := hc; try simp at hc2)) | (with_reducible refine WT_alt ?_ ?_) | omega)
          · have q : false = (!ps[i].1.mute && (ps[i].1.solo || !so)) := hgH
            rw [hm, hs] at q; cases so <;> cases q
        · clear hgH
          repeat' (first | (simp (disch := first | omega | assumption | (simp only [List.length_set]; omega) | (simp [*] <;> fail) | assumption) [-Bool.decide_and, -Bool.decide_or, -Bool.not_and, -Bool.not_or, toNat_pred, toNat_succ, wrap64, wr_new, wr_new0, ok_if, ok_ifn, iadV_sl, makeV_int, decT, decF, over_at, *, hA1.len, hA1.at_, hA1.at_', hA1.rd, hA1.rdIn, hA1.rdIn0, hA1.rdA, hA1.rdInA, hA1.rdIn0A, Trk.cells]) | (with_reducible refine Gd_split (fun hc => ?_) (fun hc => ?_) <;> (have hc2 := hc; try simp at hc2)) | (with_reducible refine Br_split (fun hc => ?_) (fun hc => ?_) <;> (have hc2 := hc; try simp at hc2)) | (with_reducible refine GdT_split (fun hc => ?_) (fun hc => ?_) <;> (have hc2 := hc; try simp at hc2)) | (with_reducible refine WT_alt ?_ ?_) | omega)
      · have hn2 := hdTo_il hb
        rw [hb] at hg
        have hgH : Hid (true = (!ps[i].1.mute && (ps[i].1.solo || !so))) := hg
        have hnH : Hid ((hdTo (ps.map (·.1)) (i + 1)).map il = (hdTo (ps.map (·.1)) i).map il ++ [[.int .i64 i]]) := hn2
        clear hg hn2
        cases hm : ps[i].1.mute
        · cases hs : ps[i].1.solo
          · cases so
            · clear hgH
              repeat' (first | (simp (disch := first | omega | assumption | (simp only [List.length_set]; omega) | (simp [*] <;> fail) | assumption) [-Bool.decide_and, -Bool.decide_or, -Bool.not_and, -Bool.not_or, toNat_pred, toNat_succ, wrap64, wr_new, wr_new0, ok_if, ok_ifn, iadV_sl, makeV_int, decT, decF, over_at, *, hA1.len, hA1.at_, hA1.at_', hA1.rd, hA1.rdIn, hA1.rdIn0, hA1.rdA, hA1.rdInA, hA1.rdIn0A, Trk.cells, leavesAll, fillL]) | (with_reducible refine Gd_split (fun hc => ?_) (fun hc => ?_) <;> (have hc2 := hc; try simp at hc2)) | (with_reducible refine Br_split (fun hc => ?_) (fun hc => ?_) <;> (have hc2 := hc; try simp at hc2)) | (with_reducible refine GdT_split (fun hc => ?_) (fun hc => ?_) <;> (have hc2 := hc; try simp at hc2)) | (with_reducible refine WT_alt ?_ ?_) | omega)
              refine oc_push (bytes := 8) (r := [.int .i64 i]) hN ?_ ?_ ?_ (by decide) rfl (by decide)
              · exact hl
              · simp; omega
              intro o2 g5 hN5 hB5
              repeat' (first | (simp (disch := first | omega | assumption | (simp only [List.length_set]; omega) | (simp [*] <;> fail) | assumption) [-Bool.decide_and, -Bool.decide_or, -Bool.not_and, -Bool.not_or, toNat_pred, toNat_succ, wrap64, wr_new, wr_new0, ok_if, ok_ifn, iadV_sl, makeV_int, decT, decF, over_at, *]) | (with_reducible refine Gd_split (fun hc => ?_) (fun hc => ?_) <;> (have hc2 := hc; try simp at hc2)) | (with_reducible refine Br_split (fun hc => ?_) (fun hc => ?_) <;> (have hc2 := hc; try simp at hc2)) | (with_reducible refine GdT_split (fun hc => ?_) (fun hc => ?_) <;> (have hc2 := hc; try simp at hc2)) | (with_reducible refine WT_alt ?_ ?_) | omega)
              exact ⟨hlt, by rw [show (hdTo (ps.map (·.1)) (i + 1)).map il = _ from hnH]; exact hN5⟩
            · have q : true = (!ps[i].1.mute && (ps[i].1.solo || !true)) := hgH
              rw [hm, hs] at q; cases q
          · clear hgH
            repeat' (first | (simp (disch := first | omega | assumption | (simp only [List.length_set]; omega) | (simp [*] <;> fail) | assumption) [-Bool.decide_and, -Bool.decide_or, -Bool.not_and, -Bool.not_or, toNat_pred, toNat_succ, wrap64, wr_new, wr_new0, ok_if, ok_ifn, iadV_sl, makeV_int, decT, decF, over_at, *, hA1.len, hA1.at_, hA1.at_', hA1.rd, hA1.rdIn, hA1.rdIn0, hA1.rdA, hA1.rdInA, hA1.rdIn0A, Trk.cells, leavesAll, fillL]) | (with_reducible refine Gd_split (fun hc => ?_) (fun hc => ?_) <;> (have hc2 := hc; try simp at hc2)) | (with_reducible refine Br_split (fun hc => ?_) (fun hc => ?_) <;> (have hc2 := hc; try simp at hc2)) | (with_reducible refine GdT_split (fun hc => ?_) (fun hc => ?_) <;> (have hc2 := hc; try simp at hc2)) | (with_reducible refine WT_alt ?_ ?_) | omega)
            refine oc_push (bytes := 8) (r := [.int .i64 i]) hN ?_ ?_ ?_ (by decide) rfl (by decide)
            · exact hl
            · simp; omega
            intro o2 g5 hN5 hB5
            repeat' (first | (simp (disch := first | omega | assumption | (simp only [List.length_set]; omega) | (simp [*] <;> fail) | assumption) [-Bool.decide_and, -Bool.decide_or, -Bool.not_and, -Bool.not_or, toNat_pred, toNat_succ, wrap64, wr_new, wr_new0, ok_if, ok_ifn, iadV_sl, makeV_int, decT, decF, over_at, *]) | (with_reducible refine Gd_split (fun hc => ?_) (fun hc => ?_) <;> (have hc2 := hc; try simp at hc2)) | (with_reducible refine Br_split (fun hc => ?_) (fun hc => ?_) <;> (have hc2 := hc; try simp at hc2)) | (with_reducible refine GdT_split (fun hc => ?_) (fun hc => ?_) <;> (have hc2 := hc; try simp at hc2)) | (with_reducible refine WT_alt ?_ ?_) | omega)
            exact ⟨hlt, by rw [show (hdTo (ps.map (·.1)) (i + 1)).map il = _ from hnH]; exact hN5⟩
        · have q : true = (!ps[i].1.mute && (ps[i].1.solo || !so)) := hgH
          rw [hm] at q; cases q
    · have : i = ps.length := by omega
      subst this
      repeat' (first | (simp (disch := first | omega | assumption | (simp only [List.length_set]; omega) | (simp [*] <;> fail) | assumption) [-Bool.decide_and, -Bool.decide_or, -Bool.not_and, -Bool.not_or, toNat_pred, toNat_succ, wrap64, wr_new, wr_new0, ok_if, ok_ifn, iadV_sl, makeV_int, decT, decF, over_at, *]) | (with_reducible refine Gd_split (fun hc => ?_) (fun hc => ?_) <;> (have hc2 := hc; try simp at hc2)) | (with_reducible refine Br_split (fun hc => ?_) (fun hc => ?_) <;> (have hc2 := hc; try simp at hc2)) | (with_reducible refine GdT_split (fun hc => ?_) (fun hc => ?_) <;> (have hc2 := hc; try simp at hc2)) | (with_reducible refine WT_alt ?_ ?_) | omega)
      all_goals exact hK _ _ hN
/-- The first that is true. -/
theorem c_Contains {bs : List Bool} (hA : Arr h l 1 (bs.map bl)) : CallT S true 194 [.lf l, .lf (.bool true)] h lim K = K (.lf (.bool (bs.any id))) h := by
  have hb := hA.bound
  by_cases hany : bs.any id = true
  · obtain ⟨j, hj⟩ : ∃ j : Nat, ∀ h lim K, Arr h l 1 (bs.map bl) → CallT S true 211 [.lf l, .lf (.bool true)] h lim K = K (.lf (.int .i64 j)) h := by
      obtain ⟨j, hjl, hjt, hjf⟩ : ∃ j, ∃ hjl : j < bs.length, bs[j] = true ∧ ∀ i (hi : i < j), bs[i]'(by omega) = false := by
        clear hA hb
        induction bs with
        | nil => simp at hany
        | cons b r ih =>
          cases b
          · obtain ⟨j, h1, h2, h3⟩ := ih (by simpa using hany)
            refine ⟨j + 1, by simpa using h1, by simpa using h2, fun i hi => ?_⟩
            cases i with
            | zero => rfl
            | succ i => simpa using h3 i (by omega)
          · exact ⟨0, by simp, rfl, fun i hi => by omega⟩
      refine ⟨j, fun h lim K hA => ?_⟩
      refine CallT_pure (F := L211) (HasHd.f211) rfl (by first | rfl | (split <;> rfl) | simp) ?_; unfold L211; dsimp only []
      repeat' (first | (simp (disch := first | omega | assumption | (simp only [List.length_set]; omega) | (simp [*] <;> fail) | assumption) [-Bool.decide_and, -Bool.decide_or, -Bool.not_and, -Bool.not_or, toNat_pred, toNat_succ, wrap64, wr_new, wr_new0, ok_if, ok_ifn, iadV_sl, makeV_int, decT, decF, over_at, *, hA.len]) | (with_reducible refine Gd_split (fun hc => ?_) (fun hc => ?_) <;> (have hc2 := hc; try simp at hc2)) | (with_reducible refine Br_split (fun hc => ?_) (fun hc => ?_) <;> (have hc2 := hc; try simp at hc2)) | (with_reducible refine GdT_split (fun hc => ?_) (fun hc => ?_) <;> (have hc2 := hc; try simp at hc2)) | (with_reducible refine WT_alt ?_ ?_) | omega)
      refine WL_forM 524080 (by decide +kernel) (j) (fun i b g => i ≤ j ∧ b 8 = .lf (.int .i64 i) ∧ h = g) (fun _ _ _ hi => hi.1) ⟨by omega, by simp, rfl⟩ ?_
      rintro i b g ⟨hi, e8, rfl⟩
      have hi2 : i < bs.length := by omega
      by_cases hij : i < j
      · have hx := hjf i hij
        repeat' (first | (simp (disch := first | omega | assumption | (simp only [List.length_set]; omega) | (simp [*] <;> fail) | assumption) [-Bool.decide_and, -Bool.decide_or, -Bool.not_and, -Bool.not_or, toNat_pred, toNat_succ, wrap64, wr_new, wr_new0, ok_if, ok_ifn, iadV_sl, makeV_int, decT, decF, over_at, *, hA.len, hA.at_, hA.at_', hA.rd, hA.rdIn, hA.rdIn0, hA.rdA, hA.rdInA, hA.rdIn0A, hA.rd1, bl]) | (with_reducible refine Gd_split (fun hc => ?_) (fun hc => ?_) <;> (have hc2 := hc; try simp at hc2)) | (with_reducible refine Br_split (fun hc => ?_) (fun hc => ?_) <;> (have hc2 := hc; try simp at hc2)) | (with_reducible refine GdT_split (fun hc => ?_) (fun hc => ?_) <;> (have hc2 := hc; try simp at hc2)) | (with_reducible refine WT_alt ?_ ?_) | omega)
      · have : i = j := by omega
        subst this
        repeat' (first | (simp (disch := first | omega | assumption | (simp only [List.length_set]; omega) | (simp [*] <;> fail) | assumption) [-Bool.decide_and, -Bool.decide_or, -Bool.not_and, -Bool.not_or, toNat_pred, toNat_succ, wrap64, wr_new, wr_new0, ok_if, ok_ifn, iadV_sl, makeV_int, decT, decF, over_at, *, hA.len, hA.at_, hA.at_', hA.rd, hA.rdIn, hA.rdIn0, hA.rdA, hA.rdInA, hA.rdIn0A, hA.rd1, bl]) | (with_reducible refine Gd_split (fun hc => ?_) (fun hc => ?_) <;> (have hc2 := hc; try simp at hc2)) | (with_reducible refine Br_split (fun hc => ?_) (fun hc => ?_) <;> (have hc2 := hc; try simp at hc2)) | (with_reducible refine GdT_split (fun hc => ?_) (fun hc => ?_) <;> (have hc2 := hc; try simp at hc2)) | (with_reducible refine WT_alt ?_ ?_) | omega)
    have hj2 := hj h h.length
    rw [hany]
    refine CallT_pure (F := L194) (HasHd.f194) rfl (by first | rfl | (split <;> rfl) | simp) ?_; unfold L194; dsimp only []
    repeat' (first | (simp (disch := first | omega | assumption | (simp only [List.length_set]; omega) | (simp [*] <;> fail) | assumption) [-Bool.decide_and, -Bool.decide_or, -Bool.not_and, -Bool.not_or, toNat_pred, toNat_succ, wrap64, wr_new, wr_new0, ok_if, ok_ifn, iadV_sl, makeV_int, decT, decF, over_at, *, hj _ _ _ hA]) | (with_reducible refine Gd_split (fun hc => ?_) (fun hc => ?_) <;> (have hc2 := hc; try simp at hc2)) | (with_reducible refine Br_split (fun hc => ?_) (fun hc => ?_) <;> (have hc2 := hc; try simp at hc2)) | (with_reducible refine GdT_split (fun hc => ?_) (fun hc => ?_) <;> (have hc2 := hc; try simp at hc2)) | (with_reducible refine WT_alt ?_ ?_) | omega)
  · have hall : ∀ i (hi : i < bs.length), bs[i] = false := fun i hi => by
      cases hbi : bs[i]
      · rfl
      · exact absurd (List.any_eq_true.2 ⟨bs[i], List.getElem_mem hi, hbi⟩) hany
    have hf : bs.any id = false := by simpa using hany
    have hi : ∀ lim K, CallT S true 211 [.lf l, .lf (.bool true)] h lim K = K (.lf (.int .i64 (-1))) h := by
      intro lim K
      refine CallT_pure (F := L211) (HasHd.f211) rfl (by first | rfl | (split <;> rfl) | simp) ?_; unfold L211; dsimp only []
      repeat' (first | (simp (disch := first | omega | assumption | (simp only [List.length_set]; omega) | (simp [*] <;> fail) | assumption) [-Bool.decide_and, -Bool.decide_or, -Bool.not_and, -Bool.not_or, toNat_pred, toNat_succ, wrap64, wr_new, wr_new0, ok_if, ok_ifn, iadV_sl, makeV_int, decT, decF, over_at, *, hA.len]) | (with_reducible refine Gd_split (fun hc => ?_) (fun hc => ?_) <;> (have hc2 := hc; try simp at hc2)) | (with_reducible refine Br_split (fun hc => ?_) (fun hc => ?_) <;> (have hc2 := hc; try simp at hc2)) | (with_reducible refine GdT_split (fun hc => ?_) (fun hc => ?_) <;> (have hc2 := hc; try simp at hc2)) | (with_reducible refine WT_alt ?_ ?_) | omega)
      refine WL_forM 524080 (by decide +kernel) (bs.length) (fun i b g => i ≤ bs.length ∧ b 8 = .lf (.int .i64 i) ∧ h = g) (fun _ _ _ hi => hi.1) ⟨by omega, by simp, rfl⟩ ?_
      rintro i b g ⟨hi, e8, rfl⟩
      by_cases hlt : i < bs.length
      · have hx := hall i hlt
        repeat' (first | (simp (disch := first | omega | assumption | (simp only [List.length_set]; omega) | (simp [*] <;> fail) | assumption) [-Bool.decide_and, -Bool.decide_or, -Bool.not_and, -Bool.not_or, toNat_pred, toNat_succ, wrap64, wr_new, wr_new0, ok_if, ok_ifn, iadV_sl, makeV_int, decT, decF, over_at, *, hA.len, hA.at_, hA.at_', hA.rd, hA.rdIn, hA.rdIn0, hA.rdA, hA.rdInA, hA.rdIn0A, hA.rd1, bl]) | (with_reducible refine Gd_split (fun hc => ?_) (fun hc => ?_) <;> (have hc2 := hc; try simp at hc2)) | (with_reducible refine Br_split (fun hc => ?_) (fun hc => ?_) <;> (have hc2 := hc; try simp at hc2)) | (with_reducible refine GdT_split (fun hc => ?_) (fun hc => ?_) <;> (have hc2 := hc; try simp at hc2)) | (with_reducible refine WT_alt ?_ ?_) | omega)
      · have : i = bs.length := by omega
        subst this
        repeat' (first | (simp (disch := first | omega | assumption | (simp only [List.length_set]; omega) | (simp [*] <;> fail) | assumption) [-Bool.decide_and, -Bool.decide_or, -Bool.not_and, -Bool.not_or, toNat_pred, toNat_succ, wrap64, wr_new, wr_new0, ok_if, ok_ifn, iadV_sl, makeV_int, decT, decF, over_at, *, hA.len, hA.at_, hA.at_', hA.rd, hA.rdIn, hA.rdIn0, hA.rdA, hA.rdInA, hA.rdIn0A]) | (with_reducible refine Gd_split (fun hc => ?_) (fun hc => ?_) <;> (have hc2 := hc; try simp at hc2)) | (with_reducible refine Br_split (fun hc => ?_) (fun hc => ?_) <;> (have hc2 := hc; try simp at hc2)) | (with_reducible refine GdT_split (fun hc => ?_) (fun hc => ?_) <;> (have hc2 := hc; try simp at hc2)) | (with_reducible refine WT_alt ?_ ?_) | omega)
    rw [hf]
    refine CallT_pure (F := L194) (HasHd.f194) rfl (by first | rfl | (split <;> rfl) | simp) ?_; unfold L194; dsimp only []
    repeat' (first | (simp (disch := first | omega | assumption | (simp only [List.length_set]; omega) | (simp [*] <;> fail) | assumption) [-Bool.decide_and, -Bool.decide_or, -Bool.not_and, -Bool.not_or, toNat_pred, toNat_succ, wrap64, wr_new, wr_new0, ok_if, ok_ifn, iadV_sl, makeV_int, decT, decF, over_at, *]) | (with_reducible refine Gd_split (fun hc => ?_) (fun hc => ?_) <;> (have hc2 := hc; try simp at hc2)) | (with_reducible refine Br_split (fun hc => ?_) (fun hc => ?_) <;> (have hc2 := hc; try simp at hc2)) | (with_reducible refine GdT_split (fun hc => ?_) (fun hc => ?_) <;> (have hc2 := hc; try simp at hc2)) | (with_reducible refine WT_alt ?_ ?_) | omega)
def hbF (ms ss : List Bool) (i : Nat) : Bool := !(ms.getD i false) && ((ss.getD i false) || !(ss.any id))
theorem tab_bl {f : Nat → Bool} {n : Nat} : (tabTo f (n + 1)).map bl = (tabTo f n).map bl ++ [[.bool (f n)]] := by rw [tabTo_succ, List.map_append]; rfl
set_option maxHeartbeats 2000000 in
theorem c_heard {ms ss : List Bool} (hA : Arr h l 1 (ms.map bl)) (hB : Arr h l2 1 (ss.map bl)) (hlen : ss.length = ms.length) (hn : ms.length ≤ 100) (hl : lim ≤ h.length) (hK : ∀ o g, New h g o 4 1 ((tabTo (hbF ms ss) ms.length).map bl) → K (.lf o) g) : CallT S false 170 [.lf l, .lf l2] h lim K := by
  refine CallT_of_body (F := L170) (HasHd.f170) rfl ?_; unfold L170; dsimp only []
  repeat' (first | (simp (disch := first | omega | assumption | (simp only [List.length_set]; omega) | (simp [*] <;> fail) | assumption) [-Bool.decide_and, -Bool.decide_or, -Bool.not_and, -Bool.not_or, toNat_pred, toNat_succ, wrap64, wr_new, wr_new0, ok_if, ok_ifn, iadV_sl, makeV_int, decT, decF, over_at, *, c_Contains hB, hA.len]) | (with_reducible refine Gd_split (fun hc => ?_) (fun hc => ?_) <;> (have hc2 := hc; try simp at hc2)) | (with_reducible refine Br_split (fun hc => ?_) (fun hc => ?_) <;> (have hc2 := hc; try simp at hc2)) | (with_reducible refine GdT_split (fun hc => ?_) (fun hc => ?_) <;> (have hc2 := hc; try simp at hc2)) | (with_reducible refine WT_alt ?_ ?_) | omega)
  refine WL_forM 17179861440 (by decide +kernel) (ms.length) (fun i b g => i ≤ ms.length ∧ b 13 = .lf (.int .i64 i) ∧ ∃ o, b 6 = .lf o ∧ New h g o 4 1 ((tabTo (hbF ms ss) i).map bl)) (fun _ _ _ hi => hi.1) ⟨by omega, by simp, .nils, by simp, New.nil (Kept.refl h)⟩ ?_
  rintro i b g ⟨hi, e13, o, e6, hN⟩
  have hA1 := hA.kept hN.kept
  have hB1 := hB.kept hN.kept
  have hol := tabTo_len (f := hbF ms ss) (n := i)
  by_cases hlt : i < ms.length
  · have hlt2 : i < ss.length := by omega
    have hg : hbF ms ss i = (!ms[i] && (ss[i] || !(ss.any id))) := by unfold hbF; simp [hlt, hlt2]
    have hs := tab_bl (f := hbF ms ss) (n := i)
    rw [hg] at hs
    clear hK hg
    generalize ss.any id = so at *
    have hsH : Hid ((tabTo (hbF ms ss) (i + 1)).map bl = (tabTo (hbF ms ss) i).map bl ++ [[.bool (!ms[i] && (ss[i] || !so))]]) := hs
    clear hs
    cases hm : ms[i]
    · cases hs : ss[i]
      · repeat' (first | (simp (disch := first | omega | assumption | (simp only [List.length_set]; omega) | (simp [*] <;> fail) | assumption) [-Bool.decide_and, -Bool.decide_or, -Bool.not_and, -Bool.not_or, toNat_pred, toNat_succ, wrap64, wr_new, wr_new0, ok_if, ok_ifn, iadV_sl, makeV_int, decT, decF, over_at, *, hA1.len, hA1.at_, hA1.at_', hA1.rd, hA1.rdIn, hA1.rdIn0, hA1.rdA, hA1.rdInA, hA1.rdIn0A, hA1.rd1, hB1.len, hB1.at_, hB1.at_', hB1.rd, hB1.rdIn, hB1.rdIn0, hB1.rdA, hB1.rdInA, hB1.rdIn0A, hB1.rd1, bl, leavesAll, fillL]) | (with_reducible refine Gd_split (fun hc => ?_) (fun hc => ?_) <;> (have hc2 := hc; try simp at hc2)) | (with_reducible refine Br_split (fun hc => ?_) (fun hc => ?_) <;> (have hc2 := hc; try simp at hc2)) | (with_reducible refine GdT_split (fun hc => ?_) (fun hc => ?_) <;> (have hc2 := hc; try simp at hc2)) | (with_reducible refine WT_alt ?_ ?_) | omega)
        refine oc_push (bytes := 1) (r := [.bool (!so)]) hN ?_ ?_ ?_ (by decide) rfl (by decide)
        · exact hl
        · simp; omega
        intro o2 g5 hN5 hB5
        repeat' (first | (simp (disch := first | omega | assumption | (simp only [List.length_set]; omega) | (simp [*] <;> fail) | assumption) [-Bool.decide_and, -Bool.decide_or, -Bool.not_and, -Bool.not_or, toNat_pred, toNat_succ, wrap64, wr_new, wr_new0, ok_if, ok_ifn, iadV_sl, makeV_int, decT, decF, over_at, *]) | (with_reducible refine Gd_split (fun hc => ?_) (fun hc => ?_) <;> (have hc2 := hc; try simp at hc2)) | (with_reducible refine Br_split (fun hc => ?_) (fun hc => ?_) <;> (have hc2 := hc; try simp at hc2)) | (with_reducible refine GdT_split (fun hc => ?_) (fun hc => ?_) <;> (have hc2 := hc; try simp at hc2)) | (with_reducible refine WT_alt ?_ ?_) | omega)
        exact ⟨hlt, by rw [show (tabTo (hbF ms ss) (i + 1)).map bl = _ from hsH, hm, hs]; simpa using hN5⟩
      · repeat' (first | (simp (disch := first | omega | assumption | (simp only [List.length_set]; omega) | (simp [*] <;> fail) | assumption) [-Bool.decide_and, -Bool.decide_or, -Bool.not_and, -Bool.not_or, toNat_pred, toNat_succ, wrap64, wr_new, wr_new0, ok_if, ok_ifn, iadV_sl, makeV_int, decT, decF, over_at, *, hA1.len, hA1.at_, hA1.at_', hA1.rd, hA1.rdIn, hA1.rdIn0, hA1.rdA, hA1.rdInA, hA1.rdIn0A, hA1.rd1, hB1.len, hB1.at_, hB1.at_', hB1.rd, hB1.rdIn, hB1.rdIn0, hB1.rdA, hB1.rdInA, hB1.rdIn0A, hB1.rd1, bl, leavesAll, fillL]) | (with_reducible refine Gd_split (fun hc => ?_) (fun hc => ?_) <;> (have hc2 := hc; try simp at hc2)) | (with_reducible refine Br_split (fun hc => ?_) (fun hc => ?_) <;> (have hc2 := hc; try simp at hc2)) | (with_reducible refine GdT_split (fun hc => ?_) (fun hc => ?_) <;> (have hc2 := hc; try simp at hc2)) | (with_reducible refine WT_alt ?_ ?_) | omega)
        refine oc_push (bytes := 1) (r := [.bool true]) hN ?_ ?_ ?_ (by decide) rfl (by decide)
        · exact hl
        · simp; omega
        intro o2 g5 hN5 hB5
        repeat' (first | (simp (disch := first | omega | assumption | (simp only [List.length_set]; omega) | (simp [*] <;> fail) | assumption) [-Bool.decide_and, -Bool.decide_or, -Bool.not_and, -Bool.not_or, toNat_pred, toNat_succ, wrap64, wr_new, wr_new0, ok_if, ok_ifn, iadV_sl, makeV_int, decT, decF, over_at, *]) | (with_reducible refine Gd_split (fun hc => ?_) (fun hc => ?_) <;> (have hc2 := hc; try simp at hc2)) | (with_reducible refine Br_split (fun hc => ?_) (fun hc => ?_) <;> (have hc2 := hc; try simp at hc2)) | (with_reducible refine GdT_split (fun hc => ?_) (fun hc => ?_) <;> (have hc2 := hc; try simp at hc2)) | (with_reducible refine WT_alt ?_ ?_) | omega)
        exact ⟨hlt, by rw [show (tabTo (hbF ms ss) (i + 1)).map bl = _ from hsH, hm, hs]; simpa using hN5⟩
    · repeat' (first | (simp (disch := first | omega | assumption | (simp only [List.length_set]; omega) | (simp [*] <;> fail) | assumption) [-Bool.decide_and, -Bool.decide_or, -Bool.not_and, -Bool.not_or, toNat_pred, toNat_succ, wrap64, wr_new, wr_new0, ok_if, ok_ifn, iadV_sl, makeV_int, decT, decF, over_at, *, hA1.len, hA1.at_, hA1.at_', hA1.rd, hA1.rdIn, hA1.rdIn0, hA1.rdA, hA1.rdInA, hA1.rdIn0A, hA1.rd1, hB1.len, hB1.at_, hB1.at_', hB1.rd, hB1.rdIn, hB1.rdIn0, hB1.rdA, hB1.rdInA, hB1.rdIn0A, hB1.rd1, bl, leavesAll, fillL]) | (with_reducible refine Gd_split (fun hc => ?_) (fun hc => ?_) <;> (have hc2 := hc; try simp at hc2)) | (with_reducible refine Br_split (fun hc => ?_) (fun hc => ?_) <;> (have hc2 := hc; try simp at hc2)) | (with_reducible refine GdT_split (fun hc => ?_) (fun hc => ?_) <;> (have hc2 := hc; try simp at hc2)) | (with_reducible refine WT_alt ?_ ?_) | omega)
      refine oc_push (bytes := 1) (r := [.bool false]) hN ?_ ?_ ?_ (by decide) rfl (by decide)
      · exact hl
      · simp; omega
      intro o2 g5 hN5 hB5
      repeat' (first | (simp (disch := first | omega | assumption | (simp only [List.length_set]; omega) | (simp [*] <;> fail) | assumption) [-Bool.decide_and, -Bool.decide_or, -Bool.not_and, -Bool.not_or, toNat_pred, toNat_succ, wrap64, wr_new, wr_new0, ok_if, ok_ifn, iadV_sl, makeV_int, decT, decF, over_at, *]) | (with_reducible refine Gd_split (fun hc => ?_) (fun hc => ?_) <;> (have hc2 := hc; try simp at hc2)) | (with_reducible refine Br_split (fun hc => ?_) (fun hc => ?_) <;> (have hc2 := hc; try simp at hc2)) | (with_reducible refine GdT_split (fun hc => ?_) (fun hc => ?_) <;> (have hc2 := hc; try simp at hc2)) | (with_reducible refine WT_alt ?_ ?_) | omega)
      exact ⟨hlt, by rw [show (tabTo (hbF ms ss) (i + 1)).map bl = _ from hsH, hm]; simpa using hN5⟩
  · have : i = ms.length := by omega
    subst this
    repeat' (first | (simp (disch := first | omega | assumption | (simp only [List.length_set]; omega) | (simp [*] <;> fail) | assumption) [-Bool.decide_and, -Bool.decide_or, -Bool.not_and, -Bool.not_or, toNat_pred, toNat_succ, wrap64, wr_new, wr_new0, ok_if, ok_ifn, iadV_sl, makeV_int, decT, decF, over_at, *]) | (with_reducible refine Gd_split (fun hc => ?_) (fun hc => ?_) <;> (have hc2 := hc; try simp at hc2)) | (with_reducible refine Br_split (fun hc => ?_) (fun hc => ?_) <;> (have hc2 := hc; try simp at hc2)) | (with_reducible refine GdT_split (fun hc => ?_) (fun hc => ?_) <;> (have hc2 := hc; try simp at hc2)) | (with_reducible refine WT_alt ?_ ?_) | omega)
    all_goals exact hK _ _ hN
def muteN (ts : List Trk) (i : Nat) : Bool := (ts.getD i ⟨[], 0, 0, false, false⟩).mute
def soloN (ts : List Trk) (i : Nat) : Bool := (ts.getD i ⟨[], 0, 0, false, false⟩).solo
theorem any_tab {ts : List Trk} : ∀ {n : Nat}, n ≤ ts.length → (tabTo (soloN ts) n).any id = soloTo ts n
  | 0, _ => rfl
  | n + 1, hn => by
    have hlt : n < ts.length := by omega
    rw [tabTo_succ, List.any_append, any_tab (by omega), soloTo_succ hlt]
    simp [soloN, hlt]
theorem hb_hd {ts : List Trk} : tabTo (hbF (tabTo (muteN ts) ts.length) (tabTo (soloN ts) ts.length)) ts.length = tabTo (hdB ts) ts.length := by
  unfold tabTo
  apply List.map_congr_left
  intro i hi
  have hlt : i < ts.length := by simpa using hi
  have ha := any_tab (ts := ts) (Nat.le_refl _)
  unfold hbF hdB soloB
  rw [show (List.range ts.length).map (soloN ts) = tabTo (soloN ts) ts.length from rfl, ha]
  simp [tabTo, muteN, soloN, hlt]
set_option maxHeartbeats 4000000 in
theorem c_heardTracks (hA : Arr h l 5 (ps.map Trk.cells)) (hn : ps.length ≤ 100) (hl : lim ≤ h.length) (hK : ∀ o g, New h g o 4 1 ((tabTo (hdB (ps.map (·.1))) ps.length).map bl) → K (.lf o) g) : CallT S false 167 [.lf l] h lim K := by
  refine CallT_of_body (F := L167) (HasHd.f167) rfl ?_; unfold L167; dsimp only []
  repeat' (first | (simp (disch := first | omega | assumption | (simp only [List.length_set]; omega) | (simp [*] <;> fail) | assumption) [-Bool.decide_and, -Bool.decide_or, -Bool.not_and, -Bool.not_or, toNat_pred, toNat_succ, wrap64, wr_new, wr_new0, ok_if, ok_ifn, iadV_sl, makeV_int, decT, decF, over_at, *, hA.len]) | (with_reducible refine Gd_split (fun hc => ?_) (fun hc => ?_) <;> (have hc2 := hc; try simp at hc2)) | (with_reducible refine Br_split (fun hc => ?_) (fun hc => ?_) <;> (have hc2 := hc; try simp at hc2)) | (with_reducible refine GdT_split (fun hc => ?_) (fun hc => ?_) <;> (have hc2 := hc; try simp at hc2)) | (with_reducible refine WT_alt ?_ ?_) | omega)
  refine WL_forM 16776792 (by decide +kernel) (ps.length) (fun i b g => i ≤ ps.length ∧ b 9 = .lf (.int .i64 i) ∧ ∃ o1 o2, b 3 = .lf o1 ∧ b 4 = .lf o2 ∧ New h g o1 4 1 ((tabTo (muteN (ps.map (·.1))) i).map bl) ∧ New h g o2 4 1 ((tabTo (soloN (ps.map (·.1))) i).map bl) ∧ Far o1 o2) (fun _ _ _ hi => hi.1) ⟨by omega, by simp, .nils, .nils, by simp, by simp, New.nil (Kept.refl h), New.nil (Kept.refl h), Far.nil_left⟩ ?_
  rintro i b g ⟨hi, e9, o1, o2, e3, e4, hN1, hN2, hf⟩
  have hA1 := hA.kept hN1.kept
  have hl1 := tabTo_len (f := muteN (ps.map (·.1))) (n := i)
  have hl2 := tabTo_len (f := soloN (ps.map (·.1))) (n := i)
  have hg1 := hN1.kept.1
  by_cases hlt : i < ps.length
  · have s1 := tab_bl (f := muteN (ps.map (·.1))) (n := i)
    have s2 := tab_bl (f := soloN (ps.map (·.1))) (n := i)
    have m1 : muteN (ps.map (·.1)) i = ps[i].1.mute := by simp [muteN, hlt]
    have m2 : soloN (ps.map (·.1)) i = ps[i].1.solo := by simp [soloN, hlt]
    rw [m1] at s1
    rw [m2] at s2
    have s1H : Hid ((tabTo (muteN (ps.map (·.1))) (i + 1)).map bl = (tabTo (muteN (ps.map (·.1))) i).map bl ++ [[.bool ps[i].1.mute]]) := s1
    have s2H : Hid ((tabTo (soloN (ps.map (·.1))) (i + 1)).map bl = (tabTo (soloN (ps.map (·.1))) i).map bl ++ [[.bool ps[i].1.solo]]) := s2
    clear s1 s2 m1 m2 hK
    repeat' (first | (simp (disch := first | omega | assumption | (simp only [List.length_set]; omega) | (simp [*] <;> fail) | assumption) [-Bool.decide_and, -Bool.decide_or, -Bool.not_and, -Bool.not_or, toNat_pred, toNat_succ, wrap64, wr_new, wr_new0, ok_if, ok_ifn, iadV_sl, makeV_int, decT, decF, over_at, *, hA1.len, hA1.at_, hA1.at_', hA1.rd, hA1.rdIn, hA1.rdIn0, hA1.rdA, hA1.rdInA, hA1.rdIn0A, Trk.cells, -W_any]) | (with_reducible refine Gd_split (fun hc => ?_) (fun hc => ?_) <;> (have hc2 := hc; try simp at hc2)) | (with_reducible refine Br_split (fun hc => ?_) (fun hc => ?_) <;> (have hc2 := hc; try simp at hc2)) | (with_reducible refine GdT_split (fun hc => ?_) (fun hc => ?_) <;> (have hc2 := hc; try simp at hc2)) | (with_reducible refine WT_alt ?_ ?_) | omega)
    rw [W_any]
    refine WT_cutM 8380440 (by decide +kernel) (fun b' g' => ∃ p1 p2, b' 3 = .lf p1 ∧ b' 4 = .lf p2 ∧ New h g' p1 4 1 ((tabTo (muteN (ps.map (·.1))) (i + 1)).map bl) ∧ New h g' p2 4 1 ((tabTo (soloN (ps.map (·.1))) (i + 1)).map bl) ∧ Far p1 p2) ?_ ?_
    · repeat' (first | (simp (disch := first | omega | assumption | (simp only [List.length_set]; omega) | (simp [*] <;> fail) | assumption) [-Bool.decide_and, -Bool.decide_or, -Bool.not_and, -Bool.not_or, toNat_pred, toNat_succ, wrap64, wr_new, wr_new0, ok_if, ok_ifn, iadV_sl, makeV_int, decT, decF, over_at, *, leavesAll, fillL]) | (with_reducible refine Gd_split (fun hc => ?_) (fun hc => ?_) <;> (have hc2 := hc; try simp at hc2)) | (with_reducible refine Br_split (fun hc => ?_) (fun hc => ?_) <;> (have hc2 := hc; try simp at hc2)) | (with_reducible refine GdT_split (fun hc => ?_) (fun hc => ?_) <;> (have hc2 := hc; try simp at hc2)) | (with_reducible refine WT_alt ?_ ?_) | omega)
      all_goals refine oc_pushS hN1.app (by simp; rfl) hl (by simp; omega) fun p1 g1 hP1 hC1 => ?_
      all_goals obtain ⟨hP2, hf1⟩ := hC1.other hN1.app hN2.app hf
      all_goals have hbx := hC1.rd (id := g.length) (off := 4) (n := 1) (ls := [.bool ps[i].1.solo]) (by simp) (fun hn => by have := (hN1.lt hn).2; omega)
      all_goals repeat' (first | (simp (disch := first | omega | assumption | (simp only [List.length_set]; omega) | (simp [*] <;> fail) | assumption) [-Bool.decide_and, -Bool.decide_or, -Bool.not_and, -Bool.not_or, toNat_pred, toNat_succ, wrap64, wr_new, wr_new0, ok_if, ok_ifn, iadV_sl, makeV_int, decT, decF, over_at, *, leavesAll, fillL]) | (with_reducible refine Gd_split (fun hc => ?_) (fun hc => ?_) <;> (have hc2 := hc; try simp at hc2)) | (with_reducible refine Br_split (fun hc => ?_) (fun hc => ?_) <;> (have hc2 := hc; try simp at hc2)) | (with_reducible refine GdT_split (fun hc => ?_) (fun hc => ?_) <;> (have hc2 := hc; try simp at hc2)) | (with_reducible refine WT_alt ?_ ?_) | omega)
      all_goals first
        | refine oc_pushS hP2.app (by simp; rfl) hl (by simp; omega) fun q2 g2 hQ2 hC2 => ?_
        | refine oc_pushS hP2 (hC1.rd (by simp; rfl) (fun hn => by have := (hN1.lt hn).2; omega)) hl (by simp; omega) fun q2 g2 hQ2 hC2 => ?_
      all_goals have hQf : New h g2 p1 4 1 ((tabTo (muteN (ps.map (·.1))) i).map bl ++ [[.bool ps[i].1.mute]]) ∧ Far q2 p1 := by first | exact hC2.other hP2.app hP1.app hf1.symm | exact hC2.other hP2 hP1 hf1.symm
      all_goals obtain ⟨hQ1, hf2⟩ := hQf
      all_goals rw [← show (tabTo (muteN (ps.map (·.1))) (i + 1)).map bl = _ from s1H] at hQ1
      all_goals rw [← show (tabTo (soloN (ps.map (·.1))) (i + 1)).map bl = _ from s2H] at hQ2
      all_goals clear s1H s2H
      all_goals repeat' (first | (simp (disch := first | omega | assumption | (simp only [List.length_set]; omega) | (simp [*] <;> fail) | assumption) [-Bool.decide_and, -Bool.decide_or, -Bool.not_and, -Bool.not_or, toNat_pred, toNat_succ, wrap64, wr_new, wr_new0, ok_if, ok_ifn, iadV_sl, makeV_int, decT, decF, over_at, *]) | (with_reducible refine Gd_split (fun hc => ?_) (fun hc => ?_) <;> (have hc2 := hc; try simp at hc2)) | (with_reducible refine Br_split (fun hc => ?_) (fun hc => ?_) <;> (have hc2 := hc; try simp at hc2)) | (with_reducible refine GdT_split (fun hc => ?_) (fun hc => ?_) <;> (have hc2 := hc; try simp at hc2)) | (with_reducible refine WT_alt ?_ ?_) | omega)
      all_goals (repeat' apply And.intro) <;> first | omega | assumption | exact hf2.symm
    · rintro b2 g2 ⟨p1, p2, e3', e4', hP1, hP2, hfp⟩
      repeat' (first | (simp (disch := first | omega | assumption | (simp only [List.length_set]; omega) | (simp [*] <;> fail) | assumption) [-Bool.decide_and, -Bool.decide_or, -Bool.not_and, -Bool.not_or, toNat_pred, toNat_succ, wrap64, wr_new, wr_new0, ok_if, ok_ifn, iadV_sl, makeV_int, decT, decF, over_at, *]) | (with_reducible refine Gd_split (fun hc => ?_) (fun hc => ?_) <;> (have hc2 := hc; try simp at hc2)) | (with_reducible refine Br_split (fun hc => ?_) (fun hc => ?_) <;> (have hc2 := hc; try simp at hc2)) | (with_reducible refine GdT_split (fun hc => ?_) (fun hc => ?_) <;> (have hc2 := hc; try simp at hc2)) | (with_reducible refine WT_alt ?_ ?_) | omega)
      all_goals exact ⟨hlt, hP1, hP2, hfp⟩
  · have : i = ps.length := by omega
    subst this
    repeat' (first | (simp (disch := first | omega | assumption | (simp only [List.length_set]; omega) | (simp [*] <;> fail) | assumption) [-Bool.decide_and, -Bool.decide_or, -Bool.not_and, -Bool.not_or, toNat_pred, toNat_succ, wrap64, wr_new, wr_new0, ok_if, ok_ifn, iadV_sl, makeV_int, decT, decF, over_at, *]) | (with_reducible refine Gd_split (fun hc => ?_) (fun hc => ?_) <;> (have hc2 := hc; try simp at hc2)) | (with_reducible refine Br_split (fun hc => ?_) (fun hc => ?_) <;> (have hc2 := hc; try simp at hc2)) | (with_reducible refine GdT_split (fun hc => ?_) (fun hc => ?_) <;> (have hc2 := hc; try simp at hc2)) | (with_reducible refine WT_alt ?_ ?_) | omega)
    refine c_heard hN1.arr hN2.arr (by rw [hl1, hl2]) (by omega) (by omega) fun o g2 hO => ?_
    have e := hb_hd (ts := ps.map (·.1))
    rw [List.length_map] at e
    rw [hl1, e] at hO
    repeat' (first | (simp (disch := first | omega | assumption | (simp only [List.length_set]; omega) | (simp [*] <;> fail) | assumption) [-Bool.decide_and, -Bool.decide_or, -Bool.not_and, -Bool.not_or, toNat_pred, toNat_succ, wrap64, wr_new, wr_new0, ok_if, ok_ifn, iadV_sl, makeV_int, decT, decF, over_at, *]) | (with_reducible refine Gd_split (fun hc => ?_) (fun hc => ?_) <;> (have hc2 := hc; try simp at hc2)) | (with_reducible refine Br_split (fun hc => ?_) (fun hc => ?_) <;> (have hc2 := hc; try simp at hc2)) | (with_reducible refine GdT_split (fun hc => ?_) (fun hc => ?_) <;> (have hc2 := hc; try simp at hc2)) | (with_reducible refine WT_alt ?_ ?_) | omega)
    exact hK _ _ (hO.base hN1.kept)
end
end
end Go.E
