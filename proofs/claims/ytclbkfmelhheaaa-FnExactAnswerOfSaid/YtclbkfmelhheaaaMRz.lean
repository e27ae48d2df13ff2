/- The answer of a room, both sides. -/
import Derived.Test.YtclbkfmelhheaaaMRw
import Derived.Test.YtclbkfmelhheaaaMN
set_option linter.unusedVariables false
set_option linter.unusedSimpArgs false
namespace Go.E
open Go
def L86 : LFn := ⟨1, (.seq (.reg [⟨(.some 2), (.mv (.c (.lf .nils))), none⟩])
 (.seq (.reg [⟨(.some 6), (.lit 27 1 0 [] []), none⟩, ⟨(.some 3), (.mv (.t 6)), none⟩])
 (.seq (.reg [⟨(.some 7), (.mv (.t 0)), none⟩, ⟨(.some 8), (.call false 149 [(.t 7)]), none⟩, ⟨(.some 4), (.mv (.t 8)), none⟩])
 (.seq (.seq (.reg [⟨(.some 9), (.mv (.t 4)), none⟩, ⟨(.some 10), (.len (.t 9)), none⟩, ⟨(.some 11), (.mv (.c (.lf (.int .i64 0)))), none⟩])
 (.block 0 (.loop (.seq (.reg [⟨(.some 12), (.bin .lss (.t 11) (.t 10)), none⟩])
 (.seq (.cond (.t 12) .skip (.exit 0))
 (.seq (.block 1 (.seq (.reg [⟨(.some 13), (.mv (.t 11)), none⟩, ⟨(.some 5), (.mv (.t 13)), none⟩])
 (.reg [⟨(.some 14), (.mv (.t 3)), none⟩, ⟨(.some 15), (.mv (.t 4)), none⟩, ⟨(.some 16), (.mv (.t 5)), none⟩, ⟨(.some 17), (.iaddr 1 (.t 15) (.t 16)), none⟩, ⟨(.some 18), (.load false 1 (.t 17)), none⟩, ⟨(.some 19), (.make 22 1 4 [(.flt .f32 0)] (.t 18) (.t 18)), none⟩, ⟨(.some 20), (.lit 27 1 1 [.nils] [(0, (1, (.t 19)))]), none⟩, ⟨(.some 21), (.app 27 1 24 (.t 14) (.t 20)), none⟩, ⟨(.some 3), (.mv (.t 21)), none⟩])))
 (.reg [⟨(.some 22), (.bin .add (.t 11) (.c (.lf (.int .i64 1)))), none⟩, ⟨(.some 11), (.mv (.t 22)), none⟩])))))))
 (.seq (.reg [⟨(.some 23), (.mv (.t 3)), none⟩, ⟨(.some 2), (.mv (.t 23)), none⟩])
 .ret))))), [(.tmp 2)]⟩
def L25 : LFn := ⟨2, (.seq (.reg [⟨(.some 2), (.box 59 (.t 0)), none⟩, ⟨(.some 4), (.mv (.c (.lf .nils))), none⟩, ⟨(.some 5), (.mv (.c (.lf (.bool false)))), none⟩])
 (.seq (.seq (.reg [⟨(.some 9), (.call true 84 [(.t 2)]), none⟩, ⟨(.some 10), (.una .not (.t 9)), none⟩, ⟨(.some 11), (.mv (.t 10)), none⟩, ⟨(.some 12), (.mv (.t 1)), (.some (11, false))⟩, ⟨(.some 13), (.call true 85 [(.t 12), (.c (.lf (.int .i64 1))), (.c (.lf (.int .i64 256)))]), (.some (11, false))⟩, ⟨(.some 14), (.una .not (.t 13)), (.some (11, false))⟩, ⟨(.some 15), (.pick (.t 11) (.c (.lf (.bool true))) (.t 14)), none⟩])
 (.cond (.t 15) (.seq (.reg [⟨(.some 4), (.mv (.c (.lf .nils))), none⟩, ⟨(.some 5), (.mv (.c (.lf (.bool false)))), none⟩])
 .ret) .skip))
 (.seq (.reg [⟨(.some 16), (.call false 86 [(.t 2)]), none⟩, ⟨(.some 6), (.mv (.t 16)), none⟩])
 (.seq (.reg [⟨(.some 17), (.lit 22 1 0 [] []), none⟩, ⟨(.some 7), (.mv (.t 17)), none⟩])
 (.seq (.reg [⟨(.some 8), (.mv (.c (.lf (.flt .f32 1065353216)))), none⟩])
 (.seq (.block 0 (.loop (.seq (.seq (.reg [⟨(.some 18), (.mv (.t 1)), none⟩, ⟨(.some 19), (.bin .gtr (.t 18) (.c (.lf (.int .i64 0)))), none⟩])
 (.cond (.t 19) .skip (.exit 0)))
 (.seq (.block 1 (.seq (.reg [⟨(.some 22), (.mv (.t 7)), none⟩, ⟨(.some 23), (.mv (.t 6)), none⟩, ⟨(.some 24), (.mv (.t 8)), none⟩, ⟨(.some 25), (.call false 87 [(.t 2), (.t 23), (.t 24)]), none⟩, ⟨(.some 26), (.lit 22 1 1 [(.flt .f32 0)] [(0, (1, (.t 25)))]), none⟩, ⟨(.some 27), (.app 22 1 4 (.t 22) (.t 26)), none⟩, ⟨(.some 7), (.mv (.t 27)), none⟩])
 (.reg [⟨(.some 8), (.mv (.c (.lf (.flt .f32 0)))), none⟩])))
 (.reg [⟨(.some 20), (.mv (.t 1)), none⟩, ⟨(.some 21), (.bin .sub (.t 20) (.c (.lf (.int .i64 1)))), none⟩, ⟨(.some 1), (.mv (.t 21)), none⟩])))))
 (.seq (.reg [⟨(.some 28), (.mv (.t 7)), none⟩, ⟨(.some 4), (.mv (.t 28)), none⟩, ⟨(.some 5), (.mv (.c (.lf (.bool true)))), none⟩])
 .ret))))))), [(.tmp 4), (.tmp 5)]⟩
def L93 : LFn := ⟨1, (.seq (.reg [⟨(.some 1), (.box 59 (.t 0)), none⟩, ⟨(.some 2), (.mv (.c (.lf .nils))), none⟩])
 (.seq (.reg [⟨(.some 3), (.mv (.c (.lf .nils))), none⟩])
 (.seq (.seq (.reg [⟨(.some 6), (.load true 4 (.t 1)), none⟩, ⟨(.some 7), (.call false 156 [(.t 6)]), none⟩, ⟨(.some 8), (.len (.t 7)), none⟩, ⟨(.some 9), (.mv (.c (.lf (.int .i64 0)))), none⟩])
 (.block 0 (.loop (.seq (.reg [⟨(.some 10), (.bin .lss (.t 9) (.t 8)), none⟩])
 (.seq (.cond (.t 10) .skip (.exit 0))
 (.seq (.block 1 (.seq (.reg [⟨(.some 11), (.iaddr 1 (.t 7) (.t 9)), none⟩, ⟨(.some 12), (.load false 1 (.t 11)), none⟩, ⟨(.some 5), (.mv (.t 12)), none⟩])
 (.reg [⟨(.some 13), (.mv (.t 3)), none⟩, ⟨(.some 14), (.mv (.t 5)), none⟩, ⟨(.some 15), (.call false 125 [(.t 14)]), none⟩, ⟨(.some 16), (.lit 27 1 1 [.nils] [(0, (1, (.t 15)))]), none⟩, ⟨(.some 17), (.app 27 1 24 (.t 13) (.t 16)), none⟩, ⟨(.some 3), (.mv (.t 17)), none⟩])))
 (.reg [⟨(.some 18), (.bin .add (.t 9) (.c (.lf (.int .i64 1)))), none⟩, ⟨(.some 9), (.mv (.t 18)), none⟩])))))))
 (.seq (.reg [⟨(.some 19), (.mv (.t 3)), none⟩, ⟨(.some 2), (.mv (.t 19)), none⟩])
 .ret)))), [(.tmp 2)]⟩
def L94 : LFn := ⟨1, (.seq (.reg [⟨(.some 2), (.mv (.c (.lf .nils))), none⟩])
 (.seq (.reg [⟨(.some 4), (.mv (.t 0)), none⟩, ⟨(.some 5), (.call false 125 [(.t 4)]), none⟩, ⟨(.some 3), (.mv (.t 5)), none⟩])
 (.seq (.seq (.reg [⟨(.some 6), (.mv (.t 0)), none⟩, ⟨(.some 7), (.bin .gtr (.t 6) (.c (.lf (.int .i64 0)))), none⟩])
 (.cond (.t 7) (.reg [⟨(.some 8), (.mv (.t 3)), none⟩, ⟨(.some 9), (.iaddr 1 (.t 8) (.c (.lf (.int .i64 0)))), none⟩, ⟨none, (.store 1 (.t 9) (.c (.lf (.flt .f32 1065353216)))), none⟩]) .skip))
 (.seq (.reg [⟨(.some 10), (.mv (.t 3)), none⟩, ⟨(.some 2), (.mv (.t 10)), none⟩])
 .ret)))), [(.tmp 2)]⟩
def L27 : LFn := ⟨2, (.seq (.reg [⟨(.some 2), (.box 59 (.t 0)), none⟩, ⟨(.some 4), (.mv (.c (.lf .nils))), none⟩, ⟨(.some 5), (.mv (.c (.lf (.bool false)))), none⟩])
 (.seq (.seq (.reg [⟨(.some 8), (.load true 4 (.t 2)), none⟩, ⟨(.some 9), (.call true 90 [(.t 8)]), none⟩, ⟨(.some 10), (.una .not (.t 9)), none⟩, ⟨(.some 11), (.mv (.t 10)), none⟩, ⟨(.some 12), (.mv (.t 1)), (.some (11, false))⟩, ⟨(.some 13), (.call true 91 [(.t 12), (.c (.lf (.int .i64 1))), (.c (.lf (.int .i64 256)))]), (.some (11, false))⟩, ⟨(.some 14), (.una .not (.t 13)), (.some (11, false))⟩, ⟨(.some 15), (.pick (.t 11) (.c (.lf (.bool true))) (.t 14)), none⟩])
 (.cond (.t 15) (.seq (.reg [⟨(.some 4), (.mv (.c (.lf .nils))), none⟩, ⟨(.some 5), (.mv (.c (.lf (.bool false)))), none⟩])
 .ret) .skip))
 (.seq (.any (.op ⟨(.some 18), (.load true 4 (.t 2)), none⟩ (.op ⟨(.some 20), (.mv (.t 1)), none⟩ (.alt (.op ⟨(.some 17), (.load true 4 (.t 2)), none⟩ (.op ⟨(.some 19), (.call false 93 [(.t 18)]), none⟩ (.op ⟨(.some 21), (.call false 94 [(.t 20)]), none⟩ (.op ⟨(.some 22), (.call false 92 [(.t 17), (.t 19), (.t 21)]), none⟩ (.op ⟨(.some 16), (.mv (.t 22)), none⟩ (.op ⟨(.some 23), (.ext (.t 16) 0), none⟩ (.op ⟨(.some 24), (.ext (.t 16) 1), none⟩ (.op ⟨(.some 6), (.mv (.t 23)), none⟩ (.op ⟨(.some 7), (.mv (.t 24)), none⟩ .nil))))))))) (.op ⟨(.some 19), (.call false 93 [(.t 18)]), none⟩ (.alt (.op ⟨(.some 17), (.load true 4 (.t 2)), none⟩ (.op ⟨(.some 21), (.call false 94 [(.t 20)]), none⟩ (.op ⟨(.some 22), (.call false 92 [(.t 17), (.t 19), (.t 21)]), none⟩ (.op ⟨(.some 16), (.mv (.t 22)), none⟩ (.op ⟨(.some 23), (.ext (.t 16) 0), none⟩ (.op ⟨(.some 24), (.ext (.t 16) 1), none⟩ (.op ⟨(.some 6), (.mv (.t 23)), none⟩ (.op ⟨(.some 7), (.mv (.t 24)), none⟩ .nil)))))))) (.op ⟨(.some 21), (.call false 94 [(.t 20)]), none⟩ (.op ⟨(.some 17), (.load true 4 (.t 2)), none⟩ (.op ⟨(.some 22), (.call false 92 [(.t 17), (.t 19), (.t 21)]), none⟩ (.op ⟨(.some 16), (.mv (.t 22)), none⟩ (.op ⟨(.some 23), (.ext (.t 16) 0), none⟩ (.op ⟨(.some 24), (.ext (.t 16) 1), none⟩ (.op ⟨(.some 6), (.mv (.t 23)), none⟩ (.op ⟨(.some 7), (.mv (.t 24)), none⟩ .nil))))))))))))))
 (.seq (.reg [⟨(.some 25), (.mv (.t 6)), none⟩, ⟨(.some 4), (.mv (.t 25)), none⟩, ⟨(.some 5), (.mv (.c (.lf (.bool true)))), none⟩])
 .ret)))), [(.tmp 4), (.tmp 5)]⟩
class HasRz (S : Sys) : Prop extends HasRw S, HasN S where
  f86 : S.fs 86 = some L86
  f25 : S.fs 25 = some L25
  f93 : S.fs 93 = some L93
  f94 : S.fs 94 = some L94
  f27 : S.fs 27 = some L27
def zerL (n : Int) : List Nat := List.replicate n.toNat 0
def zlR (R : Rm) : List (List Nat) := (lensR R).map zerL
theorem zlR_fit {R : Rm} (h : rmOk R) : fitR R (zlR R) := by
  refine ⟨by simp [zlR], fun i x n h1 h2 => ?_⟩
  unfold zlR at h1
  rw [List.getElem?_map, h2] at h1
  simp only [Option.map_some, Option.some.injEq] at h1
  subst h1
  have := h.1 n (List.mem_of_getElem? h2)
  unfold in64 at this
  simp [zerL]; omega
def imp (n : Nat) : List Nat := (List.replicate n 0).set 0 1065353216
theorem imp_len {n : Nat} : (imp n).length = n := by simp [imp]
theorem imp_get {n k : Nat} (h : k < n) : (imp n).getD k 0 = if k = 0 then 1065353216 else 0 := by
  unfold imp
  rw [List.getD_eq_getElem?_getD, List.getElem?_set]
  by_cases e : k = 0
  · subst e; simp [h]
  · rw [if_neg (by omega), if_neg e]; simp [h]
def okAn (R : Rm) (n : Int) : Prop := rmOk R ∧ 1 ≤ n ∧ n ≤ 256
noncomputable instance (R : Rm) (n : Int) : Decidable (okAn R n) := Classical.propDecidable _
noncomputable def anR (R : Rm) (n : Int) : List Nat := if okAn R n then (rmTo R (zlR R) (imp n.toNat) n.toNat).1 else []
theorem anR_len {R : Rm} {n : Int} : (anR R n).length ≤ 256 := by
  unfold anR
  split
  · rename_i hok
    rw [rmTo_len]
    have := hok.2.2
    omega
  · simp
theorem New.flsZ {h g : Hp} {xs : List Nat} {m ty ty2 : Nat} (hk : Kept h g) (hb : xs.length ≤ 1000) (hm : m = xs.length) : New h (g ++ [⟨xs.map (Lf.flt .f32), .own ty 1⟩, ⟨[.sl g.length 0 m 1], .own ty2 1⟩]) (.sl g.length 0 m 1) ty 1 (xs.map fl) := by
  subst hm
  have := (New.fls (h := h) (g := g) (xs := xs) (cs := xs.map (Lf.flt .f32)) (ty := ty) hk rfl (by omega)).later (Kept.app _ [⟨[.sl g.length 0 xs.length 1], .own ty2 1⟩])
  simpa using this
section
variable {S : Sys} {lim : Nat} {h : Hp} {K : CV → Hp → Prop} [HasRz S] {l l2 : Lf} {R : Rm}
theorem c_impulse {n : Nat} (hn : n ≤ 256) (hl : lim ≤ h.length) (hK : ∀ l' g, New h g l' 22 1 ((imp n).map fl) → K (.lf l') g) : CallT S false 94 [.lf (.int .i64 n)] h lim K := by
  refine CallT_of_body (F := L94) (HasRz.f94) rfl ?_; unfold L94; dsimp only []
  repeat' (first | (simp (disch := first | omega | assumption | (simp only [List.length_set]; omega) | (simp [*] <;> fail) | assumption) [-Bool.decide_and, -Bool.decide_or, -Bool.not_and, -Bool.not_or, toNat_pred, toNat_succ, wrap64, wr_new, wr_new0, ok_if, ok_ifn, iadV_sl, makeV_int, decT, decF, over_at, *]) | (with_reducible refine Gd_split (fun hc => ?_) (fun hc => ?_) <;> (have hc2 := hc; try simp at hc2)) | (with_reducible refine Br_split (fun hc => ?_) (fun hc => ?_) <;> (have hc2 := hc; try simp at hc2)) | (with_reducible refine GdT_split (fun hc => ?_) (fun hc => ?_) <;> (have hc2 := hc; try simp at hc2)) | (with_reducible refine WT_alt ?_ ?_) | omega)
  refine c_zeros (by omega) hl fun l g hN => ?_
  have hC := hN.arr
  by_cases h0 : 0 < n
  · repeat' (first | (simp (disch := first | omega | assumption | (simp only [List.length_set]; omega) | (simp [*] <;> fail) | assumption) [-Bool.decide_and, -Bool.decide_or, -Bool.not_and, -Bool.not_or, toNat_pred, toNat_succ, wrap64, wr_new, wr_new0, ok_if, ok_ifn, iadV_sl, makeV_int, decT, decF, over_at, *, hC.at0, hC.rd0, hC.rd0j, hC.rd0A, hC.rd0jA]) | (with_reducible refine Gd_split (fun hc => ?_) (fun hc => ?_) <;> (have hc2 := hc; try simp at hc2)) | (with_reducible refine Br_split (fun hc => ?_) (fun hc => ?_) <;> (have hc2 := hc; try simp at hc2)) | (with_reducible refine GdT_split (fun hc => ?_) (fun hc => ?_) <;> (have hc2 := hc; try simp at hc2)) | (with_reducible refine WT_alt ?_ ?_) | omega)
    refine oc_wr (i := 0) hN (by simp; omega) hl fun g' hN' hB => ?_
    repeat' (first | (simp (disch := first | omega | assumption | (simp only [List.length_set]; omega) | (simp [*] <;> fail) | assumption) [-Bool.decide_and, -Bool.decide_or, -Bool.not_and, -Bool.not_or, toNat_pred, toNat_succ, wrap64, wr_new, wr_new0, ok_if, ok_ifn, iadV_sl, makeV_int, decT, decF, over_at, *]) | (with_reducible refine Gd_split (fun hc => ?_) (fun hc => ?_) <;> (have hc2 := hc; try simp at hc2)) | (with_reducible refine Br_split (fun hc => ?_) (fun hc => ?_) <;> (have hc2 := hc; try simp at hc2)) | (with_reducible refine GdT_split (fun hc => ?_) (fun hc => ?_) <;> (have hc2 := hc; try simp at hc2)) | (with_reducible refine WT_alt ?_ ?_) | omega)
    rw [fl_set] at hN'
    exact hK _ _ hN'
  · repeat' (first | (simp (disch := first | omega | assumption | (simp only [List.length_set]; omega) | (simp [*] <;> fail) | assumption) [-Bool.decide_and, -Bool.decide_or, -Bool.not_and, -Bool.not_or, toNat_pred, toNat_succ, wrap64, wr_new, wr_new0, ok_if, ok_ifn, iadV_sl, makeV_int, decT, decF, over_at, *]) | (with_reducible refine Gd_split (fun hc => ?_) (fun hc => ?_) <;> (have hc2 := hc; try simp at hc2)) | (with_reducible refine Br_split (fun hc => ?_) (fun hc => ?_) <;> (have hc2 := hc; try simp at hc2)) | (with_reducible refine GdT_split (fun hc => ?_) (fun hc => ?_) <;> (have hc2 := hc; try simp at hc2)) | (with_reducible refine WT_alt ?_ ?_) | omega)
    exact hK _ _ (by have : n = 0 := by omega
                     subst this; simpa [imp] using hN)
set_option maxHeartbeats 2000000 in
theorem c_l03Empty {id off : Nat} (hr : rdCells h id off 4 = some (R.cells l l2)) (hA : Arr h l 5 (R.ds.map Dly.cells)) (hB : Arr h l2 2 (R.qs.map Pas.cells)) (hok : rmOk R) (hl : lim ≤ h.length)
    (hK : ∀ sg rs g, NewD h g sg 27 1 ssCells ssRows 22 rs → rs.map (·.1) = zlR R → K (.lf sg) g) : CallT S false 86 [.lf (.ptr id off)] h lim K := by
  have hn8 : (lensR R).length ≤ 8 := by rw [lensR_len]; have := hok.2; omega
  have h64 := hok.1
  have kb := Kept.app h [⟨[], .own 27 1⟩]
  have z0 : NewD h (h ++ [⟨[], .own 27 1⟩]) (.sl h.length 0 0 1) 27 1 ssCells ssRows 22 [] := NewD.lit (Kept.refl _)
  refine CallT_of_body (F := L86) (HasRz.f86) rfl ?_; unfold L86; dsimp only []
  repeat' (first | (simp (disch := first | omega | assumption | (simp only [List.length_set]; omega) | (simp [*] <;> fail) | assumption) [-Bool.decide_and, -Bool.decide_or, -Bool.not_and, -Bool.not_or, toNat_pred, toNat_succ, wrap64, wr_new, wr_new0, ok_if, ok_ifn, iadV_sl, makeV_int, decT, decF, over_at, *, leavesAll, fillL]) | (with_reducible refine Gd_split (fun hc => ?_) (fun hc => ?_) <;> (have hc2 := hc; try simp at hc2)) | (with_reducible refine Br_split (fun hc => ?_) (fun hc => ?_) <;> (have hc2 := hc; try simp at hc2)) | (with_reducible refine GdT_split (fun hc => ?_) (fun hc => ?_) <;> (have hc2 := hc; try simp at hc2)) | (with_reducible refine WT_alt ?_ ?_) | omega)
  refine c_l03Lengths (kb.rd hr) (hA.kept kb) (hB.kept kb) (rm_small hok) (by simp; omega) fun ln g0 hN => ?_
  have hF0 : Far (.sl h.length 0 0 1) ln := far_fresh hN (fun _ => by simp)
  have z1 := z0.later hN.kept
  replace hN := hN.base kb
  have hLA := hN.arr
  generalize hns : lensR R = ns at *
  have hzl : zlR R = ns.map zerL := by unfold zlR; rw [hns]
  rw [hzl] at hK
  clear hA hB hr hok z0 hzl hns
  repeat' (first | (simp (disch := first | omega | assumption | (simp only [List.length_set]; omega) | (simp [*] <;> fail) | assumption) [-Bool.decide_and, -Bool.decide_or, -Bool.not_and, -Bool.not_or, toNat_pred, toNat_succ, wrap64, wr_new, wr_new0, ok_if, ok_ifn, iadV_sl, makeV_int, decT, decF, over_at, *, hLA.len]) | (with_reducible refine Gd_split (fun hc => ?_) (fun hc => ?_) <;> (have hc2 := hc; try simp at hc2)) | (with_reducible refine Br_split (fun hc => ?_) (fun hc => ?_) <;> (have hc2 := hc; try simp at hc2)) | (with_reducible refine GdT_split (fun hc => ?_) (fun hc => ?_) <;> (have hc2 := hc; try simp at hc2)) | (with_reducible refine WT_alt ?_ ?_) | omega)
  refine WL_forM 8386600 (by decide +kernel) (ns.length) (fun i b g => i ≤ ns.length ∧ b 11 = .lf (.int .i64 i) ∧ New h g ln 2 1 (ns.map il) ∧ ∃ o qs, b 3 = .lf o ∧ NewD h g o 27 1 ssCells ssRows 22 qs ∧ qs.map (·.1) = mapTo zerL ns i ∧ Far o ln) (fun _ _ _ hi => hi.1) ⟨by omega, by simp, hN, _, [], by simp, z1, by simp, hF0⟩ ?_
  rintro i b g ⟨hi, e4, hLN, o, qs, e3, hD, hq, hF⟩
  have hk := hD.kept
  have hk1 := hk.1
  have hA1 := hLN.arr
  have hql : qs.length = i := by have := congrArg List.length hq; rw [mapTo_len' hi] at this; simpa using this
  by_cases hlt : i < ns.length
  · have h1 := h64 _ (List.getElem_mem hlt)
    unfold in64 at h1
    obtain ⟨m, hm⟩ : ∃ m : Nat, ns[i] = (m : Int) := ⟨ns[i].toNat, by omega⟩
    have hz : zerL ns[i] = List.replicate m 0 := by rw [hm]; rfl
    have hm64 : m ≤ 64 := by omega
    have hqE : mapTo zerL ns (i + 1) = qs.map (·.1) ++ [List.replicate m 0] := by rw [hq, mapTo_succ hlt, hz]
    have hqH : Hid (mapTo zerL ns (i + 1) = qs.map (·.1) ++ [List.replicate m 0]) := hqE
    have d1 := hA1.rd1 hlt
    have a1 := hA1.at_ (k := .i64) hlt
    rw [hm] at d1
    clear hqE hq hK hz
    repeat' (first | (simp (disch := first | omega | assumption | (simp only [List.length_set]; omega) | (simp [*] <;> fail) | assumption) [-Bool.decide_and, -Bool.decide_or, -Bool.not_and, -Bool.not_or, toNat_pred, toNat_succ, wrap64, wr_new, wr_new0, ok_if, ok_ifn, iadV_sl, makeV_int, decT, decF, over_at, *, hA1.len, hA1.at_, hA1.at_', hA1.rd, hA1.rdIn, hA1.rdIn0, hA1.rdA, hA1.rdInA, hA1.rdIn0A, d1, il, leavesAll, fillL]) | (with_reducible refine Gd_split (fun hc => ?_) (fun hc => ?_) <;> (have hc2 := hc; try simp at hc2)) | (with_reducible refine Br_split (fun hc => ?_) (fun hc => ?_) <;> (have hc2 := hc; try simp at hc2)) | (with_reducible refine GdT_split (fun hc => ?_) (fun hc => ?_) <;> (have hc2 := hc; try simp at hc2)) | (with_reducible refine WT_alt ?_ ?_) | omega)
    refine oc_pushS (hD.out.later (Kept.app g [⟨List.replicate m (.flt .f32 0), .own 22 1⟩, ⟨[.sl g.length 0 m 1], .own 27 1⟩])) (r := [.sl g.length 0 m 1]) (by simp) (by omega) (by simp; omega) fun o2 g5 hN5 hB5 => ?_
    have hx := New.flsZ (h := g) (g := g) (xs := List.replicate m 0) (m := m) (ty := 22) (ty2 := 27) (Kept.refl g) (by simp; omega) (by simp)
    rw [List.map_replicate] at hx
    obtain ⟨hf0, hf1⟩ := hD.fresh hx
    have hP := (hD.later (Kept.app g [⟨List.replicate m (.flt .f32 0), .own 22 1⟩, ⟨[.sl g.length 0 m 1], .own 27 1⟩])).push (a := List.replicate m 0) (hx.base hk) hf0 hf1 (Kept.refl _) hN5 hB5 rfl
    have hlo : o ≠ .nils → h.length ≤ o.id := fun q => (hD.out.lt q).1
    have hLN5 := hB5.new (hLN.later (Kept.app g [⟨List.replicate m (.flt .f32 0), .own 22 1⟩, ⟨[.sl g.length 0 m 1], .own 27 1⟩])) hlo (fun q1 q2 => (hF q1 q2).symm)
    have hF5 : Far o2 ln := (hB5.farR hF.symm (fun q => by have := (hLN.lt q).2; simp; omega)).symm
    clear hB5 hN5 hLN hF hx
    repeat' (first | (simp (disch := first | omega | assumption | (simp only [List.length_set]; omega) | (simp [*] <;> fail) | assumption) [-Bool.decide_and, -Bool.decide_or, -Bool.not_and, -Bool.not_or, toNat_pred, toNat_succ, wrap64, wr_new, wr_new0, ok_if, ok_ifn, iadV_sl, makeV_int, decT, decF, over_at, *]) | (with_reducible refine Gd_split (fun hc => ?_) (fun hc => ?_) <;> (have hc2 := hc; try simp at hc2)) | (with_reducible refine Br_split (fun hc => ?_) (fun hc => ?_) <;> (have hc2 := hc; try simp at hc2)) | (with_reducible refine GdT_split (fun hc => ?_) (fun hc => ?_) <;> (have hc2 := hc; try simp at hc2)) | (with_reducible refine WT_alt ?_ ?_) | omega)
    exact ⟨hlt, _, hP, by rw [show mapTo zerL ns (i + 1) = _ from hqH]; simp⟩
  · have : i = ns.length := by omega
    subst this
    have hk2 := hK _ _ _ hD (by rw [hq, mapTo_all])
    clear hK
    repeat' (first | (simp (disch := first | omega | assumption | (simp only [List.length_set]; omega) | (simp [*] <;> fail) | assumption) [-Bool.decide_and, -Bool.decide_or, -Bool.not_and, -Bool.not_or, toNat_pred, toNat_succ, wrap64, wr_new, wr_new0, ok_if, ok_ifn, iadV_sl, makeV_int, decT, decF, over_at, *]) | (with_reducible refine Gd_split (fun hc => ?_) (fun hc => ?_) <;> (have hc2 := hc; try simp at hc2)) | (with_reducible refine Br_split (fun hc => ?_) (fun hc => ?_) <;> (have hc2 := hc; try simp at hc2)) | (with_reducible refine GdT_split (fun hc => ?_) (fun hc => ?_) <;> (have hc2 := hc; try simp at hc2)) | (with_reducible refine WT_alt ?_ ?_) | omega)
set_option maxHeartbeats 2000000 in
theorem c_empty (hA : Arr h l 5 (R.ds.map Dly.cells)) (hB : Arr h l2 2 (R.qs.map Pas.cells)) (hok : rmOk R) (hl : lim ≤ h.length)
    (hK : ∀ sg rs g, NewD h g sg 27 1 ssCells ssRows 22 rs → rs.map (·.1) = zlR R → K (.lf sg) g) : CallT S false 93 [.agg (R.cells l l2)] h lim K := by
  have hn8 : (lensR R).length ≤ 8 := by rw [lensR_len]; have := hok.2; omega
  have h64 := hok.1
  have kb := Kept.app h [⟨R.cells l l2, .own 59 1⟩]
  have hle : (R.cells l l2).length = 4 := rfl
  have hte : List.take 4 (R.cells l l2) = R.cells l l2 := rfl
  have hlb : lim ≤ (h ++ [⟨R.cells l l2, .own 59 1⟩] : Hp).length := by simp; omega
  refine CallT_of_body (F := L93) (HasRz.f93) rfl ?_; unfold L93; dsimp only []
  repeat' (first | (simp (disch := first | omega | assumption | (simp only [List.length_set]; omega) | (simp [*] <;> fail) | assumption) [-Bool.decide_and, -Bool.decide_or, -Bool.not_and, -Bool.not_or, toNat_pred, toNat_succ, wrap64, wr_new, wr_new0, ok_if, ok_ifn, iadV_sl, makeV_int, decT, decF, over_at, *]) | (with_reducible refine Gd_split (fun hc => ?_) (fun hc => ?_) <;> (have hc2 := hc; try simp at hc2)) | (with_reducible refine Br_split (fun hc => ?_) (fun hc => ?_) <;> (have hc2 := hc; try simp at hc2)) | (with_reducible refine GdT_split (fun hc => ?_) (fun hc => ?_) <;> (have hc2 := hc; try simp at hc2)) | (with_reducible refine WT_alt ?_ ?_) | omega)
  refine c_lengths (hA.kept kb) (hB.kept kb) (rm_small hok) (by simp; omega) fun ln g0 hN => ?_
  have hLA := hN.arr
  generalize hns : lensR R = ns at *
  have hzl : zlR R = ns.map zerL := by unfold zlR; rw [hns]
  rw [hzl] at hK
  have hk0 := hN.kept
  replace hK : ∀ sg rs g, NewD (h ++ [⟨R.cells l l2, .own 59 1⟩]) g sg 27 1 ssCells ssRows 22 rs → rs.map (·.1) = ns.map zerL → K (.lf sg) g := fun sg rs g h1 h2 => hK sg rs g (h1.base kb) h2
  clear hA hB hok hzl hns hle hte kb
  generalize (h ++ [⟨R.cells l l2, .own 59 1⟩] : Hp) = hb at *
  repeat' (first | (simp (disch := first | omega | assumption | (simp only [List.length_set]; omega) | (simp [*] <;> fail) | assumption) [-Bool.decide_and, -Bool.decide_or, -Bool.not_and, -Bool.not_or, toNat_pred, toNat_succ, wrap64, wr_new, wr_new0, ok_if, ok_ifn, iadV_sl, makeV_int, decT, decF, over_at, *, hLA.len]) | (with_reducible refine Gd_split (fun hc => ?_) (fun hc => ?_) <;> (have hc2 := hc; try simp at hc2)) | (with_reducible refine Br_split (fun hc => ?_) (fun hc => ?_) <;> (have hc2 := hc; try simp at hc2)) | (with_reducible refine GdT_split (fun hc => ?_) (fun hc => ?_) <;> (have hc2 := hc; try simp at hc2)) | (with_reducible refine WT_alt ?_ ?_) | omega)
  refine WL_forM 523816 (by decide +kernel) (ns.length) (fun i b g => i ≤ ns.length ∧ b 9 = .lf (.int .i64 i) ∧ New hb g ln 2 1 (ns.map il) ∧ ∃ o qs, b 3 = .lf o ∧ NewD hb g o 27 1 ssCells ssRows 22 qs ∧ qs.map (·.1) = mapTo zerL ns i ∧ Far o ln) (fun _ _ _ hi => hi.1) ⟨by omega, by simp, hN, .nils, [], by simp, NewD.start hk0, by simp, Far.nil_left⟩ ?_
  rintro i b g ⟨hi, e4, hLN, o, qs, e3, hD, hq, hF⟩
  have hk := hD.kept
  have hk1 := hk.1
  have hA1 := hLN.arr
  have hql : qs.length = i := by have := congrArg List.length hq; rw [mapTo_len' hi] at this; simpa using this
  by_cases hlt : i < ns.length
  · have h1 := h64 _ (List.getElem_mem hlt)
    unfold in64 at h1
    obtain ⟨m, hm⟩ : ∃ m : Nat, ns[i] = (m : Int) := ⟨ns[i].toNat, by omega⟩
    have hz : zerL ns[i] = List.replicate m 0 := by rw [hm]; rfl
    have hm64 : m ≤ 64 := by omega
    have hqE : mapTo zerL ns (i + 1) = qs.map (·.1) ++ [List.replicate m 0] := by rw [hq, mapTo_succ hlt, hz]
    have hqH : Hid (mapTo zerL ns (i + 1) = qs.map (·.1) ++ [List.replicate m 0]) := hqE
    have d1 := hA1.rd1 hlt
    have a1 := hA1.at_ (k := .i64) hlt
    rw [hm] at d1
    clear hqE hq hK hz
    repeat' (first | (simp (disch := first | omega | assumption | (simp only [List.length_set]; omega) | (simp [*] <;> fail) | assumption) [-Bool.decide_and, -Bool.decide_or, -Bool.not_and, -Bool.not_or, toNat_pred, toNat_succ, wrap64, wr_new, wr_new0, ok_if, ok_ifn, iadV_sl, makeV_int, decT, decF, over_at, *, hA1.len, hA1.at_, hA1.at_', hA1.rd, hA1.rdIn, hA1.rdIn0, hA1.rdA, hA1.rdInA, hA1.rdIn0A, d1, il]) | (with_reducible refine Gd_split (fun hc => ?_) (fun hc => ?_) <;> (have hc2 := hc; try simp at hc2)) | (with_reducible refine Br_split (fun hc => ?_) (fun hc => ?_) <;> (have hc2 := hc; try simp at hc2)) | (with_reducible refine GdT_split (fun hc => ?_) (fun hc => ?_) <;> (have hc2 := hc; try simp at hc2)) | (with_reducible refine WT_alt ?_ ?_) | omega)
    refine c_zeros (by omega) (by omega) fun c g2 hC => ?_
    obtain ⟨hf0, hf1⟩ := hD.fresh hC
    have hC1 := hC.base hk
    have hD1 := hD.later hC.kept
    have hLN1 := hLN.later hC.kept
    have hg2 := hC.kept.1
    clear hC
    repeat' (first | (simp (disch := first | omega | assumption | (simp only [List.length_set]; omega) | (simp [*] <;> fail) | assumption) [-Bool.decide_and, -Bool.decide_or, -Bool.not_and, -Bool.not_or, toNat_pred, toNat_succ, wrap64, wr_new, wr_new0, ok_if, ok_ifn, iadV_sl, makeV_int, decT, decF, over_at, *, leavesAll, fillL]) | (with_reducible refine Gd_split (fun hc => ?_) (fun hc => ?_) <;> (have hc2 := hc; try simp at hc2)) | (with_reducible refine Br_split (fun hc => ?_) (fun hc => ?_) <;> (have hc2 := hc; try simp at hc2)) | (with_reducible refine GdT_split (fun hc => ?_) (fun hc => ?_) <;> (have hc2 := hc; try simp at hc2)) | (with_reducible refine WT_alt ?_ ?_) | omega)
    refine oc_push (bytes := 24) (r := [c]) hD1.out ?_ ?_ ?_ (by decide) rfl (by decide)
    · omega
    · simp; omega
    intro o2 g5 hN5 hB5
    have hP := hD1.push (a := List.replicate m 0) hC1 hf0 hf1 (Kept.refl _) hN5 hB5 rfl
    have hlo : o ≠ .nils → hb.length ≤ o.id := fun q => (hD.out.lt q).1
    have hLN5 := hB5.new hLN1 hlo (fun q1 q2 => (hF q1 q2).symm)
    have hF5 : Far o2 ln := (hB5.farR hF.symm (fun q => (hLN1.lt q).2)).symm
    clear hB5 hN5 hLN hF hLN1
    repeat' (first | (simp (disch := first | omega | assumption | (simp only [List.length_set]; omega) | (simp [*] <;> fail) | assumption) [-Bool.decide_and, -Bool.decide_or, -Bool.not_and, -Bool.not_or, toNat_pred, toNat_succ, wrap64, wr_new, wr_new0, ok_if, ok_ifn, iadV_sl, makeV_int, decT, decF, over_at, *]) | (with_reducible refine Gd_split (fun hc => ?_) (fun hc => ?_) <;> (have hc2 := hc; try simp at hc2)) | (with_reducible refine Br_split (fun hc => ?_) (fun hc => ?_) <;> (have hc2 := hc; try simp at hc2)) | (with_reducible refine GdT_split (fun hc => ?_) (fun hc => ?_) <;> (have hc2 := hc; try simp at hc2)) | (with_reducible refine WT_alt ?_ ?_) | omega)
    exact ⟨hlt, _, hP, by rw [show mapTo zerL ns (i + 1) = _ from hqH]; simp⟩
  · have : i = ns.length := by omega
    subst this
    have hk2 := hK _ _ _ hD (by rw [hq, mapTo_all])
    clear hK
    repeat' (first | (simp (disch := first | omega | assumption | (simp only [List.length_set]; omega) | (simp [*] <;> fail) | assumption) [-Bool.decide_and, -Bool.decide_or, -Bool.not_and, -Bool.not_or, toNat_pred, toNat_succ, wrap64, wr_new, wr_new0, ok_if, ok_ifn, iadV_sl, makeV_int, decT, decF, over_at, *]) | (with_reducible refine Gd_split (fun hc => ?_) (fun hc => ?_) <;> (have hc2 := hc; try simp at hc2)) | (with_reducible refine Br_split (fun hc => ?_) (fun hc => ?_) <;> (have hc2 := hc; try simp at hc2)) | (with_reducible refine GdT_split (fun hc => ?_) (fun hc => ?_) <;> (have hc2 := hc; try simp at hc2)) | (with_reducible refine WT_alt ?_ ?_) | omega)
set_option maxHeartbeats 4000000 in
theorem c_specAnswerOf {c : Int} (hA : Arr h l 5 (R.ds.map Dly.cells)) (hB : Arr h l2 2 (R.qs.map Pas.cells)) (hl : lim ≤ h.length)
    (hK : ∀ o g, New h g o 22 1 ((anR R c).map fl) → K (.tup [.lf o, .lf (.bool (decide (okAn R c)))]) g) : CallT S false 25 [.agg (R.cells l l2), .lf (.int .i64 c)] h lim K := by
  have kb := Kept.app h [⟨R.cells l l2, .own 59 1⟩]
  have hr : rdCells (h ++ [⟨R.cells l l2, .own 59 1⟩]) h.length 0 4 = some (R.cells l l2) := Cel.new.rd (by simp [Rm.cells])
  have hle : (R.cells l l2).length = 4 := rfl
  have hlb : (h ++ [⟨R.cells l l2, .own 59 1⟩] : Hp).length = h.length + 1 := by simp
  have hv := fun lim K => c_l03Is (S := S) (lim := lim) (K := K) hr (hA.kept kb) (hB.kept kb)
  by_cases hok : okAn R c
  · unfold anR at hK
    rw [if_pos hok, decide_eq_true hok] at hK
    obtain ⟨k1, k3, k4⟩ := hok
    rw [decide_eq_true k1] at hv
    obtain ⟨n, rfl⟩ : ∃ n : Nat, c = n := ⟨c.toNat, by omega⟩
    rw [Int.toNat_natCast] at hK
    have hlok := fit_lines k1 (zlR_fit k1)
    have hds : R.ds.length ≤ 100 ∧ R.qs.length ≤ 100 := by have := k1.2; omega
    replace hK : ∀ o g, New (h ++ [⟨R.cells l l2, .own 59 1⟩]) g o 22 1 ((rmTo R (zlR R) (imp n) n).1.map fl) → K (.tup [.lf o, .lf (.bool true)]) g := fun o g h1 => hK o g (h1.base kb)
    replace hA := hA.kept kb
    replace hB := hB.kept kb
    have hemp := fun K hK => c_l03Empty (S := S) (lim := lim) (K := K) hr hA hB k1 (by omega) hK
    refine CallT_of_body (F := L25) (HasRz.f25) rfl ?_; unfold L25; dsimp only []
    repeat' (first | (simp (disch := first | omega | assumption | (simp only [List.length_set]; omega) | (simp [*] <;> fail) | assumption) [-Bool.decide_and, -Bool.decide_or, -Bool.not_and, -Bool.not_or, toNat_pred, toNat_succ, wrap64, wr_new, wr_new0, ok_if, ok_ifn, iadV_sl, makeV_int, decT, decF, over_at, *]) | (with_reducible refine Gd_split (fun hc => ?_) (fun hc => ?_) <;> (have hc2 := hc; try simp at hc2)) | (with_reducible refine Br_split (fun hc => ?_) (fun hc => ?_) <;> (have hc2 := hc; try simp at hc2)) | (with_reducible refine GdT_split (fun hc => ?_) (fun hc => ?_) <;> (have hc2 := hc; try simp at hc2)) | (with_reducible refine WT_alt ?_ ?_) | omega)
    generalize (h ++ [⟨R.cells l l2, .own 59 1⟩] : Hp) = hb at *
    generalize zlR R = ls at *
    have hlb' : lim ≤ hb.length := by omega
    refine hemp _ fun sg1 rs' g hD hq2 => ?_
    have hk := hD.kept
    clear hemp k1 hv
    repeat' (first | (simp (disch := first | omega | assumption | (simp only [List.length_set]; omega) | (simp [*] <;> fail) | assumption) [-Bool.decide_and, -Bool.decide_or, -Bool.not_and, -Bool.not_or, toNat_pred, toNat_succ, wrap64, wr_new, wr_new0, ok_if, ok_ifn, iadV_sl, makeV_int, decT, decF, over_at, *, leavesAll, fillL]) | (with_reducible refine Gd_split (fun hc => ?_) (fun hc => ?_) <;> (have hc2 := hc; try simp at hc2)) | (with_reducible refine Br_split (fun hc => ?_) (fun hc => ?_) <;> (have hc2 := hc; try simp at hc2)) | (with_reducible refine GdT_split (fun hc => ?_) (fun hc => ?_) <;> (have hc2 := hc; try simp at hc2)) | (with_reducible refine WT_alt ?_ ?_) | omega)
    refine WL_forM 268173698 (by decide +kernel) (n) (fun k b2 g2 => k ≤ n ∧ (∃ m : Nat, b2 1 = .lf (.int .i64 m) ∧ m + k = n) ∧ b2 8 = .lf (.flt .f32 (if k = 0 then 1065353216 else 0)) ∧ ∃ o rs2, b2 7 = .lf o ∧ New hb g2 o 22 1 ((rmTo R ls (imp n) k).1.map fl) ∧ NewD hb g2 sg1 27 1 ssCells ssRows 22 rs2 ∧ rs2.map (·.1) = (rmTo R ls (imp n) k).2 ∧ ∀ t ∈ lvs sg1 rs2, Far o t) (fun _ _ _ hi => hi.1) ⟨by omega, ⟨n, by simp, by omega⟩, by simp, .sl g.length 0 0 1, rs', by simp, New.litN hk, hD.later (Kept.app _ _), hq2, fun t ht q1 q2 => by have := (hD.lvs_lt t ht q2).2; simp; omega⟩ ?_
    rintro k b2 g2 ⟨hkx, ⟨m, e1, hmk⟩, e37, o, rs2, e11, hO, hD2, hm2, hF⟩
    have hk2 := hD2.kept
    have hkl2 := hk2.1
    have hol := rmTo_len (R := R) (ls := ls) (xs := imp n) (i := k)
    by_cases hkt : k < n
    · have hokr := hlok.same (rmTo_same (R := R) (ls := ls) (xs := imp n) (i := k))
      have hstep : rmTo R ls (imp n) (k + 1) = ((rmTo R ls (imp n) k).1 ++ [(roomS R (rmTo R ls (imp n) k).2 (if k = 0 then 1065353216 else 0)).1], (roomS R (rmTo R ls (imp n) k).2 (if k = 0 then 1065353216 else 0)).2) := by
        rw [← imp_get hkt]; rfl
      obtain ⟨m', rfl⟩ : ∃ m', m = m' + 1 := ⟨m - 1, by omega⟩
      generalize rmTo R ls (imp n) k = st at *
      obtain ⟨outs, lk⟩ := st
      simp only at hO hm2 hol hokr hstep
      generalize (if k = 0 then 1065353216 else 0 : Nat) = x at *
      have hroom := fun K hK => c_l03Room (S := S) (lim := lim) (K := K) (x := x) hr hA hB hD2 (by rw [hm2]; exact hokr) hds hlb' hK
      rw [hm2] at hroom
      have hstepH : Hid (rmTo R ls (imp n) (k + 1) = (outs ++ [(roomS R lk x).1], (roomS R lk x).2)) := hstep
      generalize roomS R lk x = res at *
      obtain ⟨ry, rl⟩ := res
      simp only at hroom
      clear hK hstep hq2 hD hm2
      repeat' (first | (simp (disch := first | omega | assumption | (simp only [List.length_set]; omega) | (simp [*] <;> fail) | assumption) [-Bool.decide_and, -Bool.decide_or, -Bool.not_and, -Bool.not_or, toNat_pred, toNat_succ, wrap64, wr_new, wr_new0, ok_if, ok_ifn, iadV_sl, makeV_int, decT, decF, over_at, *]) | (with_reducible refine Gd_split (fun hc => ?_) (fun hc => ?_) <;> (have hc2 := hc; try simp at hc2)) | (with_reducible refine Br_split (fun hc => ?_) (fun hc => ?_) <;> (have hc2 := hc; try simp at hc2)) | (with_reducible refine GdT_split (fun hc => ?_) (fun hc => ?_) <;> (have hc2 := hc; try simp at hc2)) | (with_reducible refine WT_alt ?_ ?_) | omega)
      refine hroom _ fun g3 rs3 hD3 hm3 hB3 hlv => ?_
      have hlo : ∀ t ∈ lvs sg1 rs2, t ≠ .nils → hb.length ≤ t.id := fun t ht q => (hD2.lvs_lt t ht q).1
      have hO3 := hB3.new hO hlo (fun t ht => (hF t ht).symm)
      have hF3 : ∀ t ∈ lvs sg1 rs3, Far o t := by rw [hlv]; exact hF
      have hkl3 := hD3.kept.1
      have hmH : Hid (rs3.map (·.1) = rl) := hm3
      clear hroom hB3 hO hD2 hm3 hF hlv
      repeat' (first | (simp (disch := first | omega | assumption | (simp only [List.length_set]; omega) | (simp [*] <;> fail) | assumption) [-Bool.decide_and, -Bool.decide_or, -Bool.not_and, -Bool.not_or, toNat_pred, toNat_succ, wrap64, wr_new, wr_new0, ok_if, ok_ifn, iadV_sl, makeV_int, decT, decF, over_at, *, leavesAll, fillL]) | (with_reducible refine Gd_split (fun hc => ?_) (fun hc => ?_) <;> (have hc2 := hc; try simp at hc2)) | (with_reducible refine Br_split (fun hc => ?_) (fun hc => ?_) <;> (have hc2 := hc; try simp at hc2)) | (with_reducible refine GdT_split (fun hc => ?_) (fun hc => ?_) <;> (have hc2 := hc; try simp at hc2)) | (with_reducible refine WT_alt ?_ ?_) | omega)
      refine oc_push (bytes := 4) (r := [.flt .f32 ry]) hO3 ?_ ?_ ?_ (by decide) rfl (by decide)
      · omega
      · simp; omega
      intro o2 g6 hO6 hB6
      have hloc : o ≠ .nils → hb.length ≤ o.id := fun q => (hO3.lt q).1
      have hD6 := hD3.but hB6 hloc (hF3 sg1 lvs_head).symm (fun p hp => (hF3 p.2 (by unfold lvs; exact List.mem_cons_of_mem _ (List.mem_map.2 ⟨p, hp, rfl⟩))).symm)
      have hF6 : ∀ t ∈ lvs sg1 rs3, Far o2 t := fun t ht => (hB6.farR (hF3 t ht).symm (fun q => (hD3.lvs_lt t ht q).2)).symm
      clear hB6 hO3 hD3 hF3
      repeat' (first | (simp (disch := first | omega | assumption | (simp only [List.length_set]; omega) | (simp [*] <;> fail) | assumption) [-Bool.decide_and, -Bool.decide_or, -Bool.not_and, -Bool.not_or, toNat_pred, toNat_succ, wrap64, wr_new, wr_new0, ok_if, ok_ifn, iadV_sl, makeV_int, decT, decF, over_at, *]) | (with_reducible refine Gd_split (fun hc => ?_) (fun hc => ?_) <;> (have hc2 := hc; try simp at hc2)) | (with_reducible refine Br_split (fun hc => ?_) (fun hc => ?_) <;> (have hc2 := hc; try simp at hc2)) | (with_reducible refine GdT_split (fun hc => ?_) (fun hc => ?_) <;> (have hc2 := hc; try simp at hc2)) | (with_reducible refine WT_alt ?_ ?_) | omega)
      exact ⟨by omega, ⟨m', by omega, by omega⟩, by rw [show rmTo R ls (imp n) (k + 1) = _ from hstepH, List.map_append]; exact hO6, _, hD6, by rw [show rmTo R ls (imp n) (k + 1) = _ from hstepH]; exact hmH, hF6⟩
    · have : k = n := by omega
      subst this
      have hk5 := hK _ _ hO
      have : m = 0 := by omega
      subst this
      clear hK
      repeat' (first | (simp (disch := first | omega | assumption | (simp only [List.length_set]; omega) | (simp [*] <;> fail) | assumption) [-Bool.decide_and, -Bool.decide_or, -Bool.not_and, -Bool.not_or, toNat_pred, toNat_succ, wrap64, wr_new, wr_new0, ok_if, ok_ifn, iadV_sl, makeV_int, decT, decF, over_at, *]) | (with_reducible refine Gd_split (fun hc => ?_) (fun hc => ?_) <;> (have hc2 := hc; try simp at hc2)) | (with_reducible refine Br_split (fun hc => ?_) (fun hc => ?_) <;> (have hc2 := hc; try simp at hc2)) | (with_reducible refine GdT_split (fun hc => ?_) (fun hc => ?_) <;> (have hc2 := hc; try simp at hc2)) | (with_reducible refine WT_alt ?_ ?_) | omega)
  · have hk2 := hK .nils _ (by unfold anR; rw [if_neg hok]; exact New.nil kb)
    rw [decide_eq_false hok] at hk2
    clear hK
    by_cases k1 : rmOk R
    · rw [decide_eq_true k1] at hv
      have k3 : ¬ (1 ≤ c ∧ c ≤ 256) := fun q => hok ⟨k1, q.1, q.2⟩
      clear hok k1
      refine CallT_of_body (F := L25) (HasRz.f25) rfl ?_; unfold L25; dsimp only []
      repeat' (first | (simp (disch := first | omega | assumption | (simp only [List.length_set]; omega) | (simp [*] <;> fail) | assumption) [-Bool.decide_and, -Bool.decide_or, -Bool.not_and, -Bool.not_or, toNat_pred, toNat_succ, wrap64, wr_new, wr_new0, ok_if, ok_ifn, iadV_sl, makeV_int, decT, decF, over_at, *]) | (with_reducible refine Gd_split (fun hc => ?_) (fun hc => ?_) <;> (have hc2 := hc; try simp at hc2)) | (with_reducible refine Br_split (fun hc => ?_) (fun hc => ?_) <;> (have hc2 := hc; try simp at hc2)) | (with_reducible refine GdT_split (fun hc => ?_) (fun hc => ?_) <;> (have hc2 := hc; try simp at hc2)) | (with_reducible refine WT_alt ?_ ?_) | omega)
    · rw [decide_eq_false k1] at hv
      clear hok k1
      refine CallT_of_body (F := L25) (HasRz.f25) rfl ?_; unfold L25; dsimp only []
      repeat' (first | (simp (disch := first | omega | assumption | (simp only [List.length_set]; omega) | (simp [*] <;> fail) | assumption) [-Bool.decide_and, -Bool.decide_or, -Bool.not_and, -Bool.not_or, toNat_pred, toNat_succ, wrap64, wr_new, wr_new0, ok_if, ok_ifn, iadV_sl, makeV_int, decT, decF, over_at, *]) | (with_reducible refine Gd_split (fun hc => ?_) (fun hc => ?_) <;> (have hc2 := hc; try simp at hc2)) | (with_reducible refine Br_split (fun hc => ?_) (fun hc => ?_) <;> (have hc2 := hc; try simp at hc2)) | (with_reducible refine GdT_split (fun hc => ?_) (fun hc => ?_) <;> (have hc2 := hc; try simp at hc2)) | (with_reducible refine WT_alt ?_ ?_) | omega)
set_option maxHeartbeats 4000000 in
theorem c_implAnswerOf {c : Int} (hA : Arr h l 5 (R.ds.map Dly.cells)) (hB : Arr h l2 2 (R.qs.map Pas.cells)) (hl : lim ≤ h.length)
    (hK : ∀ o g, New h g o 22 1 ((anR R c).map fl) → K (.tup [.lf o, .lf (.bool (decide (okAn R c)))]) g) : CallT S false 27 [.agg (R.cells l l2), .lf (.int .i64 c)] h lim K := by
  have kb := Kept.app h [⟨R.cells l l2, .own 59 1⟩]
  have hle : (R.cells l l2).length = 4 := rfl
  have hte : List.take 4 (R.cells l l2) = R.cells l l2 := rfl
  have hr : rdCells (h ++ [⟨R.cells l l2, .own 59 1⟩]) h.length 0 4 = some (R.cells l l2) := Cel.new.rd (by simp [Rm.cells])
  have hlb : (h ++ [⟨R.cells l l2, .own 59 1⟩] : Hp).length = h.length + 1 := by simp
  have hv := fun lim K => c_ValidRoom (S := S) (lim := lim) (K := K) (hA.kept kb) (hB.kept kb)
  by_cases hok : okAn R c
  · unfold anR at hK
    rw [if_pos hok, decide_eq_true hok] at hK
    obtain ⟨k1, k3, k4⟩ := hok
    rw [decide_eq_true k1] at hv
    obtain ⟨n, rfl⟩ : ∃ n : Nat, c = n := ⟨c.toNat, by omega⟩
    rw [Int.toNat_natCast] at hK
    have hlok := fit_lines k1 (zlR_fit k1)
    have hds : R.ds.length ≤ 100 ∧ R.qs.length ≤ 100 := by have := k1.2; omega
    have hn256 : n ≤ 256 := by omega
    replace hK : ∀ o g, New (h ++ [⟨R.cells l l2, .own 59 1⟩]) g o 22 1 ((rmTo R (zlR R) (imp n) n).1.map fl) → K (.tup [.lf o, .lf (.bool true)]) g := fun o g h1 => hK o g (h1.base kb)
    replace hA := hA.kept kb
    replace hB := hB.kept kb
    have hemp := fun lim K hl hK => c_empty (S := S) (lim := lim) (K := K) hA hB k1 hl hK
    have hfin : ∀ {g2 : Hp} {sg : Lf} {rs : List (List Nat × Lf)} {lx : Lf} {lim' : Nat} {K' : CV → Hp → Prop}, lim' ≤ g2.length → NewD (h ++ [⟨R.cells l l2, .own 59 1⟩]) g2 sg 27 1 ssCells ssRows 22 rs → rs.map (·.1) = zlR R → Arr g2 lx 1 ((imp n).map fl) → (∀ o sg' g3, New (h ++ [⟨R.cells l l2, .own 59 1⟩]) g3 o 22 1 ((rmTo R (zlR R) (imp n) n).1.map fl) → K' (.tup [.lf o, .lf sg']) g3) → CallT S false 92 [.agg (R.cells l l2), .lf sg, .lf lx] g2 lim' K' := by
      intro g2 sg rs lx lim' K' h1 hD hq hX hK'
      refine c_rmRun (hA.kept hD.kept) (hB.kept hD.kept) hD.arr (Sms.new hD) hX (by rw [hq]; exact hlok) hds (by rw [imp_len]; exact hn256) h1 fun o sg' rs' g3 q1 q2 q3 q4 => hK' o sg' g3 ?_
      rw [hq, imp_len] at q1
      exact q1.base hD.kept
    have hlb2 : lim ≤ (h ++ [⟨R.cells l l2, .own 59 1⟩] : Hp).length := by omega
    clear hlok hds
    refine CallT_of_body (F := L27) (HasRz.f27) rfl ?_; unfold L27; dsimp only []
    repeat' (first | (simp (disch := first | omega | assumption | (simp only [List.length_set]; omega) | (simp [*] <;> fail) | assumption) [-Bool.decide_and, -Bool.decide_or, -Bool.not_and, -Bool.not_or, toNat_pred, toNat_succ, wrap64, wr_new, wr_new0, ok_if, ok_ifn, iadV_sl, makeV_int, decT, decF, over_at, *]) | (with_reducible refine Gd_split (fun hc => ?_) (fun hc => ?_) <;> (have hc2 := hc; try simp at hc2)) | (with_reducible refine Br_split (fun hc => ?_) (fun hc => ?_) <;> (have hc2 := hc; try simp at hc2)) | (with_reducible refine GdT_split (fun hc => ?_) (fun hc => ?_) <;> (have hc2 := hc; try simp at hc2)) | (with_reducible refine WT_alt ?_ ?_) | omega)
    · refine hemp _ _ hlb2 fun sg rs g hD hq => ?_
      have hkg := hD.kept.1
      repeat' (first | (simp (disch := first | omega | assumption | (simp only [List.length_set]; omega) | (simp [*] <;> fail) | assumption) [-Bool.decide_and, -Bool.decide_or, -Bool.not_and, -Bool.not_or, toNat_pred, toNat_succ, wrap64, wr_new, wr_new0, ok_if, ok_ifn, iadV_sl, makeV_int, decT, decF, over_at, *]) | (with_reducible refine Gd_split (fun hc => ?_) (fun hc => ?_) <;> (have hc2 := hc; try simp at hc2)) | (with_reducible refine Br_split (fun hc => ?_) (fun hc => ?_) <;> (have hc2 := hc; try simp at hc2)) | (with_reducible refine GdT_split (fun hc => ?_) (fun hc => ?_) <;> (have hc2 := hc; try simp at hc2)) | (with_reducible refine WT_alt ?_ ?_) | omega)
      refine c_impulse hn256 (by omega) fun lx g2 hX => ?_
      have hD2 := hD.later hX.kept
      have hkg2 := hX.kept.1
      have hf := fun lim' K' h1 => hfin (lim' := lim') (K' := K') h1 hD2 hq hX.arr
      clear hfin hD hemp hX hD2 hq
      repeat' (first | (simp (disch := first | omega | assumption | (simp only [List.length_set]; omega) | (simp [*] <;> fail) | assumption) [-Bool.decide_and, -Bool.decide_or, -Bool.not_and, -Bool.not_or, toNat_pred, toNat_succ, wrap64, wr_new, wr_new0, ok_if, ok_ifn, iadV_sl, makeV_int, decT, decF, over_at, *]) | (with_reducible refine Gd_split (fun hc => ?_) (fun hc => ?_) <;> (have hc2 := hc; try simp at hc2)) | (with_reducible refine Br_split (fun hc => ?_) (fun hc => ?_) <;> (have hc2 := hc; try simp at hc2)) | (with_reducible refine GdT_split (fun hc => ?_) (fun hc => ?_) <;> (have hc2 := hc; try simp at hc2)) | (with_reducible refine WT_alt ?_ ?_) | omega)
      refine hf _ _ (by omega) fun o sg' g3 hO => ?_
      have hk5 := hK _ _ hO
      clear hK hf hO
      repeat' (first | (simp (disch := first | omega | assumption | (simp only [List.length_set]; omega) | (simp [*] <;> fail) | assumption) [-Bool.decide_and, -Bool.decide_or, -Bool.not_and, -Bool.not_or, toNat_pred, toNat_succ, wrap64, wr_new, wr_new0, ok_if, ok_ifn, iadV_sl, makeV_int, decT, decF, over_at, *]) | (with_reducible refine Gd_split (fun hc => ?_) (fun hc => ?_) <;> (have hc2 := hc; try simp at hc2)) | (with_reducible refine Br_split (fun hc => ?_) (fun hc => ?_) <;> (have hc2 := hc; try simp at hc2)) | (with_reducible refine GdT_split (fun hc => ?_) (fun hc => ?_) <;> (have hc2 := hc; try simp at hc2)) | (with_reducible refine WT_alt ?_ ?_) | omega)
    · refine hemp _ _ hlb2 fun sg rs g hD hq => ?_
      have hkg := hD.kept.1
      have hr2 := hD.kept.rd hr
      repeat' (first | (simp (disch := first | omega | assumption | (simp only [List.length_set]; omega) | (simp [*] <;> fail) | assumption) [-Bool.decide_and, -Bool.decide_or, -Bool.not_and, -Bool.not_or, toNat_pred, toNat_succ, wrap64, wr_new, wr_new0, ok_if, ok_ifn, iadV_sl, makeV_int, decT, decF, over_at, *]) | (with_reducible refine Gd_split (fun hc => ?_) (fun hc => ?_) <;> (have hc2 := hc; try simp at hc2)) | (with_reducible refine Br_split (fun hc => ?_) (fun hc => ?_) <;> (have hc2 := hc; try simp at hc2)) | (with_reducible refine GdT_split (fun hc => ?_) (fun hc => ?_) <;> (have hc2 := hc; try simp at hc2)) | (with_reducible refine WT_alt ?_ ?_) | omega)
      · refine c_impulse hn256 (by omega) fun lx g2 hX => ?_
        have hD2 := hD.later hX.kept
        have hkg2 := hX.kept.1
        have hf := fun lim' K' h1 => hfin (lim' := lim') (K' := K') h1 hD2 hq hX.arr
        clear hfin hD hemp hX hD2 hq
        repeat' (first | (simp (disch := first | omega | assumption | (simp only [List.length_set]; omega) | (simp [*] <;> fail) | assumption) [-Bool.decide_and, -Bool.decide_or, -Bool.not_and, -Bool.not_or, toNat_pred, toNat_succ, wrap64, wr_new, wr_new0, ok_if, ok_ifn, iadV_sl, makeV_int, decT, decF, over_at, *]) | (with_reducible refine Gd_split (fun hc => ?_) (fun hc => ?_) <;> (have hc2 := hc; try simp at hc2)) | (with_reducible refine Br_split (fun hc => ?_) (fun hc => ?_) <;> (have hc2 := hc; try simp at hc2)) | (with_reducible refine GdT_split (fun hc => ?_) (fun hc => ?_) <;> (have hc2 := hc; try simp at hc2)) | (with_reducible refine WT_alt ?_ ?_) | omega)
        refine hf _ _ (by omega) fun o sg' g3 hO => ?_
        have hk5 := hK _ _ hO
        clear hK hf hO
        repeat' (first | (simp (disch := first | omega | assumption | (simp only [List.length_set]; omega) | (simp [*] <;> fail) | assumption) [-Bool.decide_and, -Bool.decide_or, -Bool.not_and, -Bool.not_or, toNat_pred, toNat_succ, wrap64, wr_new, wr_new0, ok_if, ok_ifn, iadV_sl, makeV_int, decT, decF, over_at, *]) | (with_reducible refine Gd_split (fun hc => ?_) (fun hc => ?_) <;> (have hc2 := hc; try simp at hc2)) | (with_reducible refine Br_split (fun hc => ?_) (fun hc => ?_) <;> (have hc2 := hc; try simp at hc2)) | (with_reducible refine GdT_split (fun hc => ?_) (fun hc => ?_) <;> (have hc2 := hc; try simp at hc2)) | (with_reducible refine WT_alt ?_ ?_) | omega)
      · refine c_impulse hn256 (by omega) fun lx g2 hX => ?_
        have hD2 := hD.later hX.kept
        have hkg2 := hX.kept.1
        have hr3 := hX.kept.rd hr2
        have hf := fun lim' K' h1 => hfin (lim' := lim') (K' := K') h1 hD2 hq hX.arr
        clear hfin hD hemp hX hD2 hq hr2
        repeat' (first | (simp (disch := first | omega | assumption | (simp only [List.length_set]; omega) | (simp [*] <;> fail) | assumption) [-Bool.decide_and, -Bool.decide_or, -Bool.not_and, -Bool.not_or, toNat_pred, toNat_succ, wrap64, wr_new, wr_new0, ok_if, ok_ifn, iadV_sl, makeV_int, decT, decF, over_at, *]) | (with_reducible refine Gd_split (fun hc => ?_) (fun hc => ?_) <;> (have hc2 := hc; try simp at hc2)) | (with_reducible refine Br_split (fun hc => ?_) (fun hc => ?_) <;> (have hc2 := hc; try simp at hc2)) | (with_reducible refine GdT_split (fun hc => ?_) (fun hc => ?_) <;> (have hc2 := hc; try simp at hc2)) | (with_reducible refine WT_alt ?_ ?_) | omega)
        refine hf _ _ (by omega) fun o sg' g3 hO => ?_
        have hk5 := hK _ _ hO
        clear hK hf hO
        repeat' (first | (simp (disch := first | omega | assumption | (simp only [List.length_set]; omega) | (simp [*] <;> fail) | assumption) [-Bool.decide_and, -Bool.decide_or, -Bool.not_and, -Bool.not_or, toNat_pred, toNat_succ, wrap64, wr_new, wr_new0, ok_if, ok_ifn, iadV_sl, makeV_int, decT, decF, over_at, *]) | (with_reducible refine Gd_split (fun hc => ?_) (fun hc => ?_) <;> (have hc2 := hc; try simp at hc2)) | (with_reducible refine Br_split (fun hc => ?_) (fun hc => ?_) <;> (have hc2 := hc; try simp at hc2)) | (with_reducible refine GdT_split (fun hc => ?_) (fun hc => ?_) <;> (have hc2 := hc; try simp at hc2)) | (with_reducible refine WT_alt ?_ ?_) | omega)
  · have hk2 := hK .nils _ (by unfold anR; rw [if_neg hok]; exact New.nil kb)
    rw [decide_eq_false hok] at hk2
    clear hK
    by_cases k1 : rmOk R
    · rw [decide_eq_true k1] at hv
      have k3 : ¬ (1 ≤ c ∧ c ≤ 256) := fun q => hok ⟨k1, q.1, q.2⟩
      clear hok k1
      refine CallT_of_body (F := L27) (HasRz.f27) rfl ?_; unfold L27; dsimp only []
      repeat' (first | (simp (disch := first | omega | assumption | (simp only [List.length_set]; omega) | (simp [*] <;> fail) | assumption) [-Bool.decide_and, -Bool.decide_or, -Bool.not_and, -Bool.not_or, toNat_pred, toNat_succ, wrap64, wr_new, wr_new0, ok_if, ok_ifn, iadV_sl, makeV_int, decT, decF, over_at, *]) | (with_reducible refine Gd_split (fun hc => ?_) (fun hc => ?_) <;> (have hc2 := hc; try simp at hc2)) | (with_reducible refine Br_split (fun hc => ?_) (fun hc => ?_) <;> (have hc2 := hc; try simp at hc2)) | (with_reducible refine GdT_split (fun hc => ?_) (fun hc => ?_) <;> (have hc2 := hc; try simp at hc2)) | (with_reducible refine WT_alt ?_ ?_) | omega)
    · rw [decide_eq_false k1] at hv
      clear hok k1
      refine CallT_of_body (F := L27) (HasRz.f27) rfl ?_; unfold L27; dsimp only []
      repeat' (first | (simp (disch := first | omega | assumption | (simp only [List.length_set]; omega) | (simp [*] <;> fail) | assumption) [-Bool.decide_and, -Bool.decide_or, -Bool.not_and, -Bool.not_or, toNat_pred, toNat_succ, wrap64, wr_new, wr_new0, ok_if, ok_ifn, iadV_sl, makeV_int, decT, decF, over_at, *]) | (with_reducible refine Gd_split (fun hc => ?_) (fun hc => ?_) <;> (have hc2 := hc; try simp at hc2)) | (with_reducible refine Br_split (fun hc => ?_) (fun hc => ?_) <;> (have hc2 := hc; try simp at hc2)) | (with_reducible refine GdT_split (fun hc => ?_) (fun hc => ?_) <;> (have hc2 := hc; try simp at hc2)) | (with_reducible refine WT_alt ?_ ?_) | omega)
end
end Go.E
