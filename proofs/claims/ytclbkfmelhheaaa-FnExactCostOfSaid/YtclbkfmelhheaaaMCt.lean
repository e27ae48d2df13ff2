/- What a session costs, both sides. -/
import Derived.Test.YtclbkfmelhheaaaMSv
import Derived.Test.YtclbkfmelhheaaaMHd
set_option linter.unusedVariables false
set_option linter.unusedSimpArgs false
namespace Go.E
open Go
def L109 : LFn := ⟨1, (.seq (.reg [⟨(.some 2), (.mv (.c (.lf .nils))), none⟩])
 (.seq (.reg [⟨(.some 5), (.lit 151 5 0 [] []), none⟩, ⟨(.some 3), (.mv (.t 5)), none⟩])
 (.seq (.seq (.reg [⟨(.some 6), (.mv (.t 0)), none⟩, ⟨(.some 7), (.nilck (.t 6)), none⟩, ⟨(.some 8), (.faddr 1 (.t 7)), none⟩, ⟨(.some 9), (.load false 1 (.t 8)), none⟩, ⟨(.some 10), (.len (.t 9)), none⟩, ⟨(.some 11), (.mv (.c (.lf (.int .i64 0)))), none⟩])
 (.block 0 (.loop (.seq (.reg [⟨(.some 12), (.bin .lss (.t 11) (.t 10)), none⟩])
 (.seq (.cond (.t 12) .skip (.exit 0))
 (.seq (.block 1 (.seq (.reg [⟨(.some 13), (.mv (.t 11)), none⟩, ⟨(.some 4), (.mv (.t 13)), none⟩])
 (.reg [⟨(.some 14), (.mv (.t 3)), none⟩, ⟨(.some 15), (.mv (.t 0)), none⟩, ⟨(.some 16), (.nilck (.t 15)), none⟩, ⟨(.some 17), (.faddr 1 (.t 16)), none⟩, ⟨(.some 18), (.load false 1 (.t 17)), none⟩, ⟨(.some 19), (.mv (.t 4)), none⟩, ⟨(.some 20), (.iaddr 5 (.t 18) (.t 19)), none⟩, ⟨(.some 21), (.lit 22 1 0 [] []), none⟩, ⟨(.some 22), (.call false 141 [(.t 20), (.t 21)]), none⟩, ⟨(.some 23), (.lit 151 5 1 [.nils, (.int .i64 0), (.flt .f32 0), (.bool false), (.bool false)] [(0, (5, (.t 22)))]), none⟩, ⟨(.some 24), (.app 151 5 40 (.t 14) (.t 23)), none⟩, ⟨(.some 3), (.mv (.t 24)), none⟩])))
 (.reg [⟨(.some 25), (.bin .add (.t 11) (.c (.lf (.int .i64 1)))), none⟩, ⟨(.some 11), (.mv (.t 25)), none⟩])))))))
 (.seq (.reg [⟨(.some 26), (.mv (.t 3)), none⟩, ⟨(.some 27), (.call false 164 [(.t 26)]), none⟩, ⟨(.some 2), (.mv (.t 27)), none⟩])
 .ret)))), [(.tmp 2)]⟩
def L110 : LFn := ⟨1, (.seq (.reg [⟨(.some 1), (.box 46 (.t 0)), none⟩, ⟨(.some 2), (.mv (.c (.lf .nils))), none⟩])
 (.seq (.reg [⟨(.some 3), (.mv (.c (.lf .nils))), none⟩, ⟨(.some 4), (.mv (.c (.lf .nils))), none⟩])
 (.seq (.seq (.reg [⟨(.some 7), (.faddr 1 (.t 1)), none⟩, ⟨(.some 8), (.load false 1 (.t 7)), none⟩, ⟨(.some 9), (.len (.t 8)), none⟩, ⟨(.some 10), (.mv (.c (.lf (.int .i64 0)))), none⟩])
 (.block 0 (.loop (.seq (.reg [⟨(.some 11), (.bin .lss (.t 10) (.t 9)), none⟩])
 (.seq (.cond (.t 11) .skip (.exit 0))
 (.seq (.block 1 (.seq (.reg [⟨(.some 12), (.iaddr 5 (.t 8) (.t 10)), none⟩, ⟨(.some 13), (.load true 5 (.t 12)), none⟩, ⟨(.some 6), (.alloc 114 [.nils, (.int .i64 0), (.flt .f32 0), (.bool false), (.bool false)]), none⟩, ⟨none, (.store 5 (.t 6) (.t 13)), none⟩])
 (.any (.op ⟨(.some 14), (.mv (.t 3)), none⟩ (.op ⟨(.some 15), (.faddr 3 (.t 6)), none⟩ (.op ⟨(.some 16), (.load false 1 (.t 15)), none⟩ (.op ⟨(.some 19), (.mv (.t 4)), none⟩ (.op ⟨(.some 20), (.faddr 4 (.t 6)), none⟩ (.alt (.op ⟨(.some 17), (.lit 4 1 1 [(.bool false)] [(0, (1, (.t 16)))]), none⟩ (.alt (.op ⟨(.some 18), (.app 4 1 1 (.t 14) (.t 17)), none⟩ (.op ⟨(.some 21), (.load false 1 (.t 20)), none⟩ (.op ⟨(.some 22), (.lit 4 1 1 [(.bool false)] [(0, (1, (.t 21)))]), none⟩ (.op ⟨(.some 23), (.app 4 1 1 (.t 19) (.t 22)), none⟩ (.op ⟨(.some 3), (.mv (.t 18)), none⟩ (.op ⟨(.some 4), (.mv (.t 23)), none⟩ .nil)))))) (.op ⟨(.some 21), (.load false 1 (.t 20)), none⟩ (.alt (.op ⟨(.some 18), (.app 4 1 1 (.t 14) (.t 17)), none⟩ (.op ⟨(.some 22), (.lit 4 1 1 [(.bool false)] [(0, (1, (.t 21)))]), none⟩ (.op ⟨(.some 23), (.app 4 1 1 (.t 19) (.t 22)), none⟩ (.op ⟨(.some 3), (.mv (.t 18)), none⟩ (.op ⟨(.some 4), (.mv (.t 23)), none⟩ .nil))))) (.op ⟨(.some 22), (.lit 4 1 1 [(.bool false)] [(0, (1, (.t 21)))]), none⟩ (.op ⟨(.some 18), (.app 4 1 1 (.t 14) (.t 17)), none⟩ (.op ⟨(.some 23), (.app 4 1 1 (.t 19) (.t 22)), none⟩ (.op ⟨(.some 3), (.mv (.t 18)), none⟩ (.op ⟨(.some 4), (.mv (.t 23)), none⟩ .nil))))))))) (.op ⟨(.some 21), (.load false 1 (.t 20)), none⟩ (.alt (.op ⟨(.some 17), (.lit 4 1 1 [(.bool false)] [(0, (1, (.t 16)))]), none⟩ (.alt (.op ⟨(.some 18), (.app 4 1 1 (.t 14) (.t 17)), none⟩ (.op ⟨(.some 22), (.lit 4 1 1 [(.bool false)] [(0, (1, (.t 21)))]), none⟩ (.op ⟨(.some 23), (.app 4 1 1 (.t 19) (.t 22)), none⟩ (.op ⟨(.some 3), (.mv (.t 18)), none⟩ (.op ⟨(.some 4), (.mv (.t 23)), none⟩ .nil))))) (.op ⟨(.some 22), (.lit 4 1 1 [(.bool false)] [(0, (1, (.t 21)))]), none⟩ (.op ⟨(.some 18), (.app 4 1 1 (.t 14) (.t 17)), none⟩ (.op ⟨(.some 23), (.app 4 1 1 (.t 19) (.t 22)), none⟩ (.op ⟨(.some 3), (.mv (.t 18)), none⟩ (.op ⟨(.some 4), (.mv (.t 23)), none⟩ .nil))))))) (.op ⟨(.some 22), (.lit 4 1 1 [(.bool false)] [(0, (1, (.t 21)))]), none⟩ (.op ⟨(.some 17), (.lit 4 1 1 [(.bool false)] [(0, (1, (.t 16)))]), none⟩ (.op ⟨(.some 18), (.app 4 1 1 (.t 14) (.t 17)), none⟩ (.op ⟨(.some 23), (.app 4 1 1 (.t 19) (.t 22)), none⟩ (.op ⟨(.some 3), (.mv (.t 18)), none⟩ (.op ⟨(.some 4), (.mv (.t 23)), none⟩ .nil)))))))))))))))))
 (.reg [⟨(.some 24), (.bin .add (.t 10) (.c (.lf (.int .i64 1)))), none⟩, ⟨(.some 10), (.mv (.t 24)), none⟩])))))))
 (.seq (.reg [⟨(.some 25), (.mv (.t 3)), none⟩, ⟨(.some 26), (.mv (.t 4)), none⟩, ⟨(.some 27), (.call false 170 [(.t 25), (.t 26)]), none⟩, ⟨(.some 2), (.mv (.t 27)), none⟩])
 .ret)))), [(.tmp 2)]⟩
def L38 : LFn := ⟨1, (.seq (.reg [⟨(.some 1), (.box 46 (.t 0)), none⟩, ⟨(.some 2), (.mv (.c (.lf (.int .i64 0)))), none⟩, ⟨(.some 3), (.mv (.c (.lf (.bool false)))), none⟩])
 (.seq (.seq (.reg [⟨(.some 8), (.call true 70 [(.t 1)]), none⟩, ⟨(.some 9), (.una .not (.t 8)), none⟩])
 (.cond (.t 9) (.seq (.reg [⟨(.some 2), (.mv (.c (.lf (.int .i64 0)))), none⟩, ⟨(.some 3), (.mv (.c (.lf (.bool false)))), none⟩])
 .ret) .skip))
 (.seq (.reg [⟨(.some 4), (.mv (.c (.lf (.int .i64 0)))), none⟩])
 (.seq (.seq (.reg [⟨(.some 10), (.faddr 0 (.t 1)), none⟩, ⟨(.some 11), (.load false 1 (.t 10)), none⟩, ⟨(.some 12), (.len (.t 11)), none⟩, ⟨(.some 13), (.mv (.c (.lf (.int .i64 0)))), none⟩])
 (.block 0 (.loop (.seq (.reg [⟨(.some 14), (.bin .lss (.t 13) (.t 12)), none⟩])
 (.seq (.cond (.t 14) .skip (.exit 0))
 (.seq (.block 1 (.seq (.reg [⟨(.some 15), (.mv (.t 13)), none⟩, ⟨(.some 5), (.mv (.t 15)), none⟩])
 (.reg [⟨(.some 16), (.mv (.t 4)), none⟩, ⟨(.some 17), (.faddr 0 (.t 1)), none⟩, ⟨(.some 18), (.load false 1 (.t 17)), none⟩, ⟨(.some 19), (.mv (.t 5)), none⟩, ⟨(.some 20), (.iaddr 3 (.t 18) (.t 19)), none⟩, ⟨(.some 21), (.faddr 2 (.t 20)), none⟩, ⟨(.some 22), (.load false 1 (.t 21)), none⟩, ⟨(.some 23), (.len (.t 22)), none⟩, ⟨(.some 24), (.bin .add (.t 16) (.t 23)), none⟩, ⟨(.some 4), (.mv (.t 24)), none⟩])))
 (.reg [⟨(.some 25), (.bin .add (.t 13) (.c (.lf (.int .i64 1)))), none⟩, ⟨(.some 13), (.mv (.t 25)), none⟩])))))))
 (.seq (.reg [⟨(.some 26), (.call false 109 [(.t 1)]), none⟩, ⟨(.some 6), (.mv (.t 26)), none⟩])
 (.seq (.seq (.reg [⟨(.some 27), (.mv (.t 6)), none⟩, ⟨(.some 28), (.len (.t 27)), none⟩, ⟨(.some 29), (.mv (.c (.lf (.int .i64 0)))), none⟩])
 (.block 2 (.loop (.seq (.reg [⟨(.some 30), (.bin .lss (.t 29) (.t 28)), none⟩])
 (.seq (.cond (.t 30) .skip (.exit 2))
 (.seq (.block 3 (.seq (.reg [⟨(.some 31), (.mv (.t 29)), none⟩, ⟨(.some 7), (.mv (.t 31)), none⟩])
 (.reg [⟨(.some 32), (.mv (.t 4)), none⟩, ⟨(.some 33), (.faddr 1 (.t 1)), none⟩, ⟨(.some 34), (.load false 1 (.t 33)), none⟩, ⟨(.some 35), (.mv (.t 6)), none⟩, ⟨(.some 36), (.mv (.t 7)), none⟩, ⟨(.some 37), (.iaddr 1 (.t 35) (.t 36)), none⟩, ⟨(.some 38), (.load false 1 (.t 37)), none⟩, ⟨(.some 39), (.iaddr 5 (.t 34) (.t 38)), none⟩, ⟨(.some 40), (.faddr 0 (.t 39)), none⟩, ⟨(.some 41), (.load false 1 (.t 40)), none⟩, ⟨(.some 42), (.len (.t 41)), none⟩, ⟨(.some 43), (.bin .mul (.c (.lf (.int .i64 256))) (.t 42)), none⟩, ⟨(.some 44), (.bin .add (.t 32) (.t 43)), none⟩, ⟨(.some 4), (.mv (.t 44)), none⟩])))
 (.reg [⟨(.some 45), (.bin .add (.t 29) (.c (.lf (.int .i64 1)))), none⟩, ⟨(.some 29), (.mv (.t 45)), none⟩])))))))
 (.seq (.reg [⟨(.some 46), (.mv (.t 4)), none⟩, ⟨(.some 2), (.mv (.t 46)), none⟩, ⟨(.some 3), (.mv (.c (.lf (.bool true)))), none⟩])
 .ret))))))), [(.tmp 2), (.tmp 3)]⟩
def L39 : LFn := ⟨1, (.seq (.reg [⟨(.some 1), (.box 46 (.t 0)), none⟩, ⟨(.some 2), (.mv (.c (.lf (.int .i64 0)))), none⟩, ⟨(.some 3), (.mv (.c (.lf (.bool false)))), none⟩])
 (.seq (.seq (.reg [⟨(.some 9), (.load true 2 (.t 1)), none⟩, ⟨(.some 10), (.call true 22 [(.t 9)]), none⟩, ⟨(.some 11), (.una .not (.t 10)), none⟩])
 (.cond (.t 11) (.seq (.reg [⟨(.some 2), (.mv (.c (.lf (.int .i64 0)))), none⟩, ⟨(.some 3), (.mv (.c (.lf (.bool false)))), none⟩])
 .ret) .skip))
 (.seq (.reg [⟨(.some 4), (.mv (.c (.lf (.int .i64 0)))), none⟩])
 (.seq (.seq (.reg [⟨(.some 12), (.faddr 0 (.t 1)), none⟩, ⟨(.some 13), (.load false 1 (.t 12)), none⟩, ⟨(.some 14), (.len (.t 13)), none⟩, ⟨(.some 15), (.mv (.c (.lf (.int .i64 0)))), none⟩])
 (.block 0 (.loop (.seq (.reg [⟨(.some 16), (.bin .lss (.t 15) (.t 14)), none⟩])
 (.seq (.cond (.t 16) .skip (.exit 0))
 (.seq (.block 1 (.seq (.reg [⟨(.some 17), (.iaddr 3 (.t 13) (.t 15)), none⟩, ⟨(.some 18), (.load true 3 (.t 17)), none⟩, ⟨(.some 6), (.alloc 118 [(.int .i64 0), (.int .i64 0), .nils]), none⟩, ⟨none, (.store 3 (.t 6) (.t 18)), none⟩])
 (.reg [⟨(.some 19), (.mv (.t 4)), none⟩, ⟨(.some 20), (.faddr 2 (.t 6)), none⟩, ⟨(.some 21), (.load false 1 (.t 20)), none⟩, ⟨(.some 22), (.len (.t 21)), none⟩, ⟨(.some 23), (.call true 74 [(.t 22)]), none⟩, ⟨(.some 24), (.bin .add (.t 19) (.t 23)), none⟩, ⟨(.some 4), (.mv (.t 24)), none⟩])))
 (.reg [⟨(.some 25), (.bin .add (.t 15) (.c (.lf (.int .i64 1)))), none⟩, ⟨(.some 15), (.mv (.t 25)), none⟩])))))))
 (.seq (.seq (.reg [⟨(.some 26), (.load true 2 (.t 1)), none⟩, ⟨(.some 27), (.call false 110 [(.t 26)]), none⟩, ⟨(.some 28), (.len (.t 27)), none⟩, ⟨(.some 29), (.mv (.c (.lf (.int .i64 0)))), none⟩])
 (.block 2 (.loop (.seq (.reg [⟨(.some 30), (.bin .lss (.t 29) (.t 28)), none⟩])
 (.seq (.cond (.t 30) .skip (.exit 2))
 (.seq (.block 3 (.seq (.reg [⟨(.some 31), (.mv (.t 29)), none⟩, ⟨(.some 32), (.iaddr 1 (.t 27) (.t 29)), none⟩, ⟨(.some 33), (.load false 1 (.t 32)), none⟩, ⟨(.some 7), (.mv (.t 31)), none⟩, ⟨(.some 8), (.mv (.t 33)), none⟩])
 (.seq (.reg [⟨(.some 34), (.mv (.t 8)), none⟩])
 (.cond (.t 34) (.reg [⟨(.some 35), (.mv (.t 4)), none⟩, ⟨(.some 36), (.faddr 1 (.t 1)), none⟩, ⟨(.some 37), (.load false 1 (.t 36)), none⟩, ⟨(.some 38), (.mv (.t 7)), none⟩, ⟨(.some 39), (.iaddr 5 (.t 37) (.t 38)), none⟩, ⟨(.some 40), (.faddr 0 (.t 39)), none⟩, ⟨(.some 41), (.load false 1 (.t 40)), none⟩, ⟨(.some 42), (.len (.t 41)), none⟩, ⟨(.some 43), (.call true 74 [(.t 42)]), none⟩, ⟨(.some 44), (.bin .mul (.c (.lf (.int .i64 256))) (.t 43)), none⟩, ⟨(.some 45), (.bin .add (.t 35) (.t 44)), none⟩, ⟨(.some 4), (.mv (.t 45)), none⟩]) .skip))))
 (.reg [⟨(.some 46), (.bin .add (.t 29) (.c (.lf (.int .i64 1)))), none⟩, ⟨(.some 29), (.mv (.t 46)), none⟩])))))))
 (.seq (.reg [⟨(.some 47), (.mv (.t 4)), none⟩, ⟨(.some 2), (.mv (.t 47)), none⟩, ⟨(.some 3), (.mv (.c (.lf (.bool true)))), none⟩])
 .ret)))))), [(.tmp 2), (.tmp 3)]⟩
class HasCt (S : Sys) : Prop extends HasVs S, HasHd S where
  f109 : S.fs 109 = some L109
  f110 : S.fs 110 = some L110
  f38 : S.fs 38 = some L38
  f39 : S.fs 39 = some L39
def trkV (vs : List StrV) : List Trk := vs.map fun v => ⟨[], v.tenths, v.pan, v.mute, v.solo⟩
theorem trkV_len {ss : List (Str × Lf)} : (trkV (valS ss)).length = ss.length := by simp [trkV, valS]
theorem trkV_get {ss : List (Str × Lf)} {i : Nat} (hi : i < ss.length) : (trkV (valS ss))[i]'(by rw [trkV_len]; exact hi) = ⟨[], ss[i].1.tenths, ss[i].1.pan, ss[i].1.mute, ss[i].1.solo⟩ := by simp [trkV, valS, Str.val]
/-- So many effects the i-th strip has, 256-fold. -/
def effN (vs : List StrV) (i : Nat) : Int := 256 * ((vs.getD i ⟨[], 0, 0, false, false⟩).effs.length : Int)
theorem effN_get {ss : List (Str × Lf)} {i : Nat} (hi : i < ss.length) : effN (valS ss) i = 256 * (ss[i].1.ps.length : Int) := by simp [effN, valS, Str.val, hi]
def costTo (vs : List StrV) : Nat → Int
  | 0 => 0
  | i + 1 => costTo vs i + (if hdB (trkV vs) i = true then effN vs i else 0)
def sumTo (vs : List StrV) (ks : List Int) (j : Nat) : Int := (ks.take j).foldl (fun n k => n + effN vs k.toNat) 0
theorem sumTo_zero {vs : List StrV} {ks : List Int} : sumTo vs ks 0 = 0 := by simp [sumTo]
theorem sumTo_succ {vs : List StrV} {ks : List Int} {j : Nat} (hj : j < ks.length) : sumTo vs ks (j + 1) = sumTo vs ks j + effN vs ks[j].toNat := by
  unfold sumTo
  rw [List.take_succ_eq_append_getElem hj, List.foldl_append]; rfl
theorem sum_cost {vs : List StrV} : ∀ {n : Nat}, (hdTo (trkV vs) n).foldl (fun n k => n + effN vs k.toNat) 0 = costTo vs n
  | 0 => by simp [hdTo, costTo]
  | n + 1 => by
    rw [hdTo_succ, List.foldl_append, sum_cost (n := n), costTo]
    split <;> simp
theorem sum_all {vs : List StrV} {n : Nat} : sumTo vs (hdTo (trkV vs) n) (hdTo (trkV vs) n).length = costTo vs n := by unfold sumTo; rw [List.take_length, sum_cost]
theorem hdTo_get {ts : List Trk} {n j : Nat} (hj : j < (hdTo ts n).length) : ∃ m : Nat, (hdTo ts n)[j] = (m : Int) ∧ m < n := by
  have h := List.getElem_mem hj
  unfold hdTo at h
  obtain ⟨m, hm, e⟩ := List.mem_map.1 h
  exact ⟨m, e.symm, by simpa using (List.mem_filter.1 hm).1⟩
theorem effN_le {vs : List StrV} (h : ∀ v ∈ vs, strOk v) {i : Nat} : 0 ≤ effN vs i ∧ effN vs i ≤ 2048 := by
  unfold effN
  by_cases hi : i < vs.length
  · have h1 := (h vs[i] (List.getElem_mem hi)).1.1
    have e : vs.getD i ⟨[], 0, 0, false, false⟩ = vs[i] := by simp [hi]
    rw [e]; omega
  · have e : vs.getD i ⟨[], 0, 0, false, false⟩ = ⟨[], 0, 0, false, false⟩ := by simp [List.getD_eq_getElem?_getD, List.getElem?_eq_none (Nat.le_of_not_lt hi)]
    rw [e]; simp
theorem costTo_le {vs : List StrV} (h : ∀ v ∈ vs, strOk v) : ∀ {i : Nat}, 0 ≤ costTo vs i ∧ costTo vs i ≤ 2048 * i
  | 0 => by simp [costTo]
  | i + 1 => by
    have h1 := costTo_le h (i := i)
    have h2 := effN_le h (i := i)
    rw [costTo]
    split <;> omega
theorem sumTo_le {vs : List StrV} {ks : List Int} (h : ∀ v ∈ vs, strOk v) : ∀ {j : Nat}, j ≤ ks.length → 0 ≤ sumTo vs ks j ∧ sumTo vs ks j ≤ 2048 * j
  | 0, _ => by rw [sumTo_zero]; omega
  | j + 1, hj => by
    have h1 := sumTo_le h (ks := ks) (j := j) (by omega)
    have h2 := effN_le h (i := ks[j].toNat)
    rw [sumTo_succ (by omega)]
    omega
noncomputable def costT (cs : List Eff) (vs : List StrV) : CV := if sesOk cs vs then .tup [.lf (.int .i64 (szC Eff.nums cs + costTo vs vs.length)), .lf (.bool true)] else .tup [.lf (.int .i64 0), .lf (.bool false)]
section
variable {S : Sys} {lim : Nat} {h : Hp} {K : CV → Hp → Prop} {l l2 : Lf} {cs : List (Eff × Lf)} {ss : List (Str × Lf)} [HasCt S]
set_option maxHeartbeats 2000000 in
theorem c_l09Heard {id off : Nat} (hr1 : rdCells h id (off + 1) 1 = some [l2]) (hS : Arr h l2 5 (ss.map Str.cells)) (hn : ss.length ≤ 100) (hl : lim ≤ h.length) (hK : ∀ o g, New h g o 2 1 ((hdTo (trkV (valS ss)) ss.length).map il) → K (.lf o) g) : CallT S false 109 [.lf (.ptr id off)] h lim K := by
  have q0A := fun t => (Kept.app h t).rd hr1
  refine CallT_of_body (F := L109) (HasCt.f109) rfl ?_; unfold L109; dsimp only []
  repeat' (first | (simp (disch := first | omega | assumption | (simp only [List.length_set]; omega) | (simp [*] <;> fail) | assumption) [-Bool.decide_and, -Bool.decide_or, -Bool.not_and, -Bool.not_or, toNat_pred, toNat_succ, wrap64, wr_new, wr_new0, ok_if, ok_ifn, iadV_sl, makeV_int, decT, decF, over_at, *, hS.len, leavesAll, fillL]) | (with_reducible refine Gd_split (fun hc => ?_) (fun hc => ?_) <;> (have hc2 := hc; try simp at hc2)) | (with_reducible refine Br_split (fun hc => ?_) (fun hc => ?_) <;> (have hc2 := hc; try simp at hc2)) | (with_reducible refine GdT_split (fun hc => ?_) (fun hc => ?_) <;> (have hc2 := hc; try simp at hc2)) | (with_reducible refine WT_alt ?_ ?_) | omega)
  refine WL_forM 67106840 (by decide +kernel) (ss.length) (fun i b g => i ≤ ss.length ∧ b 11 = .lf (.int .i64 i) ∧ ∃ o ps, b 3 = .lf o ∧ New h g o 151 5 (ps.map Trk.cells) ∧ ps.map (·.1) = (trkV (valS ss)).take i) (fun _ _ _ hi => hi.1) ⟨by omega, by simp, .sl h.length 0 0 5, [], by simp, by simpa using New.lit0 (h := h) (ty := 151) (sz := 5), by simp⟩ ?_
  rintro i b g ⟨hi, e11, o, ps, e3, hN, hp⟩
  have hk := hN.kept
  have hS1 := hS.kept hk
  have q1A := fun t => (hk.trans (Kept.app g t)).rd hr1
  have q1 := hk.rd hr1
  have hg := hk.1
  have hpl : ps.length = i := by have := congrArg List.length hp; rw [List.length_map, List.length_take, trkV_len, Nat.min_eq_left hi] at this; exact this
  by_cases hlt : i < ss.length
  · have hpH : Hid (∀ l' : Lf, (ps ++ [((⟨[], ss[i].1.tenths, ss[i].1.pan, ss[i].1.mute, ss[i].1.solo⟩ : Trk), l')]).map (·.1) = (trkV (valS ss)).take (i + 1)) := fun l' => by
      rw [List.take_succ_eq_append_getElem (by rw [trkV_len]; exact hlt), List.map_append, hp, trkV_get hlt]; rfl
    clear hp hK
    repeat' (first | (simp (disch := first | omega | assumption | (simp only [List.length_set]; omega) | (simp [*] <;> fail) | assumption) [-Bool.decide_and, -Bool.decide_or, -Bool.not_and, -Bool.not_or, toNat_pred, toNat_succ, wrap64, wr_new, wr_new0, ok_if, ok_ifn, iadV_sl, makeV_int, decT, decF, over_at, *, hS1.len, hS1.at_, hS1.at_', hS1.rd, hS1.rdIn, hS1.rdIn0, hS1.rdA, hS1.rdInA, hS1.rdIn0A, Str.cells, leavesAll, fillL]) | (with_reducible refine Gd_split (fun hc => ?_) (fun hc => ?_) <;> (have hc2 := hc; try simp at hc2)) | (with_reducible refine Br_split (fun hc => ?_) (fun hc => ?_) <;> (have hc2 := hc; try simp at hc2)) | (with_reducible refine GdT_split (fun hc => ?_) (fun hc => ?_) <;> (have hc2 := hc; try simp at hc2)) | (with_reducible refine WT_alt ?_ ?_) | omega)
    refine c_l09Strip (l' := ss[i].2) (x := ss[i].1.tenths) (y := ss[i].1.pan) (m := ss[i].1.mute) (s := ss[i].1.solo) (fun t => by rw [List.append_assoc]; exact hS1.rdA hlt) (by simp; omega) ?_
    have hN2 := hN.later (Kept.app g [⟨[], .own 22 1⟩, ⟨[.sl g.length 0 0 1, .int .i64 ss[i].1.tenths, .flt .f32 ss[i].1.pan, .bool ss[i].1.mute, .bool ss[i].1.solo], .own 151 1⟩, ⟨[.sl g.length 0 0 1, .int .i64 ss[i].1.tenths, .flt .f32 ss[i].1.pan, .bool ss[i].1.mute, .bool ss[i].1.solo], .own 151 5⟩])
    repeat' (first | (simp (disch := first | omega | assumption | (simp only [List.length_set]; omega) | (simp [*] <;> fail) | assumption) [-Bool.decide_and, -Bool.decide_or, -Bool.not_and, -Bool.not_or, toNat_pred, toNat_succ, wrap64, wr_new, wr_new0, ok_if, ok_ifn, iadV_sl, makeV_int, decT, decF, over_at, *, leavesAll, fillL]) | (with_reducible refine Gd_split (fun hc => ?_) (fun hc => ?_) <;> (have hc2 := hc; try simp at hc2)) | (with_reducible refine Br_split (fun hc => ?_) (fun hc => ?_) <;> (have hc2 := hc; try simp at hc2)) | (with_reducible refine GdT_split (fun hc => ?_) (fun hc => ?_) <;> (have hc2 := hc; try simp at hc2)) | (with_reducible refine WT_alt ?_ ?_) | omega)
    refine oc_pushS hN2 (r := [.sl g.length 0 0 1, .int .i64 ss[i].1.tenths, .flt .f32 ss[i].1.pan, .bool ss[i].1.mute, .bool ss[i].1.solo]) (by simp) hl (by simp; omega) (fun o2 g5 hN5 hB5 => ?_) (by decide) (by decide)
    clear hN2 hN
    repeat' (first | (simp (disch := first | omega | assumption | (simp only [List.length_set]; omega) | (simp [*] <;> fail) | assumption) [-Bool.decide_and, -Bool.decide_or, -Bool.not_and, -Bool.not_or, toNat_pred, toNat_succ, wrap64, wr_new, wr_new0, ok_if, ok_ifn, iadV_sl, makeV_int, decT, decF, over_at, *]) | (with_reducible refine Gd_split (fun hc => ?_) (fun hc => ?_) <;> (have hc2 := hc; try simp at hc2)) | (with_reducible refine Br_split (fun hc => ?_) (fun hc => ?_) <;> (have hc2 := hc; try simp at hc2)) | (with_reducible refine GdT_split (fun hc => ?_) (fun hc => ?_) <;> (have hc2 := hc; try simp at hc2)) | (with_reducible refine WT_alt ?_ ?_) | omega)
    exact ⟨hlt, ps ++ [(⟨[], ss[i].1.tenths, ss[i].1.pan, ss[i].1.mute, ss[i].1.solo⟩, .sl g.length 0 0 1)], by rw [List.map_append]; exact hN5, hpH _⟩
  · have : i = ss.length := by omega
    subst this
    have hp2 : ps.map (·.1) = trkV (valS ss) := by rw [hp, ← trkV_len, List.take_length]
    clear hp
    repeat' (first | (simp (disch := first | omega | assumption | (simp only [List.length_set]; omega) | (simp [*] <;> fail) | assumption) [-Bool.decide_and, -Bool.decide_or, -Bool.not_and, -Bool.not_or, toNat_pred, toNat_succ, wrap64, wr_new, wr_new0, ok_if, ok_ifn, iadV_sl, makeV_int, decT, decF, over_at, *, hS1.len]) | (with_reducible refine Gd_split (fun hc => ?_) (fun hc => ?_) <;> (have hc2 := hc; try simp at hc2)) | (with_reducible refine Br_split (fun hc => ?_) (fun hc => ?_) <;> (have hc2 := hc; try simp at hc2)) | (with_reducible refine GdT_split (fun hc => ?_) (fun hc => ?_) <;> (have hc2 := hc; try simp at hc2)) | (with_reducible refine WT_alt ?_ ?_) | omega)
    refine c_l07Heard hN.arr (by omega) (by omega) fun o2 g2 hO => ?_
    rw [hp2, hpl] at hO
    have hk2 := hK _ _ (hO.base hk)
    clear hK hp2
    repeat' (first | (simp (disch := first | omega | assumption | (simp only [List.length_set]; omega) | (simp [*] <;> fail) | assumption) [-Bool.decide_and, -Bool.decide_or, -Bool.not_and, -Bool.not_or, toNat_pred, toNat_succ, wrap64, wr_new, wr_new0, ok_if, ok_ifn, iadV_sl, makeV_int, decT, decF, over_at, *]) | (with_reducible refine Gd_split (fun hc => ?_) (fun hc => ?_) <;> (have hc2 := hc; try simp at hc2)) | (with_reducible refine Br_split (fun hc => ?_) (fun hc => ?_) <;> (have hc2 := hc; try simp at hc2)) | (with_reducible refine GdT_split (fun hc => ?_) (fun hc => ?_) <;> (have hc2 := hc; try simp at hc2)) | (with_reducible refine WT_alt ?_ ?_) | omega)
set_option maxHeartbeats 4000000 in
theorem c_sesHeard (hA : Arr h l2 5 (ss.map Str.cells)) (hn : ss.length ≤ 100) (hl : lim ≤ h.length) (hK : ∀ o g, New h g o 4 1 ((tabTo (hdB (trkV (valS ss))) ss.length).map bl) → K (.lf o) g) : CallT S false 110 [.agg [l, l2]] h lim K := by
  have hA0 := hA
  have kb := Kept.app h [⟨[l, l2], .own 46 1⟩]
  replace hA := hA.kept kb
  refine CallT_of_body (F := L110) (HasCt.f110) rfl ?_; unfold L110; dsimp only []
  repeat' (first | (simp (disch := first | omega | assumption | (simp only [List.length_set]; omega) | (simp [*] <;> fail) | assumption) [-Bool.decide_and, -Bool.decide_or, -Bool.not_and, -Bool.not_or, toNat_pred, toNat_succ, wrap64, wr_new, wr_new0, ok_if, ok_ifn, iadV_sl, makeV_int, decT, decF, over_at, *, hA.len]) | (with_reducible refine Gd_split (fun hc => ?_) (fun hc => ?_) <;> (have hc2 := hc; try simp at hc2)) | (with_reducible refine Br_split (fun hc => ?_) (fun hc => ?_) <;> (have hc2 := hc; try simp at hc2)) | (with_reducible refine GdT_split (fun hc => ?_) (fun hc => ?_) <;> (have hc2 := hc; try simp at hc2)) | (with_reducible refine WT_alt ?_ ?_) | omega)
  refine WL_forM 33553496 (by decide +kernel) (ss.length) (fun i b g => i ≤ ss.length ∧ b 10 = .lf (.int .i64 i) ∧ ∃ o1 o2, b 3 = .lf o1 ∧ b 4 = .lf o2 ∧ New (h ++ [⟨[l, l2], .own 46 1⟩]) g o1 4 1 ((tabTo (muteN (trkV (valS ss))) i).map bl) ∧ New (h ++ [⟨[l, l2], .own 46 1⟩]) g o2 4 1 ((tabTo (soloN (trkV (valS ss))) i).map bl) ∧ Far o1 o2) (fun _ _ _ hi => hi.1) ⟨by omega, by simp, .nils, .nils, by simp, by simp, New.nil (Kept.refl _), New.nil (Kept.refl _), Far.nil_left⟩ ?_
  rintro i b g ⟨hi, e10, o1, o2, e3, e4, hN1, hN2, hf⟩
  have hA1 := hA.kept hN1.kept
  have hl1 := tabTo_len (f := muteN (trkV (valS ss))) (n := i)
  have hl2 := tabTo_len (f := soloN (trkV (valS ss))) (n := i)
  have hg1 := hN1.kept.1
  have hg0 := kb.1
  by_cases hlt : i < ss.length
  · have s1 := tab_bl (f := muteN (trkV (valS ss))) (n := i)
    have s2 := tab_bl (f := soloN (trkV (valS ss))) (n := i)
    have m1 : muteN (trkV (valS ss)) i = ss[i].1.mute := by simp [muteN, trkV, valS, Str.val, hlt]
    have m2 : soloN (trkV (valS ss)) i = ss[i].1.solo := by simp [soloN, trkV, valS, Str.val, hlt]
    rw [m1] at s1
    rw [m2] at s2
    have s1H : Hid ((tabTo (muteN (trkV (valS ss))) (i + 1)).map bl = (tabTo (muteN (trkV (valS ss))) i).map bl ++ [[.bool ss[i].1.mute]]) := s1
    have s2H : Hid ((tabTo (soloN (trkV (valS ss))) (i + 1)).map bl = (tabTo (soloN (trkV (valS ss))) i).map bl ++ [[.bool ss[i].1.solo]]) := s2
    clear s1 s2 m1 m2 hK
    repeat' (first | (simp (disch := first | omega | assumption | (simp only [List.length_set]; omega) | (simp [*] <;> fail) | assumption) [-Bool.decide_and, -Bool.decide_or, -Bool.not_and, -Bool.not_or, toNat_pred, toNat_succ, wrap64, wr_new, wr_new0, ok_if, ok_ifn, iadV_sl, makeV_int, decT, decF, over_at, *, hA1.len, hA1.at_, hA1.at_', hA1.rd, hA1.rdIn, hA1.rdIn0, hA1.rdA, hA1.rdInA, hA1.rdIn0A, Str.cells, -W_any]) | (with_reducible refine Gd_split (fun hc => ?_) (fun hc => ?_) <;> (have hc2 := hc; try simp at hc2)) | (with_reducible refine Br_split (fun hc => ?_) (fun hc => ?_) <;> (have hc2 := hc; try simp at hc2)) | (with_reducible refine GdT_split (fun hc => ?_) (fun hc => ?_) <;> (have hc2 := hc; try simp at hc2)) | (with_reducible refine WT_alt ?_ ?_) | omega)
    rw [W_any]
    refine WT_cutM 16760856 (by decide +kernel) (fun b' g' => ∃ p1 p2, b' 3 = .lf p1 ∧ b' 4 = .lf p2 ∧ New (h ++ [⟨[l, l2], .own 46 1⟩]) g' p1 4 1 ((tabTo (muteN (trkV (valS ss))) (i + 1)).map bl) ∧ New (h ++ [⟨[l, l2], .own 46 1⟩]) g' p2 4 1 ((tabTo (soloN (trkV (valS ss))) (i + 1)).map bl) ∧ Far p1 p2) ?_ ?_
    · repeat' (first | (simp (disch := first | omega | assumption | (simp only [List.length_set]; omega) | (simp [*] <;> fail) | assumption) [-Bool.decide_and, -Bool.decide_or, -Bool.not_and, -Bool.not_or, toNat_pred, toNat_succ, wrap64, wr_new, wr_new0, ok_if, ok_ifn, iadV_sl, makeV_int, decT, decF, over_at, *, leavesAll, fillL]) | (with_reducible refine Gd_split (fun hc => ?_) (fun hc => ?_) <;> (have hc2 := hc; try simp at hc2)) | (with_reducible refine Br_split (fun hc => ?_) (fun hc => ?_) <;> (have hc2 := hc; try simp at hc2)) | (with_reducible refine GdT_split (fun hc => ?_) (fun hc => ?_) <;> (have hc2 := hc; try simp at hc2)) | (with_reducible refine WT_alt ?_ ?_) | omega)
      all_goals refine oc_pushS hN1.app (by simp; rfl) (by simp; omega) (by simp; omega) fun p1 g1 hP1 hC1 => ?_
      all_goals obtain ⟨hP2, hf1⟩ := hC1.other hN1.app hN2.app hf
      all_goals have hbx := hC1.rd (id := g.length) (off := 4) (n := 1) (ls := [.bool ss[i].1.solo]) (by simp) (fun hn => by have := (hN1.lt hn).2; omega)
      all_goals repeat' (first | (simp (disch := first | omega | assumption | (simp only [List.length_set]; omega) | (simp [*] <;> fail) | assumption) [-Bool.decide_and, -Bool.decide_or, -Bool.not_and, -Bool.not_or, toNat_pred, toNat_succ, wrap64, wr_new, wr_new0, ok_if, ok_ifn, iadV_sl, makeV_int, decT, decF, over_at, *, leavesAll, fillL]) | (with_reducible refine Gd_split (fun hc => ?_) (fun hc => ?_) <;> (have hc2 := hc; try simp at hc2)) | (with_reducible refine Br_split (fun hc => ?_) (fun hc => ?_) <;> (have hc2 := hc; try simp at hc2)) | (with_reducible refine GdT_split (fun hc => ?_) (fun hc => ?_) <;> (have hc2 := hc; try simp at hc2)) | (with_reducible refine WT_alt ?_ ?_) | omega)
      all_goals first
        | refine oc_pushS hP2.app (by simp; rfl) (by simp; omega) (by simp; omega) fun q2 g2 hQ2 hC2 => ?_
        | refine oc_pushS hP2 (hC1.rd (by simp; rfl) (fun hn => by have := (hN1.lt hn).2; omega)) (by simp; omega) (by simp; omega) fun q2 g2 hQ2 hC2 => ?_
      all_goals have hQf : New (h ++ [⟨[l, l2], .own 46 1⟩]) g2 p1 4 1 ((tabTo (muteN (trkV (valS ss))) i).map bl ++ [[.bool ss[i].1.mute]]) ∧ Far q2 p1 := by first | exact hC2.other hP2.app hP1.app hf1.symm | exact hC2.other hP2 hP1 hf1.symm
      all_goals obtain ⟨hQ1, hf2⟩ := hQf
      all_goals rw [← show (tabTo (muteN (trkV (valS ss))) (i + 1)).map bl = _ from s1H] at hQ1
      all_goals rw [← show (tabTo (soloN (trkV (valS ss))) (i + 1)).map bl = _ from s2H] at hQ2
      all_goals clear s1H s2H
      all_goals repeat' (first | (simp (disch := first | omega | assumption | (simp only [List.length_set]; omega) | (simp [*] <;> fail) | assumption) [-Bool.decide_and, -Bool.decide_or, -Bool.not_and, -Bool.not_or, toNat_pred, toNat_succ, wrap64, wr_new, wr_new0, ok_if, ok_ifn, iadV_sl, makeV_int, decT, decF, over_at, *]) | (with_reducible refine Gd_split (fun hc => ?_) (fun hc => ?_) <;> (have hc2 := hc; try simp at hc2)) | (with_reducible refine Br_split (fun hc => ?_) (fun hc => ?_) <;> (have hc2 := hc; try simp at hc2)) | (with_reducible refine GdT_split (fun hc => ?_) (fun hc => ?_) <;> (have hc2 := hc; try simp at hc2)) | (with_reducible refine WT_alt ?_ ?_) | omega)
      all_goals (repeat' apply And.intro) <;> first | omega | assumption | exact hf2.symm
    · rintro b2 g2 ⟨p1, p2, e3', e4', hP1, hP2, hfp⟩
      repeat' (first | (simp (disch := first | omega | assumption | (simp only [List.length_set]; omega) | (simp [*] <;> fail) | assumption) [-Bool.decide_and, -Bool.decide_or, -Bool.not_and, -Bool.not_or, toNat_pred, toNat_succ, wrap64, wr_new, wr_new0, ok_if, ok_ifn, iadV_sl, makeV_int, decT, decF, over_at, *]) | (with_reducible refine Gd_split (fun hc => ?_) (fun hc => ?_) <;> (have hc2 := hc; try simp at hc2)) | (with_reducible refine Br_split (fun hc => ?_) (fun hc => ?_) <;> (have hc2 := hc; try simp at hc2)) | (with_reducible refine GdT_split (fun hc => ?_) (fun hc => ?_) <;> (have hc2 := hc; try simp at hc2)) | (with_reducible refine WT_alt ?_ ?_) | omega)
      all_goals exact ⟨hlt, hP1, hP2, hfp⟩
  · have : i = ss.length := by omega
    subst this
    repeat' (first | (simp (disch := first | omega | assumption | (simp only [List.length_set]; omega) | (simp [*] <;> fail) | assumption) [-Bool.decide_and, -Bool.decide_or, -Bool.not_and, -Bool.not_or, toNat_pred, toNat_succ, wrap64, wr_new, wr_new0, ok_if, ok_ifn, iadV_sl, makeV_int, decT, decF, over_at, *]) | (with_reducible refine Gd_split (fun hc => ?_) (fun hc => ?_) <;> (have hc2 := hc; try simp at hc2)) | (with_reducible refine Br_split (fun hc => ?_) (fun hc => ?_) <;> (have hc2 := hc; try simp at hc2)) | (with_reducible refine GdT_split (fun hc => ?_) (fun hc => ?_) <;> (have hc2 := hc; try simp at hc2)) | (with_reducible refine WT_alt ?_ ?_) | omega)
    refine c_heard hN1.arr hN2.arr (by rw [hl1, hl2]) (by omega) (by omega) fun o g2 hO => ?_
    have e := hb_hd (ts := trkV (valS ss))
    rw [trkV_len] at e
    rw [hl1, e] at hO
    repeat' (first | (simp (disch := first | omega | assumption | (simp only [List.length_set]; omega) | (simp [*] <;> fail) | assumption) [-Bool.decide_and, -Bool.decide_or, -Bool.not_and, -Bool.not_or, toNat_pred, toNat_succ, wrap64, wr_new, wr_new0, ok_if, ok_ifn, iadV_sl, makeV_int, decT, decF, over_at, *]) | (with_reducible refine Gd_split (fun hc => ?_) (fun hc => ?_) <;> (have hc2 := hc; try simp at hc2)) | (with_reducible refine Br_split (fun hc => ?_) (fun hc => ?_) <;> (have hc2 := hc; try simp at hc2)) | (with_reducible refine GdT_split (fun hc => ?_) (fun hc => ?_) <;> (have hc2 := hc; try simp at hc2)) | (with_reducible refine WT_alt ?_ ?_) | omega)
    exact hK _ _ (hO.base (kb.trans hN1.kept))
set_option maxHeartbeats 4000000 in
theorem c_specCostOf (hC : Arr h l 3 (cs.map Eff.cells)) (hCI : In h Eff.nums cs) (hS : Arr h l2 5 (ss.map Str.cells)) (hSI : InS h ss) : CallT S true 38 [.agg [l, l2]] h lim K = K (costT (cs.map (·.1)) (valS ss)) h := by
  obtain ⟨hr0, hr1⟩ := box_rd (h := h) (l := l) (l2 := l2) (ty := 46) (t := [])
  have hv := fun lim K => c_l09Is (S := S) (lim := lim) (K := K) (h := h ++ [⟨[l, l2], .own 46 1⟩]) (id := h.length) (off := 0) hr0 hr1 hC.app (hCI.kept (Kept.app _ _)) hS.app (hSI.kept (Kept.app _ _))
  have hkb := Kept.app h [⟨[l, l2], .own 46 1⟩]
  unfold costT
  by_cases hok : sesOk (cs.map (·.1)) (valS ss)
  · rw [decide_eq_true hok] at hv
    rw [if_pos hok, valS_len]
    have hst := hok.2.2.1
    have hsl := fun j hj => sumTo_le (ks := hdTo (trkV (valS ss)) ss.length) hst (j := j) hj
    have hn12 : cs.length ≤ 12 := by have := hok.2.1; simpa using this
    have hn8 : ss.length ≤ 8 := by have := hok.1.2; rwa [valS_len] at this
    have hsm := (small_of (ro := Eff.nums) (b := 256) (n := 12) (xs := cs.map (·.1)) (by simpa using hn12) (fun c hc => (hok.2.2.2 c hc).2.2) rfl).2
    have hzz := fun i => szD_take_le (ro := Eff.nums) (ps := cs) (i := i)
    clear hok
    refine CallT_pure (F := L38) (HasCt.f38) rfl (by first | rfl | (split <;> rfl) | simp) ?_; unfold L38; dsimp only []
    repeat' (first | (simp (disch := first | omega | assumption | (simp only [List.length_set]; omega) | (simp [*] <;> fail) | assumption) [-Bool.decide_and, -Bool.decide_or, -Bool.not_and, -Bool.not_or, toNat_pred, toNat_succ, wrap64, wr_new, wr_new0, ok_if, ok_ifn, iadV_sl, makeV_int, decT, decF, over_at, *, hC.len]) | (with_reducible refine Gd_split (fun hc => ?_) (fun hc => ?_) <;> (have hc2 := hc; try simp at hc2)) | (with_reducible refine Br_split (fun hc => ?_) (fun hc => ?_) <;> (have hc2 := hc; try simp at hc2)) | (with_reducible refine GdT_split (fun hc => ?_) (fun hc => ?_) <;> (have hc2 := hc; try simp at hc2)) | (with_reducible refine WT_alt ?_ ?_) | omega)
    refine WL_forM 67100720 (by decide +kernel) (cs.length) (fun i b g => i ≤ cs.length ∧ b 13 = .lf (.int .i64 i) ∧ b 4 = .lf (.int .i64 (szD Eff.nums (cs.take i))) ∧ g = h ++ [⟨[l, l2], .own 46 1⟩]) (fun _ _ _ hi => hi.1) ⟨by omega, by simp, by simp [szD], rfl⟩ ?_
    rintro i b g ⟨hi, e11, e4, rfl⟩
    by_cases hlt : i < cs.length
    · have hs := szD_take (ro := Eff.nums) hlt
      have hz := hzz i
      have hz1 := hzz (i + 1)
      have hin := (hCI i hlt).len
      clear hsl hst
      repeat' (first | (simp (disch := first | omega | assumption | (simp only [List.length_set]; omega) | (simp [*] <;> fail) | assumption) [-Bool.decide_and, -Bool.decide_or, -Bool.not_and, -Bool.not_or, toNat_pred, toNat_succ, wrap64, wr_new, wr_new0, ok_if, ok_ifn, iadV_sl, makeV_int, decT, decF, over_at, *, hC.len, hC.at_, hC.at_', hC.rd, hC.rdIn, hC.rdIn0, hC.rdA, hC.rdInA, hC.rdIn0A, Eff.cells]) | (with_reducible refine Gd_split (fun hc => ?_) (fun hc => ?_) <;> (have hc2 := hc; try simp at hc2)) | (with_reducible refine Br_split (fun hc => ?_) (fun hc => ?_) <;> (have hc2 := hc; try simp at hc2)) | (with_reducible refine GdT_split (fun hc => ?_) (fun hc => ?_) <;> (have hc2 := hc; try simp at hc2)) | (with_reducible refine WT_alt ?_ ?_) | omega)
    · have : i = cs.length := by omega
      subst this
      rw [List.take_length] at e4
      repeat' (first | (simp (disch := first | omega | assumption | (simp only [List.length_set]; omega) | (simp [*] <;> fail) | assumption) [-Bool.decide_and, -Bool.decide_or, -Bool.not_and, -Bool.not_or, toNat_pred, toNat_succ, wrap64, wr_new, wr_new0, ok_if, ok_ifn, iadV_sl, makeV_int, decT, decF, over_at, *, hC.len]) | (with_reducible refine Gd_split (fun hc => ?_) (fun hc => ?_) <;> (have hc2 := hc; try simp at hc2)) | (with_reducible refine Br_split (fun hc => ?_) (fun hc => ?_) <;> (have hc2 := hc; try simp at hc2)) | (with_reducible refine GdT_split (fun hc => ?_) (fun hc => ?_) <;> (have hc2 := hc; try simp at hc2)) | (with_reducible refine WT_alt ?_ ?_) | omega)
      refine c_l09Heard hr1 hS.app (by omega) (by simp) fun o g hO => ?_
      have hk := hkb.trans hO.kept
      have hS1 := hS.kept hk
      have hSI1 := hSI.kept hk
      have q1 := hO.kept.rd hr1
      have hOA := hO.arr
      obtain ⟨ks, hks⟩ : ∃ ks, hdTo (trkV (valS ss)) ss.length = ks := ⟨_, rfl⟩
      have hget : ∀ j (hj : j < ks.length), ∃ m : Nat, ks[j] = (m : Int) ∧ m < ss.length := by subst hks; exact fun j hj => hdTo_get hj
      have hfin : Hid (sumTo (valS ss) ks ks.length = costTo (valS ss) ss.length) := by subst hks; exact sum_all
      rw [hks] at hOA hsl
      have hkl : ks.length ≤ 8 := by have := hdTo_len (ts := trkV (valS ss)) (n := ss.length); rw [hks] at this; omega
      clear hks
      repeat' (first | (simp (disch := first | omega | assumption | (simp only [List.length_set]; omega) | (simp [*] <;> fail) | assumption) [-Bool.decide_and, -Bool.decide_or, -Bool.not_and, -Bool.not_or, toNat_pred, toNat_succ, wrap64, wr_new, wr_new0, ok_if, ok_ifn, iadV_sl, makeV_int, decT, decF, over_at, *, hOA.len]) | (with_reducible refine Gd_split (fun hc => ?_) (fun hc => ?_) <;> (have hc2 := hc; try simp at hc2)) | (with_reducible refine Br_split (fun hc => ?_) (fun hc => ?_) <;> (have hc2 := hc; try simp at hc2)) | (with_reducible refine GdT_split (fun hc => ?_) (fun hc => ?_) <;> (have hc2 := hc; try simp at hc2)) | (with_reducible refine WT_alt ?_ ?_) | omega)
      refine WL_forM 70368207306896 (by decide +kernel) (ks.length) (fun j b g' => j ≤ ks.length ∧ b 29 = .lf (.int .i64 j) ∧ b 4 = .lf (.int .i64 (szD Eff.nums cs + sumTo (valS ss) ks j)) ∧ g' = g) (fun _ _ _ hi => hi.1) ⟨by omega, by simp, by simp [sumTo_zero, over_at, e4], rfl⟩ ?_
      rintro j b g' ⟨hj, e29, e4, rfl⟩
      have hb := hsl j hj
      by_cases hlt : j < ks.length
      · obtain ⟨m, hm, hms⟩ := hget j hlt
        have hs := sumTo_succ (vs := valS ss) hlt
        rw [hm, Int.toNat_natCast, effN_get hms] at hs
        have hb1 := hsl (j + 1) hlt
        have hrd := hOA.rd1 hlt
        have hat := hOA.at_ (k := .i64) hlt
        rw [hm] at hrd
        have hin := (hSI1 m hms).1.len
        have hsH : Hid (sumTo (valS ss) ks (j + 1) = sumTo (valS ss) ks j + 256 * (ss[m].1.ps.length : Int)) := hs
        rw [hs] at hb1
        clear hs hm hget hsl hst
        generalize sumTo (valS ss) ks j = z at *
        repeat' (first | (simp (disch := first | omega | assumption | (simp only [List.length_set]; omega) | (simp [*] <;> fail) | assumption) [-Bool.decide_and, -Bool.decide_or, -Bool.not_and, -Bool.not_or, toNat_pred, toNat_succ, wrap64, wr_new, wr_new0, ok_if, ok_ifn, iadV_sl, makeV_int, decT, decF, over_at, *, il, hS1.at_ (k := .i64) hms, hS1.rdIn0 (m := 1) hms (by omega), Str.cells]) | (with_reducible refine Gd_split (fun hc => ?_) (fun hc => ?_) <;> (have hc2 := hc; try simp at hc2)) | (with_reducible refine Br_split (fun hc => ?_) (fun hc => ?_) <;> (have hc2 := hc; try simp at hc2)) | (with_reducible refine GdT_split (fun hc => ?_) (fun hc => ?_) <;> (have hc2 := hc; try simp at hc2)) | (with_reducible refine WT_alt ?_ ?_) | omega)
        exact ⟨hlt, by rw [show sumTo (valS ss) ks (j + 1) = _ from hsH]; omega⟩
      · have : j = ks.length := by omega
        subst this
        rw [show sumTo (valS ss) ks ks.length = _ from hfin] at e4
        rw [← szD_eq]
        repeat' (first | (simp (disch := first | omega | assumption | (simp only [List.length_set]; omega) | (simp [*] <;> fail) | assumption) [-Bool.decide_and, -Bool.decide_or, -Bool.not_and, -Bool.not_or, toNat_pred, toNat_succ, wrap64, wr_new, wr_new0, ok_if, ok_ifn, iadV_sl, makeV_int, decT, decF, over_at, *, hOA.len]) | (with_reducible refine Gd_split (fun hc => ?_) (fun hc => ?_) <;> (have hc2 := hc; try simp at hc2)) | (with_reducible refine Br_split (fun hc => ?_) (fun hc => ?_) <;> (have hc2 := hc; try simp at hc2)) | (with_reducible refine GdT_split (fun hc => ?_) (fun hc => ?_) <;> (have hc2 := hc; try simp at hc2)) | (with_reducible refine WT_alt ?_ ?_) | omega)
  · rw [decide_eq_false hok] at hv
    rw [if_neg hok]
    refine CallT_pure (F := L38) (HasCt.f38) rfl (by first | rfl | (split <;> rfl) | simp) ?_; unfold L38; dsimp only []
    repeat' (first | (simp (disch := first | omega | assumption | (simp only [List.length_set]; omega) | (simp [*] <;> fail) | assumption) [-Bool.decide_and, -Bool.decide_or, -Bool.not_and, -Bool.not_or, toNat_pred, toNat_succ, wrap64, wr_new, wr_new0, ok_if, ok_ifn, iadV_sl, makeV_int, decT, decF, over_at, *]) | (with_reducible refine Gd_split (fun hc => ?_) (fun hc => ?_) <;> (have hc2 := hc; try simp at hc2)) | (with_reducible refine Br_split (fun hc => ?_) (fun hc => ?_) <;> (have hc2 := hc; try simp at hc2)) | (with_reducible refine GdT_split (fun hc => ?_) (fun hc => ?_) <;> (have hc2 := hc; try simp at hc2)) | (with_reducible refine WT_alt ?_ ?_) | omega)
set_option maxHeartbeats 4000000 in
theorem c_implCostOf (hC : Arr h l 3 (cs.map Eff.cells)) (hCI : In h Eff.nums cs) (hS : Arr h l2 5 (ss.map Str.cells)) (hSI : InS h ss) : CallT S true 39 [.agg [l, l2]] h lim K = K (costT (cs.map (·.1)) (valS ss)) h := by
  obtain ⟨hr0, hr1⟩ := box_rd (h := h) (l := l) (l2 := l2) (ty := 46) (t := [])
  have hr2 : rdCells (h ++ [⟨[l, l2], .own 46 1⟩]) h.length 0 2 = some [l, l2] := Cel.new.rd (by simp)
  have hv := fun lim K => c_implValidSession (S := S) (lim := lim) (K := K) (h := h ++ [⟨[l, l2], .own 46 1⟩]) hC.app (hCI.kept (Kept.app _ _)) hS.app (hSI.kept (Kept.app _ _))
  have hkb := Kept.app h [⟨[l, l2], .own 46 1⟩]
  unfold costT
  by_cases hok : sesOk (cs.map (·.1)) (valS ss)
  · rw [decide_eq_true hok] at hv
    rw [if_pos hok, valS_len]
    have hst := hok.2.2.1
    have hsl := fun j => costTo_le (vs := valS ss) hst (i := j)
    have hn12 : cs.length ≤ 12 := by have := hok.2.1; simpa using this
    have hn8 : ss.length ≤ 8 := by have := hok.1.2; rwa [valS_len] at this
    have hsm := (small_of (ro := Eff.nums) (b := 256) (n := 12) (xs := cs.map (·.1)) (by simpa using hn12) (fun c hc => (hok.2.2.2 c hc).2.2) rfl).2
    have hzz := fun i => szD_take_le (ro := Eff.nums) (ps := cs) (i := i)
    clear hok
    refine CallT_pure (F := L39) (HasCt.f39) rfl (by first | rfl | (split <;> rfl) | simp) ?_; unfold L39; dsimp only []
    repeat' (first | (simp (disch := first | omega | assumption | (simp only [List.length_set]; omega) | (simp [*] <;> fail) | assumption) [-Bool.decide_and, -Bool.decide_or, -Bool.not_and, -Bool.not_or, toNat_pred, toNat_succ, wrap64, wr_new, wr_new0, ok_if, ok_ifn, iadV_sl, makeV_int, decT, decF, over_at, *, hC.len]) | (with_reducible refine Gd_split (fun hc => ?_) (fun hc => ?_) <;> (have hc2 := hc; try simp at hc2)) | (with_reducible refine Br_split (fun hc => ?_) (fun hc => ?_) <;> (have hc2 := hc; try simp at hc2)) | (with_reducible refine GdT_split (fun hc => ?_) (fun hc => ?_) <;> (have hc2 := hc; try simp at hc2)) | (with_reducible refine WT_alt ?_ ?_) | omega)
    refine WL_forM 67076176 (by decide +kernel) (cs.length) (fun i b g => i ≤ cs.length ∧ b 15 = .lf (.int .i64 i) ∧ b 4 = .lf (.int .i64 (szD Eff.nums (cs.take i))) ∧ Kept (h ++ [⟨[l, l2], .own 46 1⟩]) g) (fun _ _ _ hi => hi.1) ⟨by omega, by simp, by simp [szD], Kept.refl _⟩ ?_
    rintro i b g ⟨hi, e11, e4, hkg⟩
    have hk := hkb.trans hkg
    have hC1 := hC.kept hk
    have hg := hk.1
    by_cases hlt : i < cs.length
    · have hs := szD_take (ro := Eff.nums) hlt
      have hz := hzz i
      have hz1 := hzz (i + 1)
      have hin := (hCI i hlt).len
      clear hsl hst
      repeat' (first | (simp (disch := first | omega | assumption | (simp only [List.length_set]; omega) | (simp [*] <;> fail) | assumption) [-Bool.decide_and, -Bool.decide_or, -Bool.not_and, -Bool.not_or, toNat_pred, toNat_succ, wrap64, wr_new, wr_new0, ok_if, ok_ifn, iadV_sl, makeV_int, decT, decF, over_at, *, hC1.len, hC1.at_, hC1.at_', hC1.rd, hC1.rdIn, hC1.rdIn0, hC1.rdA, hC1.rdInA, hC1.rdIn0A, Eff.cells, leavesAll, fillL]) | (with_reducible refine Gd_split (fun hc => ?_) (fun hc => ?_) <;> (have hc2 := hc; try simp at hc2)) | (with_reducible refine Br_split (fun hc => ?_) (fun hc => ?_) <;> (have hc2 := hc; try simp at hc2)) | (with_reducible refine GdT_split (fun hc => ?_) (fun hc => ?_) <;> (have hc2 := hc; try simp at hc2)) | (with_reducible refine WT_alt ?_ ?_) | omega)
      all_goals exact ⟨hlt, by omega⟩
    · have : i = cs.length := by omega
      subst this
      rw [List.take_length] at e4
      have q2 := hkg.rd hr2
      repeat' (first | (simp (disch := first | omega | assumption | (simp only [List.length_set]; omega) | (simp [*] <;> fail) | assumption) [-Bool.decide_and, -Bool.decide_or, -Bool.not_and, -Bool.not_or, toNat_pred, toNat_succ, wrap64, wr_new, wr_new0, ok_if, ok_ifn, iadV_sl, makeV_int, decT, decF, over_at, *, hC1.len]) | (with_reducible refine Gd_split (fun hc => ?_) (fun hc => ?_) <;> (have hc2 := hc; try simp at hc2)) | (with_reducible refine Br_split (fun hc => ?_) (fun hc => ?_) <;> (have hc2 := hc; try simp at hc2)) | (with_reducible refine GdT_split (fun hc => ?_) (fun hc => ?_) <;> (have hc2 := hc; try simp at hc2)) | (with_reducible refine WT_alt ?_ ?_) | omega)
      refine c_sesHeard (hS.kept hk) (by omega) (by omega) fun o g2 hO => ?_
      have hk2 := hkg.trans hO.kept
      have hk3 := hkb.trans hk2
      have hS1 := hS.kept hk3
      have hSI1 := hSI.kept hk3
      have q1 := hk2.rd hr1
      have hOA := hO.arr
      have hol := hOA.len
      rw [tabTo_len] at hol
      repeat' (first | (simp (disch := first | omega | assumption | (simp only [List.length_set]; omega) | (simp [*] <;> fail) | assumption) [-Bool.decide_and, -Bool.decide_or, -Bool.not_and, -Bool.not_or, toNat_pred, toNat_succ, wrap64, wr_new, wr_new0, ok_if, ok_ifn, iadV_sl, makeV_int, decT, decF, over_at, *]) | (with_reducible refine Gd_split (fun hc => ?_) (fun hc => ?_) <;> (have hc2 := hc; try simp at hc2)) | (with_reducible refine Br_split (fun hc => ?_) (fun hc => ?_) <;> (have hc2 := hc; try simp at hc2)) | (with_reducible refine GdT_split (fun hc => ?_) (fun hc => ?_) <;> (have hc2 := hc; try simp at hc2)) | (with_reducible refine WT_alt ?_ ?_) | omega)
      refine WL_forM 140736951484816 (by decide +kernel) (ss.length) (fun j b g' => j ≤ ss.length ∧ b 29 = .lf (.int .i64 j) ∧ b 4 = .lf (.int .i64 (szD Eff.nums cs + costTo (valS ss) j)) ∧ g' = g2) (fun _ _ _ hi => hi.1) ⟨by omega, by simp, by simp [costTo, over_at, e4], rfl⟩ ?_
      rintro j b g' ⟨hj, e29, e4, rfl⟩
      have hb := hsl j
      by_cases hlt : j < ss.length
      · have hlt2 : j < (tabTo (hdB (trkV (valS ss))) ss.length).length := by rw [tabTo_len]; exact hlt
        have hrd := hOA.rd1 hlt2
        have hat := hOA.at_ (k := .i64) hlt2
        have hv2 : (tabTo (hdB (trkV (valS ss))) ss.length)[j] = hdB (trkV (valS ss)) j := by simp [tabTo]
        rw [hv2] at hrd
        have hb1 := hsl (j + 1)
        have hs : costTo (valS ss) (j + 1) = costTo (valS ss) j + (if hdB (trkV (valS ss)) j = true then effN (valS ss) j else 0) := rfl
        rw [effN_get hlt] at hs
        have hin := (hSI1 j hlt).1.len
        cases hd : hdB (trkV (valS ss)) j
        · rw [hd] at hs hrd
          rw [if_neg (by simp), Int.add_zero] at hs
          have hsH : Hid (costTo (valS ss) (j + 1) = costTo (valS ss) j) := hs
          clear hs hv2 hsl hst hd
          repeat' (first | (simp (disch := first | omega | assumption | (simp only [List.length_set]; omega) | (simp [*] <;> fail) | assumption) [-Bool.decide_and, -Bool.decide_or, -Bool.not_and, -Bool.not_or, toNat_pred, toNat_succ, wrap64, wr_new, wr_new0, ok_if, ok_ifn, iadV_sl, makeV_int, decT, decF, over_at, *, bl]) | (with_reducible refine Gd_split (fun hc => ?_) (fun hc => ?_) <;> (have hc2 := hc; try simp at hc2)) | (with_reducible refine Br_split (fun hc => ?_) (fun hc => ?_) <;> (have hc2 := hc; try simp at hc2)) | (with_reducible refine GdT_split (fun hc => ?_) (fun hc => ?_) <;> (have hc2 := hc; try simp at hc2)) | (with_reducible refine WT_alt ?_ ?_) | omega)
          exact ⟨hlt, by rw [show costTo (valS ss) (j + 1) = _ from hsH]⟩
        · rw [hd] at hs hrd
          rw [if_pos rfl] at hs
          have hsH : Hid (costTo (valS ss) (j + 1) = costTo (valS ss) j + 256 * (ss[j].1.ps.length : Int)) := hs
          rw [hs] at hb1
          clear hs hv2 hsl hst hd
          generalize costTo (valS ss) j = z at *
          repeat' (first | (simp (disch := first | omega | assumption | (simp only [List.length_set]; omega) | (simp [*] <;> fail) | assumption) [-Bool.decide_and, -Bool.decide_or, -Bool.not_and, -Bool.not_or, toNat_pred, toNat_succ, wrap64, wr_new, wr_new0, ok_if, ok_ifn, iadV_sl, makeV_int, decT, decF, over_at, *, bl, hS1.len, hS1.at_, hS1.at_', hS1.rd, hS1.rdIn, hS1.rdIn0, hS1.rdA, hS1.rdInA, hS1.rdIn0A, Str.cells]) | (with_reducible refine Gd_split (fun hc => ?_) (fun hc => ?_) <;> (have hc2 := hc; try simp at hc2)) | (with_reducible refine Br_split (fun hc => ?_) (fun hc => ?_) <;> (have hc2 := hc; try simp at hc2)) | (with_reducible refine GdT_split (fun hc => ?_) (fun hc => ?_) <;> (have hc2 := hc; try simp at hc2)) | (with_reducible refine WT_alt ?_ ?_) | omega)
          exact ⟨hlt, by rw [show costTo (valS ss) (j + 1) = _ from hsH]; omega⟩
      · have : j = ss.length := by omega
        subst this
        rw [← szD_eq]
        repeat' (first | (simp (disch := first | omega | assumption | (simp only [List.length_set]; omega) | (simp [*] <;> fail) | assumption) [-Bool.decide_and, -Bool.decide_or, -Bool.not_and, -Bool.not_or, toNat_pred, toNat_succ, wrap64, wr_new, wr_new0, ok_if, ok_ifn, iadV_sl, makeV_int, decT, decF, over_at, *]) | (with_reducible refine Gd_split (fun hc => ?_) (fun hc => ?_) <;> (have hc2 := hc; try simp at hc2)) | (with_reducible refine Br_split (fun hc => ?_) (fun hc => ?_) <;> (have hc2 := hc; try simp at hc2)) | (with_reducible refine GdT_split (fun hc => ?_) (fun hc => ?_) <;> (have hc2 := hc; try simp at hc2)) | (with_reducible refine WT_alt ?_ ?_) | omega)
  · rw [decide_eq_false hok] at hv
    rw [if_neg hok]
    refine CallT_pure (F := L39) (HasCt.f39) rfl (by first | rfl | (split <;> rfl) | simp) ?_; unfold L39; dsimp only []
    repeat' (first | (simp (disch := first | omega | assumption | (simp only [List.length_set]; omega) | (simp [*] <;> fail) | assumption) [-Bool.decide_and, -Bool.decide_or, -Bool.not_and, -Bool.not_or, toNat_pred, toNat_succ, wrap64, wr_new, wr_new0, ok_if, ok_ifn, iadV_sl, makeV_int, decT, decF, over_at, *]) | (with_reducible refine Gd_split (fun hc => ?_) (fun hc => ?_) <;> (have hc2 := hc; try simp at hc2)) | (with_reducible refine Br_split (fun hc => ?_) (fun hc => ?_) <;> (have hc2 := hc; try simp at hc2)) | (with_reducible refine GdT_split (fun hc => ?_) (fun hc => ?_) <;> (have hc2 := hc; try simp at hc2)) | (with_reducible refine WT_alt ?_ ?_) | omega)
end
end Go.E
