/- What is drawn from bytes: contracts that say only in which bounds it lies. -/
import Derived.Test.YtkabbddhdnddoaaMF
import Derived.Test.YtkabbddhdnddoaaEE
set_option linter.unusedVariables false
set_option linter.unusedSimpArgs false
namespace Go.E
open Go
def L24 : LFn := ⟨1, (.seq (.reg [⟨(.some 2), (.mv (.c (.lf .nilp))), none⟩])
 (.seq (.reg [⟨(.some 3), (.mv (.t 0)), none⟩, ⟨(.some 4), (.build [.nils, (.int .i64 0), (.int .u64 0)] [(0, (1, (.t 3)))]), none⟩, ⟨(.some 5), (.box 77 (.t 4)), none⟩, ⟨(.some 2), (.mv (.t 5)), none⟩])
 .ret)), [(.tmp 2)]⟩
def L44 : LFn := ⟨1, (.seq (.reg [⟨(.some 2), (.mv (.c (.lf (.int .i64 0)))), none⟩])
 (.seq (.reg [⟨(.some 3), (.mv (.c (.lf (.int .i64 0)))), none⟩])
 (.seq (.seq (.reg [⟨(.some 4), (.mv (.t 0)), none⟩, ⟨(.some 5), (.nilck (.t 4)), none⟩, ⟨(.some 6), (.faddr 1 (.t 5)), none⟩, ⟨(.some 7), (.load false 1 (.t 6)), none⟩, ⟨(.some 8), (.mv (.t 0)), none⟩, ⟨(.some 9), (.nilck (.t 8)), none⟩, ⟨(.some 10), (.faddr 0 (.t 9)), none⟩, ⟨(.some 11), (.load false 1 (.t 10)), none⟩, ⟨(.some 12), (.len (.t 11)), none⟩, ⟨(.some 13), (.bin .lss (.t 7) (.t 12)), none⟩])
 (.cond (.t 13) (.reg [⟨(.some 14), (.mv (.t 0)), none⟩, ⟨(.some 15), (.nilck (.t 14)), none⟩, ⟨(.some 16), (.faddr 0 (.t 15)), none⟩, ⟨(.some 17), (.load false 1 (.t 16)), none⟩, ⟨(.some 18), (.mv (.t 0)), none⟩, ⟨(.some 19), (.nilck (.t 18)), none⟩, ⟨(.some 20), (.faddr 1 (.t 19)), none⟩, ⟨(.some 21), (.load false 1 (.t 20)), none⟩, ⟨(.some 22), (.iaddr 1 (.t 17) (.t 21)), none⟩, ⟨(.some 23), (.load false 1 (.t 22)), none⟩, ⟨(.some 24), (.toint .i64 (.t 23)), none⟩, ⟨(.some 3), (.mv (.t 24)), none⟩]) .skip))
 (.seq (.reg [⟨(.some 25), (.mv (.t 0)), none⟩, ⟨(.some 26), (.nilck (.t 25)), none⟩, ⟨(.some 27), (.faddr 1 (.t 26)), none⟩, ⟨(.some 28), (.load false 1 (.t 27)), none⟩, ⟨(.some 29), (.bin .add (.t 28) (.c (.lf (.int .i64 1)))), none⟩, ⟨(.some 30), (.nilck (.t 25)), none⟩, ⟨(.some 31), (.faddr 1 (.t 30)), none⟩, ⟨none, (.store 1 (.t 31) (.t 29)), none⟩])
 (.seq (.reg [⟨(.some 32), (.mv (.t 0)), none⟩, ⟨(.some 33), (.mv (.t 0)), none⟩, ⟨(.some 34), (.nilck (.t 33)), none⟩, ⟨(.some 35), (.faddr 2 (.t 34)), none⟩, ⟨(.some 36), (.load false 1 (.t 35)), none⟩, ⟨(.some 37), (.bin .mul (.t 36) (.c (.lf (.int .u64 6364136223846793005)))), none⟩, ⟨(.some 38), (.mv (.t 3)), none⟩, ⟨(.some 39), (.toint .u64 (.t 38)), none⟩, ⟨(.some 40), (.bin .add (.t 37) (.t 39)), none⟩, ⟨(.some 41), (.bin .add (.t 40) (.c (.lf (.int .u64 1442695040888963407)))), none⟩, ⟨(.some 42), (.nilck (.t 32)), none⟩, ⟨(.some 43), (.faddr 2 (.t 42)), none⟩, ⟨none, (.store 1 (.t 43) (.t 41)), none⟩])
 (.seq (.seq (.reg [⟨(.some 44), (.mv (.t 0)), none⟩, ⟨(.some 45), (.nilck (.t 44)), none⟩, ⟨(.some 46), (.faddr 1 (.t 45)), none⟩, ⟨(.some 47), (.load false 1 (.t 46)), none⟩, ⟨(.some 48), (.mv (.t 0)), none⟩, ⟨(.some 49), (.nilck (.t 48)), none⟩, ⟨(.some 50), (.faddr 0 (.t 49)), none⟩, ⟨(.some 51), (.load false 1 (.t 50)), none⟩, ⟨(.some 52), (.len (.t 51)), none⟩, ⟨(.some 53), (.bin .leq (.t 47) (.t 52)), none⟩])
 (.cond (.t 53) (.seq (.reg [⟨(.some 54), (.mv (.t 3)), none⟩, ⟨(.some 2), (.mv (.t 54)), none⟩])
 .ret) .skip))
 (.seq (.reg [⟨(.some 55), (.mv (.t 0)), none⟩, ⟨(.some 56), (.nilck (.t 55)), none⟩, ⟨(.some 57), (.faddr 2 (.t 56)), none⟩, ⟨(.some 58), (.load false 1 (.t 57)), none⟩, ⟨(.some 59), (.bin .shr (.t 58) (.c (.lf (.int .u64 40)))), none⟩, ⟨(.some 60), (.bin .and (.t 59) (.c (.lf (.int .u64 255)))), none⟩, ⟨(.some 61), (.toint .i64 (.t 60)), none⟩, ⟨(.some 2), (.mv (.t 61)), none⟩])
 .ret))))))), [(.tmp 2)]⟩
def L25 : LFn := ⟨2, (.seq (.reg [⟨(.some 4), (.mv (.c (.lf (.int .i64 0)))), none⟩])
 (.seq (.seq (.reg [⟨(.some 6), (.mv (.t 1)), none⟩, ⟨(.some 7), (.bin .leq (.t 6) (.c (.lf (.int .i64 1)))), none⟩])
 (.cond (.t 7) (.seq (.reg [⟨(.some 4), (.mv (.c (.lf (.int .i64 0)))), none⟩])
 .ret) .skip))
 (.seq (.reg [⟨(.some 8), (.mv (.t 0)), none⟩, ⟨(.some 9), (.call false 44 [(.t 8)]), none⟩, ⟨(.some 5), (.mv (.t 9)), none⟩])
 (.seq (.seq (.reg [⟨(.some 10), (.mv (.t 1)), none⟩, ⟨(.some 11), (.bin .gtr (.t 10) (.c (.lf (.int .i64 200)))), none⟩])
 (.cond (.t 11) (.reg [⟨(.some 12), (.mv (.t 5)), none⟩, ⟨(.some 13), (.bin .mul (.t 12) (.c (.lf (.int .i64 256)))), none⟩, ⟨(.some 14), (.mv (.t 0)), none⟩, ⟨(.some 15), (.call false 44 [(.t 14)]), none⟩, ⟨(.some 16), (.bin .add (.t 13) (.t 15)), none⟩, ⟨(.some 5), (.mv (.t 16)), none⟩]) .skip))
 (.seq (.reg [⟨(.some 17), (.mv (.t 5)), none⟩, ⟨(.some 18), (.mv (.t 1)), none⟩, ⟨(.some 19), (.bin .rem (.t 17) (.t 18)), none⟩, ⟨(.some 4), (.mv (.t 19)), none⟩])
 .ret))))), [(.tmp 4)]⟩
def L6 : LFn := ⟨2, (.seq (.reg [⟨(.some 4), (.mv (.c (.lf (.bool false)))), none⟩])
 (.seq (.reg [⟨(.some 5), (.mv (.t 0)), none⟩, ⟨(.some 6), (.len (.t 5)), none⟩, ⟨(.some 7), (.bin .gtr (.t 6) (.c (.lf (.int .i64 1048576)))), none⟩, ⟨(.some 8), (.mv (.t 7)), none⟩, ⟨(.some 9), (.mv (.t 1)), (.some (8, false))⟩, ⟨(.some 10), (.len (.t 9)), (.some (8, false))⟩, ⟨(.some 11), (.bin .gtr (.t 10) (.c (.lf (.int .i64 1048576)))), (.some (8, false))⟩, ⟨(.some 12), (.pick (.t 8) (.c (.lf (.bool true))) (.t 11)), none⟩, ⟨(.some 4), (.mv (.t 12)), none⟩])
 .ret)), [(.tmp 4)]⟩
def L9 : LFn := ⟨3, (.seq (.reg [⟨(.some 6), (.mv (.c (.lf (.int .i64 0)))), none⟩])
 (.seq (.seq (.reg [⟨(.some 7), (.mv (.t 2)), none⟩, ⟨(.some 8), (.bin .leq (.t 7) (.c (.lf (.int .i64 1)))), none⟩])
 (.cond (.t 8) (.seq (.reg [⟨(.some 6), (.mv (.c (.lf (.int .i64 0)))), none⟩])
 .ret) .skip))
 (.seq (.seq (.reg [⟨(.some 9), (.mv (.t 1)), none⟩, ⟨(.some 10), (.mv (.t 0)), none⟩, ⟨(.some 11), (.len (.t 10)), none⟩, ⟨(.some 12), (.bin .lss (.t 9) (.t 11)), none⟩])
 (.cond (.t 12) (.seq (.reg [⟨(.some 13), (.mv (.t 0)), none⟩, ⟨(.some 14), (.mv (.t 1)), none⟩, ⟨(.some 15), (.iaddr 1 (.t 13) (.t 14)), none⟩, ⟨(.some 16), (.load false 1 (.t 15)), none⟩, ⟨(.some 17), (.toint .i64 (.t 16)), none⟩, ⟨(.some 18), (.mv (.t 2)), none⟩, ⟨(.some 19), (.bin .rem (.t 17) (.t 18)), none⟩, ⟨(.some 6), (.mv (.t 19)), none⟩])
 .ret) .skip))
 (.seq (.reg [⟨(.some 20), (.mv (.t 1)), none⟩, ⟨(.some 21), (.bin .mul (.t 20) (.c (.lf (.int .i64 37)))), none⟩, ⟨(.some 22), (.bin .add (.t 21) (.c (.lf (.int .i64 11)))), none⟩, ⟨(.some 23), (.mv (.t 2)), none⟩, ⟨(.some 24), (.bin .rem (.t 22) (.t 23)), none⟩, ⟨(.some 6), (.mv (.t 24)), none⟩])
 .ret)))), [(.tmp 6)]⟩
class HasDr (S : Sys) : Prop where
  f24 : S.fs 24 = some L24
  f44 : S.fs 44 = some L44
  f25 : S.fs 25 = some L25
  f6 : S.fs 6 = some L6
  f9 : S.fs 9 = some L9
def ul (n : Int) : List Lf := [.int .u8 n]
theorem ul_of {h : Hp} {r : List Lf} (t : Ty h (.int .u8) r) : ∃ n : Int, r = ul n ∧ (0 ≤ n ∧ n < 256) := by
  obtain ⟨n, rfl, hw⟩ := t
  refine ⟨n, rfl, ?_⟩
  simp [Lit.wf] at hw
  have h1 : IntKind.u8.min = 0 := by decide
  have h2 : IntKind.u8.max = 255 := by decide
  rw [h1, h2] at hw
  omega
/-- The source of what is drawn, in the heap. -/
def srcO (l : Lf) (at_ sd : Int) : Ob := ⟨[l, .int .i64 at_, .int .u64 sd], .own 77 1⟩
def shrV (x : Int) : Int := x.fdiv (2 ^ 40)
theorem shr_u64 {x : Int} : binV .shr (.lf (.int .u64 x)) (.lf (.int .u64 40)) = some (.lf (.int .u64 (shrV x))) := by
  have h1 : ¬ (40 : Int) < 0 := by decide
  have h2 : min 40 IntKind.u64.bits = 40 := by decide
  simp [binV, isShift, ishift, shrV, h2]
def andV (x : Int) : Int := Go.bits .and .u64 x 255
theorem and_255 {x : Int} : binV .and (.lf (.int .u64 x)) (.lf (.int .u64 255)) = some (.lf (.int .u64 (andV x))) := by
  simp [binV, isShift, ibin, andV]
theorem andV_lt {x : Int} : 0 ≤ andV x ∧ andV x < 256 := by
  have e : andV x = IntKind.u64.wrap (((BitVec.ofInt 64 x &&& BitVec.ofInt 64 255).toNat : Nat) : Int) := rfl
  have h1 : (BitVec.ofInt 64 x &&& BitVec.ofInt 64 255).toNat ≤ 255 := by
    rw [BitVec.toNat_and]
    exact Nat.le_trans Nat.and_le_right (by decide)
  rw [e]
  generalize (BitVec.ofInt 64 x &&& BitVec.ofInt 64 255).toNat = m at *
  have : IntKind.u64.wrap (m : Int) = m := by
    rw [IntKind.wrap_u64]; omega
  omega
section
variable {S : Sys} {lim : Nat} {h : Hp} {K : CV → Hp → Prop} [HasDr S] {l : Lf} {cs : List Int}
theorem c_next {g t : Hp} {a sd : Int} (hA : Arr g l 1 (cs.map ul)) (hc : ∀ c ∈ cs, 0 ≤ c ∧ c < 256) (ha : 0 ≤ a ∧ a ≤ 100000) (hl : lim ≤ g.length)
    (hK : ∀ v sd', 0 ≤ v → v < 256 → K (.lf (.int .i64 v)) (g ++ srcO l (a + 1) sd' :: t)) : CallT S false 44 [.lf (.ptr g.length 0)] (g ++ srcO l a sd :: t) lim K := by
  have hb := hA.bound
  have hA1 := hA.app (t := srcO l a sd :: t)
  unfold srcO at *
  have e1 := fun x => shr_u64 (x := x)
  have e2 := fun x => and_255 (x := x)
  have e3 := fun x => andV_lt (x := x)
  refine CallT_of_body (F := L44) (HasDr.f44) rfl ?_; unfold L44; dsimp only []
  by_cases hlt : a < cs.length
  · obtain ⟨A, rfl⟩ := Int.eq_ofNat_of_zero_le ha.1
    have hlt2 : A < cs.length := by omega
    have hcc := hc _ (List.getElem_mem hlt2)
    repeat' (first | (simp (disch := first | omega | assumption | (simp only [List.length_set]; omega) | (simp [*] <;> fail) | assumption) [-Bool.decide_and, -Bool.decide_or, -Bool.not_and, -Bool.not_or, toNat_pred, toNat_succ, wrap64, wr_new, wr_new0, ok_if, ok_ifn, iadV_sl, makeV_int, decT, decF, over_at, *, hA1.len, hA1.at_, hA1.at_', hA1.rd, hA1.rdIn, hA1.rdIn0, hA1.rdA, hA1.rdInA, hA1.rdIn0A, hA1.rd1, ul]) | (with_reducible refine Gd_split (fun hc => ?_) (fun hc => ?_) <;> (have hc2 := hc; try simp at hc2)) | (with_reducible refine Br_split (fun hc => ?_) (fun hc => ?_) <;> (have hc2 := hc; try simp at hc2)) | (with_reducible refine GdT_split (fun hc => ?_) (fun hc => ?_) <;> (have hc2 := hc; try simp at hc2)) | (with_reducible refine WT_alt ?_ ?_) | omega)
  · repeat' (first | (simp (disch := first | omega | assumption | (simp only [List.length_set]; omega) | (simp [*] <;> fail) | assumption) [-Bool.decide_and, -Bool.decide_or, -Bool.not_and, -Bool.not_or, toNat_pred, toNat_succ, wrap64, wr_new, wr_new0, ok_if, ok_ifn, iadV_sl, makeV_int, decT, decF, over_at, *, hA1.len]) | (with_reducible refine Gd_split (fun hc => ?_) (fun hc => ?_) <;> (have hc2 := hc; try simp at hc2)) | (with_reducible refine Br_split (fun hc => ?_) (fun hc => ?_) <;> (have hc2 := hc; try simp at hc2)) | (with_reducible refine GdT_split (fun hc => ?_) (fun hc => ?_) <;> (have hc2 := hc; try simp at hc2)) | (with_reducible refine WT_alt ?_ ?_) | omega)
    generalize shrV _ = y at *
    obtain ⟨e4, e5⟩ := e3 y
    generalize andV y = z at *
    repeat' (first | (simp (disch := first | omega | assumption | (simp only [List.length_set]; omega) | (simp [*] <;> fail) | assumption) [-Bool.decide_and, -Bool.decide_or, -Bool.not_and, -Bool.not_or, toNat_pred, toNat_succ, wrap64, wr_new, wr_new0, ok_if, ok_ifn, iadV_sl, makeV_int, decT, decF, over_at, *]) | (with_reducible refine Gd_split (fun hc => ?_) (fun hc => ?_) <;> (have hc2 := hc; try simp at hc2)) | (with_reducible refine Br_split (fun hc => ?_) (fun hc => ?_) <;> (have hc2 := hc; try simp at hc2)) | (with_reducible refine GdT_split (fun hc => ?_) (fun hc => ?_) <;> (have hc2 := hc; try simp at hc2)) | (with_reducible refine WT_alt ?_ ?_) | omega)
theorem c_pick {g t : Hp} {a sd : Int} {n : Int} (hA : Arr g l 1 (cs.map ul)) (hc : ∀ c ∈ cs, 0 ≤ c ∧ c < 256) (ha : 0 ≤ a ∧ a ≤ 100000) (hn : 1 < n ∧ n ≤ 200) (hl : lim ≤ g.length)
    (hK : ∀ v sd', 0 ≤ v → v < n → K (.lf (.int .i64 v)) (g ++ srcO l (a + 1) sd' :: t)) : CallT S false 25 [.lf (.ptr g.length 0), .lf (.int .i64 n)] (g ++ srcO l a sd :: t) lim K := by
  refine CallT_of_body (F := L25) (HasDr.f25) rfl ?_; unfold L25; dsimp only []
  repeat' (first | (simp (disch := first | omega | assumption | (simp only [List.length_set]; omega) | (simp [*] <;> fail) | assumption) [-Bool.decide_and, -Bool.decide_or, -Bool.not_and, -Bool.not_or, toNat_pred, toNat_succ, wrap64, wr_new, wr_new0, ok_if, ok_ifn, iadV_sl, makeV_int, decT, decF, over_at, *]) | (with_reducible refine Gd_split (fun hc => ?_) (fun hc => ?_) <;> (have hc2 := hc; try simp at hc2)) | (with_reducible refine Br_split (fun hc => ?_) (fun hc => ?_) <;> (have hc2 := hc; try simp at hc2)) | (with_reducible refine GdT_split (fun hc => ?_) (fun hc => ?_) <;> (have hc2 := hc; try simp at hc2)) | (with_reducible refine WT_alt ?_ ?_) | omega)
  refine c_next hA hc ha hl fun v sd' h0 h1 => ?_
  have h2 : 0 ≤ v.tmod n := Int.tmod_nonneg _ h0
  have h3 : v.tmod n < n := Int.tmod_lt_of_pos _ (by omega)
  have hn0 : ¬ n = 0 := by omega
  have hn2 : ¬ 200 < n := by omega
  repeat' (first | (simp (disch := first | omega | assumption | (simp only [List.length_set]; omega) | (simp [*] <;> fail) | assumption) [-Bool.decide_and, -Bool.decide_or, -Bool.not_and, -Bool.not_or, toNat_pred, toNat_succ, wrap64, wr_new, wr_new0, ok_if, ok_ifn, iadV_sl, makeV_int, decT, decF, over_at, *]) | (with_reducible refine Gd_split (fun hc => ?_) (fun hc => ?_) <;> (have hc2 := hc; try simp at hc2)) | (with_reducible refine Br_split (fun hc => ?_) (fun hc => ?_) <;> (have hc2 := hc; try simp at hc2)) | (with_reducible refine GdT_split (fun hc => ?_) (fun hc => ?_) <;> (have hc2 := hc; try simp at hc2)) | (with_reducible refine WT_alt ?_ ?_) | omega)
theorem New.swapK {h : Hp} {l : Lf} {ty sz : Nat} {rows : List (List Lf)} {a a' : Ob} {t : Hp} (hN : New (h ++ [a]) (h ++ a :: t) l ty sz rows) : New (h ++ [a']) (h ++ a' :: t) l ty sz rows := by
  have hk : Kept (h ++ [a']) (h ++ a' :: t) := by have := Kept.app (h ++ [a']) t; simpa using this
  rcases hN.own with ⟨rfl, rfl⟩ | ⟨i, rfl, h2, h3⟩
  · exact New.nil hk
  · have h4 : Sl (h ++ a' :: t) i ty sz rows := by
      refine ⟨?_, h3.len⟩
      have := h3.get
      rw [List.getElem?_append_right (by simp at h2; omega)] at this
      rw [List.getElem?_append_right (by simp at h2; omega), ← this]
      simp at h2
      obtain ⟨k, hk⟩ : ∃ k, i - h.length = k + 1 := ⟨i - h.length - 1, by omega⟩
      rw [hk]
      simp
    exact ⟨hk, h4.arr hN.arr.small, .inr ⟨i, rfl, by simp at h2 ⊢; omega, h4⟩⟩
theorem c_From {h : Hp} (hK : K (.lf (.ptr h.length 0)) (h ++ [srcO l 0 0])) : CallT S false 24 [.lf l] h lim K := by
  unfold srcO at hK
  refine CallT_of_body (F := L24) (HasDr.f24) rfl ?_; unfold L24; dsimp only []
  repeat' (first | (simp (disch := first | omega | assumption | (simp only [List.length_set]; omega) | (simp [*] <;> fail) | assumption) [-Bool.decide_and, -Bool.decide_or, -Bool.not_and, -Bool.not_or, toNat_pred, toNat_succ, wrap64, wr_new, wr_new0, ok_if, ok_ifn, iadV_sl, makeV_int, decT, decF, over_at, *, leavesAll, fillL]) | (with_reducible refine Gd_split (fun hc => ?_) (fun hc => ?_) <;> (have hc2 := hc; try simp at hc2)) | (with_reducible refine Br_split (fun hc => ?_) (fun hc => ?_) <;> (have hc2 := hc; try simp at hc2)) | (with_reducible refine GdT_split (fun hc => ?_) (fun hc => ?_) <;> (have hc2 := hc; try simp at hc2)) | (with_reducible refine WT_alt ?_ ?_) | omega)
theorem c_pick1 {g t : Hp} {E : Ob} {a sd : Int} {n : Int} (hA : Arr g l 1 (cs.map ul)) (hc : ∀ c ∈ cs, 0 ≤ c ∧ c < 256) (ha : 0 ≤ a ∧ a ≤ 100000) (hn : 1 < n ∧ n ≤ 200) (hl : lim ≤ g.length)
    (hK : ∀ v sd', 0 ≤ v → v < n → K (.lf (.int .i64 v)) (g ++ E :: srcO l (a + 1) sd' :: t)) : CallT S false 25 [.lf (.ptr (g.length + 1) 0), .lf (.int .i64 n)] (g ++ E :: srcO l a sd :: t) lim K := by
  have := c_pick (S := S) (K := K) (lim := lim) (g := g ++ [E]) (t := t) (sd := sd) (hA.app) hc ha hn (by simp; omega) (fun v sd' h1 h2 => by simpa using hK v sd' h1 h2)
  simpa using this
end
end Go.E
