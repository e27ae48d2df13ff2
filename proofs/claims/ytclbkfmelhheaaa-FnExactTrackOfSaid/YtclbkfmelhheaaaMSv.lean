/- Sessions: valid or not, both sides. -/
import Derived.Test.YtclbkfmelhheaaaMSt
import Derived.Test.YtclbkfmelhheaaaMTk
import Derived.Test.YtclbkfmelhheaaaMCh
set_option linter.unusedVariables false
set_option linter.unusedSimpArgs false
namespace Go.E
open Go
def L141 : LFn := ⟨2, (.seq (.reg [⟨(.some 4), (.alloc 151 [.nils, (.int .i64 0), (.flt .f32 0), (.bool false), (.bool false)]), none⟩])
 (.seq (.reg [⟨(.some 5), (.mv (.t 1)), none⟩, ⟨(.some 6), (.mv (.t 0)), none⟩, ⟨(.some 7), (.nilck (.t 6)), none⟩, ⟨(.some 8), (.faddr 1 (.t 7)), none⟩, ⟨(.some 9), (.load false 1 (.t 8)), none⟩, ⟨(.some 10), (.mv (.t 0)), none⟩, ⟨(.some 11), (.nilck (.t 10)), none⟩, ⟨(.some 12), (.faddr 2 (.t 11)), none⟩, ⟨(.some 13), (.load false 1 (.t 12)), none⟩, ⟨(.some 14), (.mv (.t 0)), none⟩, ⟨(.some 15), (.nilck (.t 14)), none⟩, ⟨(.some 16), (.faddr 3 (.t 15)), none⟩, ⟨(.some 17), (.load false 1 (.t 16)), none⟩, ⟨(.some 18), (.mv (.t 0)), none⟩, ⟨(.some 19), (.nilck (.t 18)), none⟩, ⟨(.some 20), (.faddr 4 (.t 19)), none⟩, ⟨(.some 21), (.load false 1 (.t 20)), none⟩, ⟨(.some 22), (.build [.nils, (.int .i64 0), (.flt .f32 0), (.bool false), (.bool false)] [(0, (1, (.t 5))), (1, (1, (.t 9))), (2, (1, (.t 13))), (3, (1, (.t 17))), (4, (1, (.t 21)))]), none⟩, ⟨none, (.store 5 (.t 4) (.t 22)), none⟩])
 .ret)), [(.cell 4 true 5)]⟩
def L70 : LFn := ⟨1, (.seq (.reg [⟨(.some 2), (.mv (.c (.lf (.bool false)))), none⟩])
 (.seq (.reg [⟨(.some 7), (.mv (.t 0)), none⟩, ⟨(.some 8), (.nilck (.t 7)), none⟩, ⟨(.some 9), (.faddr 1 (.t 8)), none⟩, ⟨(.some 10), (.load false 1 (.t 9)), none⟩, ⟨(.some 11), (.len (.t 10)), none⟩, ⟨(.some 3), (.mv (.t 11)), none⟩])
 (.seq (.seq (.reg [⟨(.some 12), (.mv (.t 3)), none⟩, ⟨(.some 13), (.call true 85 [(.t 12), (.c (.lf (.int .i64 1))), (.c (.lf (.int .i64 8)))]), none⟩, ⟨(.some 14), (.una .not (.t 13)), none⟩, ⟨(.some 15), (.mv (.t 14)), none⟩, ⟨(.some 16), (.mv (.t 0)), (.some (15, false))⟩, ⟨(.some 17), (.nilck (.t 16)), (.some (15, false))⟩, ⟨(.some 18), (.faddr 0 (.t 17)), (.some (15, false))⟩, ⟨(.some 19), (.load false 1 (.t 18)), (.some (15, false))⟩, ⟨(.some 20), (.len (.t 19)), (.some (15, false))⟩, ⟨(.some 21), (.bin .gtr (.t 20) (.c (.lf (.int .i64 12)))), (.some (15, false))⟩, ⟨(.some 22), (.pick (.t 15) (.c (.lf (.bool true))) (.t 21)), none⟩])
 (.cond (.t 22) (.seq (.reg [⟨(.some 2), (.mv (.c (.lf (.bool false)))), none⟩])
 .ret) .skip))
 (.seq (.seq (.reg [⟨(.some 23), (.mv (.t 0)), none⟩, ⟨(.some 24), (.nilck (.t 23)), none⟩, ⟨(.some 25), (.faddr 1 (.t 24)), none⟩, ⟨(.some 26), (.load false 1 (.t 25)), none⟩, ⟨(.some 27), (.len (.t 26)), none⟩, ⟨(.some 28), (.mv (.c (.lf (.int .i64 0)))), none⟩])
 (.block 0 (.loop (.seq (.reg [⟨(.some 29), (.bin .lss (.t 28) (.t 27)), none⟩])
 (.seq (.cond (.t 29) .skip (.exit 0))
 (.seq (.block 1 (.seq (.reg [⟨(.some 30), (.mv (.t 28)), none⟩, ⟨(.some 4), (.mv (.t 30)), none⟩])
 (.seq (.reg [⟨(.some 31), (.mv (.t 0)), none⟩, ⟨(.some 32), (.nilck (.t 31)), none⟩, ⟨(.some 33), (.faddr 1 (.t 32)), none⟩, ⟨(.some 34), (.load false 1 (.t 33)), none⟩, ⟨(.some 35), (.mv (.t 4)), none⟩, ⟨(.some 36), (.iaddr 5 (.t 34) (.t 35)), none⟩, ⟨(.some 37), (.lit 22 1 0 [] []), none⟩, ⟨(.some 38), (.call false 141 [(.t 36), (.t 37)]), none⟩, ⟨(.some 5), (.alloc 151 [.nils, (.int .i64 0), (.flt .f32 0), (.bool false), (.bool false)]), none⟩, ⟨none, (.store 5 (.t 5) (.t 38)), none⟩])
 (.seq (.reg [⟨(.some 39), (.mv (.t 0)), none⟩, ⟨(.some 40), (.nilck (.t 39)), none⟩, ⟨(.some 41), (.faddr 1 (.t 40)), none⟩, ⟨(.some 42), (.load false 1 (.t 41)), none⟩, ⟨(.some 43), (.mv (.t 4)), none⟩, ⟨(.some 44), (.iaddr 5 (.t 42) (.t 43)), none⟩, ⟨(.some 45), (.faddr 0 (.t 44)), none⟩, ⟨(.some 46), (.load false 1 (.t 45)), none⟩, ⟨(.some 47), (.call true 142 [(.t 46)]), none⟩, ⟨(.some 48), (.una .not (.t 47)), none⟩, ⟨(.some 49), (.mv (.t 48)), none⟩, ⟨(.some 50), (.load true 5 (.t 5)), (.some (49, false))⟩, ⟨(.some 51), (.lit 151 5 1 [.nils, (.int .i64 0), (.flt .f32 0), (.bool false), (.bool false)] [(0, (5, (.t 50)))]), (.some (49, false))⟩, ⟨(.some 52), (.call true 103 [(.t 51)]), (.some (49, false))⟩, ⟨(.some 53), (.una .not (.t 52)), (.some (49, false))⟩, ⟨(.some 54), (.pick (.t 49) (.c (.lf (.bool true))) (.t 53)), none⟩])
 (.cond (.t 54) (.seq (.reg [⟨(.some 2), (.mv (.c (.lf (.bool false)))), none⟩])
 .ret) .skip)))))
 (.reg [⟨(.some 55), (.bin .add (.t 28) (.c (.lf (.int .i64 1)))), none⟩, ⟨(.some 28), (.mv (.t 55)), none⟩])))))))
 (.seq (.seq (.reg [⟨(.some 56), (.mv (.t 0)), none⟩, ⟨(.some 57), (.nilck (.t 56)), none⟩, ⟨(.some 58), (.faddr 0 (.t 57)), none⟩, ⟨(.some 59), (.load false 1 (.t 58)), none⟩, ⟨(.some 60), (.len (.t 59)), none⟩, ⟨(.some 61), (.mv (.c (.lf (.int .i64 0)))), none⟩])
 (.block 2 (.loop (.seq (.reg [⟨(.some 62), (.bin .lss (.t 61) (.t 60)), none⟩])
 (.seq (.cond (.t 62) .skip (.exit 2))
 (.seq (.block 3 (.seq (.reg [⟨(.some 63), (.mv (.t 61)), none⟩, ⟨(.some 6), (.mv (.t 63)), none⟩])
 (.seq (.reg [⟨(.some 64), (.mv (.t 0)), none⟩, ⟨(.some 65), (.nilck (.t 64)), none⟩, ⟨(.some 66), (.faddr 0 (.t 65)), none⟩, ⟨(.some 67), (.load false 1 (.t 66)), none⟩, ⟨(.some 68), (.mv (.t 6)), none⟩, ⟨(.some 69), (.iaddr 3 (.t 67) (.t 68)), none⟩, ⟨(.some 70), (.faddr 0 (.t 69)), none⟩, ⟨(.some 71), (.load false 1 (.t 70)), none⟩, ⟨(.some 72), (.mv (.t 3)), none⟩, ⟨(.some 73), (.bin .sub (.t 72) (.c (.lf (.int .i64 1)))), none⟩, ⟨(.some 74), (.call true 85 [(.t 71), (.c (.lf (.int .i64 0))), (.t 73)]), none⟩, ⟨(.some 75), (.una .not (.t 74)), none⟩, ⟨(.some 76), (.mv (.t 75)), none⟩, ⟨(.some 77), (.mv (.t 0)), (.some (76, false))⟩, ⟨(.some 78), (.nilck (.t 77)), (.some (76, false))⟩, ⟨(.some 79), (.faddr 0 (.t 78)), (.some (76, false))⟩, ⟨(.some 80), (.load false 1 (.t 79)), (.some (76, false))⟩, ⟨(.some 81), (.mv (.t 6)), (.some (76, false))⟩, ⟨(.some 82), (.iaddr 3 (.t 80) (.t 81)), (.some (76, false))⟩, ⟨(.some 83), (.faddr 1 (.t 82)), (.some (76, false))⟩, ⟨(.some 84), (.load false 1 (.t 83)), (.some (76, false))⟩, ⟨(.some 85), (.call true 85 [(.t 84), (.c (.lf (.int .i64 0))), (.c (.lf (.int .i64 256)))]), (.some (76, false))⟩, ⟨(.some 86), (.una .not (.t 85)), (.some (76, false))⟩, ⟨(.some 87), (.pick (.t 76) (.c (.lf (.bool true))) (.t 86)), none⟩, ⟨(.some 88), (.mv (.t 87)), none⟩, ⟨(.some 89), (.mv (.t 0)), (.some (88, false))⟩, ⟨(.some 90), (.nilck (.t 89)), (.some (88, false))⟩, ⟨(.some 91), (.faddr 0 (.t 90)), (.some (88, false))⟩, ⟨(.some 92), (.load false 1 (.t 91)), (.some (88, false))⟩, ⟨(.some 93), (.mv (.t 6)), (.some (88, false))⟩, ⟨(.some 94), (.iaddr 3 (.t 92) (.t 93)), (.some (88, false))⟩, ⟨(.some 95), (.faddr 2 (.t 94)), (.some (88, false))⟩, ⟨(.some 96), (.load false 1 (.t 95)), (.some (88, false))⟩, ⟨(.some 97), (.call true 113 [(.t 96)]), (.some (88, false))⟩, ⟨(.some 98), (.una .not (.t 97)), (.some (88, false))⟩, ⟨(.some 99), (.pick (.t 88) (.c (.lf (.bool true))) (.t 98)), none⟩])
 (.cond (.t 99) (.seq (.reg [⟨(.some 2), (.mv (.c (.lf (.bool false)))), none⟩])
 .ret) .skip))))
 (.reg [⟨(.some 100), (.bin .add (.t 61) (.c (.lf (.int .i64 1)))), none⟩, ⟨(.some 61), (.mv (.t 100)), none⟩])))))))
 (.seq (.reg [⟨(.some 2), (.mv (.c (.lf (.bool true)))), none⟩])
 .ret)))))), [(.tmp 2)]⟩
def L73 : LFn := ⟨1, (.seq (.reg [⟨(.some 2), (.mv (.c (.lf (.bool false)))), none⟩])
 (.seq (.reg [⟨(.some 3), (.mv (.t 0)), none⟩, ⟨(.some 4), (.call true 91 [(.t 3), (.c (.lf (.int .i64 1))), (.c (.lf (.int .i64 8)))]), none⟩, ⟨(.some 2), (.mv (.t 4)), none⟩])
 .ret)), [(.tmp 2)]⟩
def L78 : LFn := ⟨2, (.seq (.reg [⟨(.some 4), (.mv (.c (.lf (.bool false)))), none⟩])
 (.seq (.reg [⟨(.some 5), (.mv (.t 0)), none⟩, ⟨(.some 6), (.mv (.t 1)), none⟩, ⟨(.some 7), (.bin .sub (.t 6) (.c (.lf (.int .i64 1)))), none⟩, ⟨(.some 8), (.call true 91 [(.t 5), (.c (.lf (.int .i64 0))), (.t 7)]), none⟩, ⟨(.some 4), (.mv (.t 8)), none⟩])
 .ret)), [(.tmp 4)]⟩
def L65 : LFn := ⟨1, (.seq (.reg [⟨(.some 2), (.mv (.c (.lf (.bool false)))), none⟩])
 (.seq (.reg [⟨(.some 3), (.mv (.t 0)), none⟩, ⟨(.some 4), (.call true 91 [(.t 3), (.c (.lf (.int .i64 0))), (.c (.lf (.int .i64 256)))]), none⟩, ⟨(.some 2), (.mv (.t 4)), none⟩])
 .ret)), [(.tmp 2)]⟩
def L22 : LFn := ⟨1, (.seq (.reg [⟨(.some 1), (.box 46 (.t 0)), none⟩, ⟨(.some 2), (.mv (.c (.lf (.bool false)))), none⟩])
 (.seq (.seq (.reg [⟨(.some 7), (.faddr 1 (.t 1)), none⟩, ⟨(.some 8), (.load false 1 (.t 7)), none⟩, ⟨(.some 9), (.len (.t 8)), none⟩, ⟨(.some 10), (.call true 74 [(.t 9)]), none⟩, ⟨(.some 11), (.call true 73 [(.t 10)]), none⟩, ⟨(.some 12), (.una .not (.t 11)), none⟩, ⟨(.some 13), (.mv (.t 12)), none⟩, ⟨(.some 14), (.faddr 0 (.t 1)), (.some (13, false))⟩, ⟨(.some 15), (.load false 1 (.t 14)), (.some (13, false))⟩, ⟨(.some 16), (.len (.t 15)), (.some (13, false))⟩, ⟨(.some 17), (.bin .gtr (.t 16) (.c (.lf (.int .i64 12)))), (.some (13, false))⟩, ⟨(.some 18), (.pick (.t 13) (.c (.lf (.bool true))) (.t 17)), none⟩])
 (.cond (.t 18) (.seq (.reg [⟨(.some 2), (.mv (.c (.lf (.bool false)))), none⟩])
 .ret) .skip))
 (.seq (.seq (.reg [⟨(.some 19), (.faddr 1 (.t 1)), none⟩, ⟨(.some 20), (.load false 1 (.t 19)), none⟩, ⟨(.some 21), (.len (.t 20)), none⟩, ⟨(.some 22), (.mv (.c (.lf (.int .i64 0)))), none⟩])
 (.block 0 (.loop (.seq (.reg [⟨(.some 23), (.bin .lss (.t 22) (.t 21)), none⟩])
 (.seq (.cond (.t 23) .skip (.exit 0))
 (.seq (.block 1 (.seq (.reg [⟨(.some 24), (.iaddr 5 (.t 20) (.t 22)), none⟩, ⟨(.some 25), (.load true 5 (.t 24)), none⟩, ⟨(.some 4), (.alloc 114 [.nils, (.int .i64 0), (.flt .f32 0), (.bool false), (.bool false)]), none⟩, ⟨none, (.store 5 (.t 4) (.t 25)), none⟩])
 (.seq (.reg [⟨(.some 26), (.faddr 0 (.t 4)), none⟩, ⟨(.some 27), (.load false 1 (.t 26)), none⟩, ⟨(.some 28), (.call true 75 [(.t 27)]), none⟩, ⟨(.some 29), (.una .not (.t 28)), none⟩, ⟨(.some 30), (.mv (.t 29)), none⟩, ⟨(.some 31), (.faddr 1 (.t 4)), (.some (30, false))⟩, ⟨(.some 32), (.load false 1 (.t 31)), (.some (30, false))⟩, ⟨(.some 33), (.call true 76 [(.t 32)]), (.some (30, false))⟩, ⟨(.some 34), (.una .not (.t 33)), (.some (30, false))⟩, ⟨(.some 35), (.pick (.t 30) (.c (.lf (.bool true))) (.t 34)), none⟩, ⟨(.some 36), (.mv (.t 35)), none⟩, ⟨(.some 37), (.faddr 2 (.t 4)), (.some (36, false))⟩, ⟨(.some 38), (.load false 1 (.t 37)), (.some (36, false))⟩, ⟨(.some 39), (.call true 77 [(.t 38)]), (.some (36, false))⟩, ⟨(.some 40), (.una .not (.t 39)), (.some (36, false))⟩, ⟨(.some 41), (.pick (.t 36) (.c (.lf (.bool true))) (.t 40)), none⟩])
 (.cond (.t 41) (.seq (.reg [⟨(.some 2), (.mv (.c (.lf (.bool false)))), none⟩])
 .ret) .skip))))
 (.reg [⟨(.some 42), (.bin .add (.t 22) (.c (.lf (.int .i64 1)))), none⟩, ⟨(.some 22), (.mv (.t 42)), none⟩])))))))
 (.seq (.seq (.reg [⟨(.some 43), (.faddr 0 (.t 1)), none⟩, ⟨(.some 44), (.load false 1 (.t 43)), none⟩, ⟨(.some 45), (.len (.t 44)), none⟩, ⟨(.some 46), (.mv (.c (.lf (.int .i64 0)))), none⟩])
 (.block 2 (.loop (.seq (.reg [⟨(.some 47), (.bin .lss (.t 46) (.t 45)), none⟩])
 (.seq (.cond (.t 47) .skip (.exit 2))
 (.seq (.block 3 (.seq (.reg [⟨(.some 48), (.iaddr 3 (.t 44) (.t 46)), none⟩, ⟨(.some 49), (.load true 3 (.t 48)), none⟩, ⟨(.some 6), (.alloc 118 [(.int .i64 0), (.int .i64 0), .nils]), none⟩, ⟨none, (.store 3 (.t 6) (.t 49)), none⟩])
 (.seq (.reg [⟨(.some 50), (.faddr 0 (.t 6)), none⟩, ⟨(.some 51), (.load false 1 (.t 50)), none⟩, ⟨(.some 52), (.faddr 1 (.t 1)), none⟩, ⟨(.some 53), (.load false 1 (.t 52)), none⟩, ⟨(.some 54), (.len (.t 53)), none⟩, ⟨(.some 55), (.call true 78 [(.t 51), (.t 54)]), none⟩, ⟨(.some 56), (.una .not (.t 55)), none⟩, ⟨(.some 57), (.mv (.t 56)), none⟩, ⟨(.some 58), (.faddr 1 (.t 6)), (.some (57, false))⟩, ⟨(.some 59), (.load false 1 (.t 58)), (.some (57, false))⟩, ⟨(.some 60), (.call true 65 [(.t 59)]), (.some (57, false))⟩, ⟨(.some 61), (.una .not (.t 60)), (.some (57, false))⟩, ⟨(.some 62), (.pick (.t 57) (.c (.lf (.bool true))) (.t 61)), none⟩, ⟨(.some 63), (.mv (.t 62)), none⟩, ⟨(.some 64), (.faddr 2 (.t 6)), (.some (63, false))⟩, ⟨(.some 65), (.load false 1 (.t 64)), (.some (63, false))⟩, ⟨(.some 66), (.call true 79 [(.t 65)]), (.some (63, false))⟩, ⟨(.some 67), (.una .not (.t 66)), (.some (63, false))⟩, ⟨(.some 68), (.pick (.t 63) (.c (.lf (.bool true))) (.t 67)), none⟩])
 (.cond (.t 68) (.seq (.reg [⟨(.some 2), (.mv (.c (.lf (.bool false)))), none⟩])
 .ret) .skip))))
 (.reg [⟨(.some 69), (.bin .add (.t 46) (.c (.lf (.int .i64 1)))), none⟩, ⟨(.some 46), (.mv (.t 69)), none⟩])))))))
 (.seq (.reg [⟨(.some 2), (.mv (.c (.lf (.bool true)))), none⟩])
 .ret))))), [(.tmp 2)]⟩
class HasSv (S : Sys) : Prop extends HasEf S, HasTk S where
  f141 : S.fs 141 = some L141
  f70 : S.fs 70 = some L70
  f73 : S.fs 73 = some L73
  f78 : S.fs 78 = some L78
  f65 : S.fs 65 = some L65
  f22 : S.fs 22 = some L22
def L20 : LFn := ⟨1, (.seq (.reg [⟨(.some 1), (.box 46 (.t 0)), none⟩, ⟨(.some 2), (.mv (.c (.lf (.bool false)))), none⟩])
 (.seq (.reg [⟨(.some 3), (.call true 70 [(.t 1)]), none⟩, ⟨(.some 2), (.mv (.t 3)), none⟩])
 .ret)), [(.tmp 2)]⟩
class HasVs (S : Sys) : Prop extends HasSv S where
  f20 : S.fs 20 = some L20
def strOk (v : StrV) : Prop := isCh v.effs ∧ (-2000 ≤ v.tenths ∧ v.tenths ≤ 2000) ∧ panB v.pan = true
def clpOk (n : Int) (c : Eff) : Prop := (0 ≤ c.kind ∧ c.kind ≤ n - 1) ∧ (0 ≤ c.len ∧ c.len ≤ 256) ∧ c.nums.length ≤ 256
def sesOk (cs : List Eff) (vs : List StrV) : Prop := (1 ≤ vs.length ∧ vs.length ≤ 8) ∧ cs.length ≤ 12 ∧ (∀ v ∈ vs, strOk v) ∧ ∀ c ∈ cs, clpOk vs.length c
noncomputable instance (cs : List Eff) (vs : List StrV) : Decidable (sesOk cs vs) := Classical.propDecidable _
theorem areTrk_one {x : Int} {y : Nat} {m s : Bool} {l : Lf} : areTrk ([((⟨[], x, y, m, s⟩ : Trk), l)].map (·.1)) ↔ (-2000 ≤ x ∧ x ≤ 2000) ∧ panB y = true :=
  ⟨fun h => (h.2 ⟨[], x, y, m, s⟩ (by simp)).2, fun h => ⟨by simp, fun t ht => by simp at ht; subst ht; exact ⟨by simp, h⟩⟩⟩
theorem ses_str {cs : List Eff} {ss : List (Str × Lf)} {i : Nat} (hi : i < ss.length) (h1 : ¬ strOk ss[i].1.val) : ¬ sesOk cs (valS ss) := fun h => h1 (h.2.2.1 _ (List.mem_map.2 ⟨ss[i], List.getElem_mem hi, rfl⟩))
theorem ses_clp {cs : List (Eff × Lf)} {ss : List (Str × Lf)} {i : Nat} (hi : i < cs.length) (h1 : ¬ clpOk ss.length cs[i].1) : ¬ sesOk (cs.map (·.1)) (valS ss) := fun h => h1 (by have := h.2.2.2 cs[i].1 (List.mem_map.2 ⟨cs[i], List.getElem_mem hi, rfl⟩); rwa [valS_len] at this)
theorem ses_all {cs : List (Eff × Lf)} {ss : List (Str × Lf)} (h1 : 1 ≤ ss.length ∧ ss.length ≤ 8) (h2 : cs.length ≤ 12) (h3 : upto (fun s : Str => strOk s.val) ss ss.length) (h4 : upto (clpOk ss.length) cs cs.length) : sesOk (cs.map (·.1)) (valS ss) :=
  ⟨by rw [valS_len]; exact h1, by simpa using h2, fun v hv => by
    obtain ⟨p, hp, rfl⟩ := List.mem_map.1 hv
    exact h3.all _ (List.mem_map.2 ⟨p, hp, rfl⟩), by rw [valS_len]; exact h4.all⟩
section
variable {S : Sys} {lim : Nat} {h : Hp} {K : CV → Hp → Prop} {l l2 : Lf} {cs : List (Eff × Lf)} {ss : List (Str × Lf)}
section
variable [HasSv S]
@[simp] theorem c_areNodes {x : Int} : CallT S true 73 [.lf (.int .i64 x)] h lim K = K (.lf (.bool (decide (1 ≤ x ∧ x ≤ 8)))) h := by
  refine CallT_pure (F := L73) (HasSv.f73) rfl (by first | rfl | (split <;> rfl) | simp) ?_; unfold L73; dsimp only []
  repeat' (first | (simp (disch := first | omega | assumption | (simp only [List.length_set]; omega) | (simp [*] <;> fail) | assumption) [-Bool.decide_and, -Bool.decide_or, -Bool.not_and, -Bool.not_or, toNat_pred, toNat_succ, wrap64, wr_new, wr_new0, ok_if, ok_ifn, iadV_sl, makeV_int, decT, decF, over_at, *]) | (with_reducible refine Gd_split (fun hc => ?_) (fun hc => ?_) <;> (have hc2 := hc; try simp at hc2)) | (with_reducible refine Br_split (fun hc => ?_) (fun hc => ?_) <;> (have hc2 := hc; try simp at hc2)) | (with_reducible refine GdT_split (fun hc => ?_) (fun hc => ?_) <;> (have hc2 := hc; try simp at hc2)) | (with_reducible refine WT_alt ?_ ?_) | omega)
@[simp] theorem c_isCount {x : Int} : CallT S true 65 [.lf (.int .i64 x)] h lim K = K (.lf (.bool (decide (0 ≤ x ∧ x ≤ 256)))) h := by
  refine CallT_pure (F := L65) (HasSv.f65) rfl (by first | rfl | (split <;> rfl) | simp) ?_; unfold L65; dsimp only []
  repeat' (first | (simp (disch := first | omega | assumption | (simp only [List.length_set]; omega) | (simp [*] <;> fail) | assumption) [-Bool.decide_and, -Bool.decide_or, -Bool.not_and, -Bool.not_or, toNat_pred, toNat_succ, wrap64, wr_new, wr_new0, ok_if, ok_ifn, iadV_sl, makeV_int, decT, decF, over_at, *]) | (with_reducible refine Gd_split (fun hc => ?_) (fun hc => ?_) <;> (have hc2 := hc; try simp at hc2)) | (with_reducible refine Br_split (fun hc => ?_) (fun hc => ?_) <;> (have hc2 := hc; try simp at hc2)) | (with_reducible refine GdT_split (fun hc => ?_) (fun hc => ?_) <;> (have hc2 := hc; try simp at hc2)) | (with_reducible refine WT_alt ?_ ?_) | omega)
theorem c_isIndex {x n : Int} (hn : 0 ≤ n ∧ n ≤ 140737488355328) : CallT S true 78 [.lf (.int .i64 x), .lf (.int .i64 n)] h lim K = K (.lf (.bool (decide (0 ≤ x ∧ x ≤ n - 1)))) h := by
  refine CallT_pure (F := L78) (HasSv.f78) rfl (by first | rfl | (split <;> rfl) | simp) ?_; unfold L78; dsimp only []
  repeat' (first | (simp (disch := first | omega | assumption | (simp only [List.length_set]; omega) | (simp [*] <;> fail) | assumption) [-Bool.decide_and, -Bool.decide_or, -Bool.not_and, -Bool.not_or, toNat_pred, toNat_succ, wrap64, wr_new, wr_new0, ok_if, ok_ifn, iadV_sl, makeV_int, decT, decF, over_at, *]) | (with_reducible refine Gd_split (fun hc => ?_) (fun hc => ?_) <;> (have hc2 := hc; try simp at hc2)) | (with_reducible refine Br_split (fun hc => ?_) (fun hc => ?_) <;> (have hc2 := hc; try simp at hc2)) | (with_reducible refine GdT_split (fun hc => ?_) (fun hc => ?_) <;> (have hc2 := hc; try simp at hc2)) | (with_reducible refine WT_alt ?_ ?_) | omega)
theorem c_l09Strip {id off : Nat} {x : Int} {y : Nat} {m s : Bool} {l' : Lf} (h1 : ∀ t : Hp, rdCells (h ++ t) id off 5 = some [l', .int .i64 x, .flt .f32 y, .bool m, .bool s]) (hl : lim ≤ h.length) (hK : K (.agg [l, .int .i64 x, .flt .f32 y, .bool m, .bool s]) (h ++ [⟨[l, .int .i64 x, .flt .f32 y, .bool m, .bool s], .own 151 1⟩])) : CallT S false 141 [.lf (.ptr id off), .lf l] h lim K := by
  have r1 : ∀ t : Hp, rdCells (h ++ t) id (off + 1) 1 = some [.int .i64 x] := fun t => by have := rd_sub (h1 t) (j := 1) (m := 1) (by omega); simpa using this
  have r2 : ∀ t : Hp, rdCells (h ++ t) id (off + 2) 1 = some [.flt .f32 y] := fun t => by have := rd_sub (h1 t) (j := 2) (m := 1) (by omega); simpa using this
  have r3 : ∀ t : Hp, rdCells (h ++ t) id (off + 3) 1 = some [.bool m] := fun t => by have := rd_sub (h1 t) (j := 3) (m := 1) (by omega); simpa using this
  have r4 : ∀ t : Hp, rdCells (h ++ t) id (off + 4) 1 = some [.bool s] := fun t => by have := rd_sub (h1 t) (j := 4) (m := 1) (by omega); simpa using this
  clear h1
  refine CallT_of_body (F := L141) (HasSv.f141) rfl ?_; unfold L141; dsimp only []
  repeat' (first | (simp (disch := first | omega | assumption | (simp only [List.length_set]; omega) | (simp [*] <;> fail) | assumption) [-Bool.decide_and, -Bool.decide_or, -Bool.not_and, -Bool.not_or, toNat_pred, toNat_succ, wrap64, wr_new, wr_new0, ok_if, ok_ifn, iadV_sl, makeV_int, decT, decF, over_at, *, leavesAll, fillL]) | (with_reducible refine Gd_split (fun hc => ?_) (fun hc => ?_) <;> (have hc2 := hc; try simp at hc2)) | (with_reducible refine Br_split (fun hc => ?_) (fun hc => ?_) <;> (have hc2 := hc; try simp at hc2)) | (with_reducible refine GdT_split (fun hc => ?_) (fun hc => ?_) <;> (have hc2 := hc; try simp at hc2)) | (with_reducible refine WT_alt ?_ ?_) | omega)
set_option maxHeartbeats 4000000 in
theorem c_l09Is {id off : Nat} (hr0 : rdCells h id off 1 = some [l]) (hr1 : rdCells h id (off + 1) 1 = some [l2]) (hC : Arr h l 3 (cs.map Eff.cells)) (hCI : In h Eff.nums cs) (hS : Arr h l2 5 (ss.map Str.cells)) (hSI : InS h ss) : CallT S true 70 [.lf (.ptr id off)] h lim K = K (.lf (.bool (decide (sesOk (cs.map (·.1)) (valS ss))))) h := by
  have hbC := hC.bound
  have hbS := hS.bound
  by_cases n1 : 1 ≤ ss.length ∧ ss.length ≤ 8
  · have n1' : (1 : Int) ≤ ss.length ∧ (ss.length : Int) ≤ 8 := by omega
    by_cases n2 : cs.length ≤ 12
    · have n2' : ¬ (12 : Int) < cs.length := by omega
      refine CallT_pure (F := L70) (HasSv.f70) rfl (by first | rfl | (split <;> rfl) | simp) ?_; unfold L70; dsimp only []
      repeat' (first | (simp (disch := first | omega | assumption | (simp only [List.length_set]; omega) | (simp [*] <;> fail) | assumption) [-Bool.decide_and, -Bool.decide_or, -Bool.not_and, -Bool.not_or, toNat_pred, toNat_succ, wrap64, wr_new, wr_new0, ok_if, ok_ifn, iadV_sl, makeV_int, decT, decF, over_at, *, hC.len, hC.at_, hC.at_', hC.rd, hC.rdIn, hC.rdIn0, hC.rdA, hC.rdInA, hC.rdIn0A, hS.len, hS.at_, hS.at_', hS.rd, hS.rdIn, hS.rdIn0, hS.rdA, hS.rdInA, hS.rdIn0A]) | (with_reducible refine Gd_split (fun hc => ?_) (fun hc => ?_) <;> (have hc2 := hc; try simp at hc2)) | (with_reducible refine Br_split (fun hc => ?_) (fun hc => ?_) <;> (have hc2 := hc; try simp at hc2)) | (with_reducible refine GdT_split (fun hc => ?_) (fun hc => ?_) <;> (have hc2 := hc; try simp at hc2)) | (with_reducible refine WT_alt ?_ ?_) | omega)
      refine WL_forM 72057593769492532 (by decide +kernel) (ss.length) (fun i b g => i ≤ ss.length ∧ b 28 = .lf (.int .i64 i) ∧ Kept h g ∧ upto (fun s : Str => strOk s.val) ss i) (fun _ _ _ hi => hi.1) ⟨by omega, by simp, Kept.refl _, .zero⟩ ?_
      rintro i b g ⟨hi, e6, hk, hu⟩
      have hS1 := hS.kept hk
      have hSI1 := hSI.kept hk
      have q0 := hk.rd hr0
      have q1 := hk.rd hr1
      have q0A := fun t => (hk.trans (Kept.app g t)).rd hr0
      have q1A := fun t => (hk.trans (Kept.app g t)).rd hr1
      have hg := hk.1
      by_cases hlt : i < ss.length
      · obtain ⟨hI1, hI2⟩ := hSI1 i hlt
        have hch := fun t K lim => c_l08Is (S := S) (h := g ++ t) (lim := lim) (K := K) hI1.app (hI2.kept (Kept.app _ _))
        have htr := fun K lim => c_l07Tracks (S := S) (lim := lim) (K := K) (h := g ++ [⟨[], .own 22 1⟩, ⟨[.sl g.length 0 0 1, .int .i64 ss[i].1.tenths, .flt .f32 ss[i].1.pan, .bool ss[i].1.mute, .bool ss[i].1.solo], .own 151 1⟩, ⟨[.sl g.length 0 0 1, .int .i64 ss[i].1.tenths, .flt .f32 ss[i].1.pan, .bool ss[i].1.mute, .bool ss[i].1.solo], .own 151 1⟩, ⟨[.sl g.length 0 0 1, .int .i64 ss[i].1.tenths, .flt .f32 ss[i].1.pan, .bool ss[i].1.mute, .bool ss[i].1.solo], .own 151 5⟩]) (l := .sl (g.length + 3) 0 1 5) (ps := [((⟨[], ss[i].1.tenths, ss[i].1.pan, ss[i].1.mute, ss[i].1.solo⟩ : Trk), .sl g.length 0 0 1)])
          ((Sl.arr (ty := 151) (rows := [[.sl g.length 0 0 1, .int .i64 ss[i].1.tenths, .flt .f32 ss[i].1.pan, .bool ss[i].1.mute, .bool ss[i].1.solo]]) ⟨by rw [List.getElem?_append_right (by omega)]; simp, fun j r hj => by rcases j with _ | j <;> simp at hj; subst hj; rfl⟩ (by simp)))
          (.of fun p hp => by simp at hp; subst hp; have := fun t => (New.litN (h := h) (ty := 22) (sz := 1) hk).arr.app (t := t); simp only [List.append_assoc, List.cons_append, List.nil_append] at this; exact this _)
        have e1 : decide (areTrk ([((⟨[], ss[i].1.tenths, ss[i].1.pan, ss[i].1.mute, ss[i].1.solo⟩ : Trk), (.sl g.length 0 0 1 : Lf))].map (·.1))) = decide ((-2000 ≤ ss[i].1.tenths ∧ ss[i].1.tenths ≤ 2000) ∧ panB ss[i].1.pan = true) := decide_eq_decide.2 areTrk_one
        rw [e1] at htr
        clear e1
        by_cases k1 : isCh (ss[i].1.ps.map (·.1))
        · have d1 := decide_eq_true k1
          by_cases k2 : (-2000 ≤ ss[i].1.tenths ∧ ss[i].1.tenths ≤ 2000) ∧ panB ss[i].1.pan = true
          · have hok := hu.succ hlt (show strOk ss[i].1.val from ⟨k1, k2⟩)
            rw [decide_eq_true k2] at htr
            rw [d1] at hch
            clear k1 k2 hu
            repeat' (first | (simp (disch := first | omega | assumption | (simp only [List.length_set]; omega) | (simp [*] <;> fail) | assumption) [-Bool.decide_and, -Bool.decide_or, -Bool.not_and, -Bool.not_or, toNat_pred, toNat_succ, wrap64, wr_new, wr_new0, ok_if, ok_ifn, iadV_sl, makeV_int, decT, decF, over_at, *, hS1.len, hS1.at_, hS1.at_', hS1.rd, hS1.rdIn, hS1.rdIn0, hS1.rdA, hS1.rdInA, hS1.rdIn0A, Str.cells, leavesAll, fillL]) | (with_reducible refine Gd_split (fun hc => ?_) (fun hc => ?_) <;> (have hc2 := hc; try simp at hc2)) | (with_reducible refine Br_split (fun hc => ?_) (fun hc => ?_) <;> (have hc2 := hc; try simp at hc2)) | (with_reducible refine GdT_split (fun hc => ?_) (fun hc => ?_) <;> (have hc2 := hc; try simp at hc2)) | (with_reducible refine WT_alt ?_ ?_) | omega)
            refine c_l09Strip (l' := ss[i].2) (x := ss[i].1.tenths) (y := ss[i].1.pan) (m := ss[i].1.mute) (s := ss[i].1.solo) (fun t => by rw [List.append_assoc]; exact hS1.rdA hlt) (by simp; omega) ?_
            repeat' (first | (simp (disch := first | omega | assumption | (simp only [List.length_set]; omega) | (simp [*] <;> fail) | assumption) [-Bool.decide_and, -Bool.decide_or, -Bool.not_and, -Bool.not_or, toNat_pred, toNat_succ, wrap64, wr_new, wr_new0, ok_if, ok_ifn, iadV_sl, makeV_int, decT, decF, over_at, *, hS1.len, hS1.at_, hS1.at_', hS1.rd, hS1.rdIn, hS1.rdIn0, hS1.rdA, hS1.rdInA, hS1.rdIn0A, Str.cells, leavesAll, fillL]) | (with_reducible refine Gd_split (fun hc => ?_) (fun hc => ?_) <;> (have hc2 := hc; try simp at hc2)) | (with_reducible refine Br_split (fun hc => ?_) (fun hc => ?_) <;> (have hc2 := hc; try simp at hc2)) | (with_reducible refine GdT_split (fun hc => ?_) (fun hc => ?_) <;> (have hc2 := hc; try simp at hc2)) | (with_reducible refine WT_alt ?_ ?_) | omega)
          · have hno := ses_str (cs := cs.map (·.1)) hlt (fun q => k2 q.2)
            rw [decide_eq_false k2] at htr
            rw [d1] at hch
            have hnd := decide_eq_false hno
            clear k1 k2 hno
            repeat' (first | (simp (disch := first | omega | assumption | (simp only [List.length_set]; omega) | (simp [*] <;> fail) | assumption) [-Bool.decide_and, -Bool.decide_or, -Bool.not_and, -Bool.not_or, toNat_pred, toNat_succ, wrap64, wr_new, wr_new0, ok_if, ok_ifn, iadV_sl, makeV_int, decT, decF, over_at, *, hS1.len, hS1.at_, hS1.at_', hS1.rd, hS1.rdIn, hS1.rdIn0, hS1.rdA, hS1.rdInA, hS1.rdIn0A, Str.cells, leavesAll, fillL]) | (with_reducible refine Gd_split (fun hc => ?_) (fun hc => ?_) <;> (have hc2 := hc; try simp at hc2)) | (with_reducible refine Br_split (fun hc => ?_) (fun hc => ?_) <;> (have hc2 := hc; try simp at hc2)) | (with_reducible refine GdT_split (fun hc => ?_) (fun hc => ?_) <;> (have hc2 := hc; try simp at hc2)) | (with_reducible refine WT_alt ?_ ?_) | omega)
            refine c_l09Strip (l' := ss[i].2) (x := ss[i].1.tenths) (y := ss[i].1.pan) (m := ss[i].1.mute) (s := ss[i].1.solo) (fun t => by rw [List.append_assoc]; exact hS1.rdA hlt) (by simp; omega) ?_
            repeat' (first | (simp (disch := first | omega | assumption | (simp only [List.length_set]; omega) | (simp [*] <;> fail) | assumption) [-Bool.decide_and, -Bool.decide_or, -Bool.not_and, -Bool.not_or, toNat_pred, toNat_succ, wrap64, wr_new, wr_new0, ok_if, ok_ifn, iadV_sl, makeV_int, decT, decF, over_at, *, hS1.len, hS1.at_, hS1.at_', hS1.rd, hS1.rdIn, hS1.rdIn0, hS1.rdA, hS1.rdInA, hS1.rdIn0A, Str.cells, leavesAll, fillL]) | (with_reducible refine Gd_split (fun hc => ?_) (fun hc => ?_) <;> (have hc2 := hc; try simp at hc2)) | (with_reducible refine Br_split (fun hc => ?_) (fun hc => ?_) <;> (have hc2 := hc; try simp at hc2)) | (with_reducible refine GdT_split (fun hc => ?_) (fun hc => ?_) <;> (have hc2 := hc; try simp at hc2)) | (with_reducible refine WT_alt ?_ ?_) | omega)
        · have hno := ses_str (cs := cs.map (·.1)) hlt (fun q => k1 q.1)
          rw [decide_eq_false k1] at hch
          have hnd := decide_eq_false hno
          clear k1 hno
          repeat' (first | (simp (disch := first | omega | assumption | (simp only [List.length_set]; omega) | (simp [*] <;> fail) | assumption) [-Bool.decide_and, -Bool.decide_or, -Bool.not_and, -Bool.not_or, toNat_pred, toNat_succ, wrap64, wr_new, wr_new0, ok_if, ok_ifn, iadV_sl, makeV_int, decT, decF, over_at, *, hS1.len, hS1.at_, hS1.at_', hS1.rd, hS1.rdIn, hS1.rdIn0, hS1.rdA, hS1.rdInA, hS1.rdIn0A, Str.cells, leavesAll, fillL]) | (with_reducible refine Gd_split (fun hc => ?_) (fun hc => ?_) <;> (have hc2 := hc; try simp at hc2)) | (with_reducible refine Br_split (fun hc => ?_) (fun hc => ?_) <;> (have hc2 := hc; try simp at hc2)) | (with_reducible refine GdT_split (fun hc => ?_) (fun hc => ?_) <;> (have hc2 := hc; try simp at hc2)) | (with_reducible refine WT_alt ?_ ?_) | omega)
          refine c_l09Strip (l' := ss[i].2) (x := ss[i].1.tenths) (y := ss[i].1.pan) (m := ss[i].1.mute) (s := ss[i].1.solo) (fun t => by rw [List.append_assoc]; exact hS1.rdA hlt) (by simp; omega) ?_
          repeat' (first | (simp (disch := first | omega | assumption | (simp only [List.length_set]; omega) | (simp [*] <;> fail) | assumption) [-Bool.decide_and, -Bool.decide_or, -Bool.not_and, -Bool.not_or, toNat_pred, toNat_succ, wrap64, wr_new, wr_new0, ok_if, ok_ifn, iadV_sl, makeV_int, decT, decF, over_at, *, hS1.len, hS1.at_, hS1.at_', hS1.rd, hS1.rdIn, hS1.rdIn0, hS1.rdA, hS1.rdInA, hS1.rdIn0A, Str.cells, leavesAll, fillL]) | (with_reducible refine Gd_split (fun hc => ?_) (fun hc => ?_) <;> (have hc2 := hc; try simp at hc2)) | (with_reducible refine Br_split (fun hc => ?_) (fun hc => ?_) <;> (have hc2 := hc; try simp at hc2)) | (with_reducible refine GdT_split (fun hc => ?_) (fun hc => ?_) <;> (have hc2 := hc; try simp at hc2)) | (with_reducible refine WT_alt ?_ ?_) | omega)
      · have : i = ss.length := by omega
        subst this
        clear hi hlt hSI1 hS1
        have hC0 := hC.kept hk
        repeat' (first | (simp (disch := first | omega | assumption | (simp only [List.length_set]; omega) | (simp [*] <;> fail) | assumption) [-Bool.decide_and, -Bool.decide_or, -Bool.not_and, -Bool.not_or, toNat_pred, toNat_succ, wrap64, wr_new, wr_new0, ok_if, ok_ifn, iadV_sl, makeV_int, decT, decF, over_at, *, hC0.len]) | (with_reducible refine Gd_split (fun hc => ?_) (fun hc => ?_) <;> (have hc2 := hc; try simp at hc2)) | (with_reducible refine Br_split (fun hc => ?_) (fun hc => ?_) <;> (have hc2 := hc; try simp at hc2)) | (with_reducible refine GdT_split (fun hc => ?_) (fun hc => ?_) <;> (have hc2 := hc; try simp at hc2)) | (with_reducible refine WT_alt ?_ ?_) | omega)
        refine WL_forM 2535301200454152959984192716868 (by decide +kernel) (cs.length) (fun i b g => i ≤ cs.length ∧ b 61 = .lf (.int .i64 i) ∧ Kept h g ∧ upto (clpOk ss.length) cs i) (fun _ _ _ hi => hi.1) ⟨by omega, by simp, hk, .zero⟩ ?_
        rintro i b g ⟨hi, e6, hk, hv⟩
        have hC1 := hC.kept hk
        have hCI1 := hCI.kept hk
        have q0 := hk.rd hr0
        have hg := hk.1
        by_cases hlt : i < cs.length
        · have hI1 := hCI1 i hlt
          by_cases k1 : 0 ≤ cs[i].1.kind ∧ cs[i].1.kind ≤ ss.length - 1
          · by_cases k2 : 0 ≤ cs[i].1.len ∧ cs[i].1.len ≤ 256
            · by_cases k3 : cs[i].1.nums.length ≤ 256
              · have k3' : (cs[i].1.nums.length : Int) ≤ 256 := by omega
                have hok := hv.succ hlt (show clpOk ss.length cs[i].1 from ⟨k1, k2, k3⟩)
                repeat' (first | (simp (disch := first | omega | assumption | (simp only [List.length_set]; omega) | (simp [*] <;> fail) | assumption) [-Bool.decide_and, -Bool.decide_or, -Bool.not_and, -Bool.not_or, toNat_pred, toNat_succ, wrap64, wr_new, wr_new0, ok_if, ok_ifn, iadV_sl, makeV_int, decT, decF, over_at, *, hC1.len, hC1.at_, hC1.at_', hC1.rd, hC1.rdIn, hC1.rdIn0, hC1.rdA, hC1.rdInA, hC1.rdIn0A, Eff.cells, c_l01Few hI1]) | (with_reducible refine Gd_split (fun hc => ?_) (fun hc => ?_) <;> (have hc2 := hc; try simp at hc2)) | (with_reducible refine Br_split (fun hc => ?_) (fun hc => ?_) <;> (have hc2 := hc; try simp at hc2)) | (with_reducible refine GdT_split (fun hc => ?_) (fun hc => ?_) <;> (have hc2 := hc; try simp at hc2)) | (with_reducible refine WT_alt ?_ ?_) | omega)
              · have k3' : ¬ (cs[i].1.nums.length : Int) ≤ 256 := by omega
                have hno := decide_eq_false (ses_clp (ss := ss) hlt (fun q => k3 q.2.2))
                repeat' (first | (simp (disch := first | omega | assumption | (simp only [List.length_set]; omega) | (simp [*] <;> fail) | assumption) [-Bool.decide_and, -Bool.decide_or, -Bool.not_and, -Bool.not_or, toNat_pred, toNat_succ, wrap64, wr_new, wr_new0, ok_if, ok_ifn, iadV_sl, makeV_int, decT, decF, over_at, *, hC1.len, hC1.at_, hC1.at_', hC1.rd, hC1.rdIn, hC1.rdIn0, hC1.rdA, hC1.rdInA, hC1.rdIn0A, Eff.cells, c_l01Few hI1]) | (with_reducible refine Gd_split (fun hc => ?_) (fun hc => ?_) <;> (have hc2 := hc; try simp at hc2)) | (with_reducible refine Br_split (fun hc => ?_) (fun hc => ?_) <;> (have hc2 := hc; try simp at hc2)) | (with_reducible refine GdT_split (fun hc => ?_) (fun hc => ?_) <;> (have hc2 := hc; try simp at hc2)) | (with_reducible refine WT_alt ?_ ?_) | omega)
            · have hno := decide_eq_false (ses_clp (ss := ss) hlt (fun q => k2 q.2.1))
              repeat' (first | (simp (disch := first | omega | assumption | (simp only [List.length_set]; omega) | (simp [*] <;> fail) | assumption) [-Bool.decide_and, -Bool.decide_or, -Bool.not_and, -Bool.not_or, toNat_pred, toNat_succ, wrap64, wr_new, wr_new0, ok_if, ok_ifn, iadV_sl, makeV_int, decT, decF, over_at, *, hC1.len, hC1.at_, hC1.at_', hC1.rd, hC1.rdIn, hC1.rdIn0, hC1.rdA, hC1.rdInA, hC1.rdIn0A, Eff.cells, c_l01Few hI1]) | (with_reducible refine Gd_split (fun hc => ?_) (fun hc => ?_) <;> (have hc2 := hc; try simp at hc2)) | (with_reducible refine Br_split (fun hc => ?_) (fun hc => ?_) <;> (have hc2 := hc; try simp at hc2)) | (with_reducible refine GdT_split (fun hc => ?_) (fun hc => ?_) <;> (have hc2 := hc; try simp at hc2)) | (with_reducible refine WT_alt ?_ ?_) | omega)
          · have hno := decide_eq_false (ses_clp (ss := ss) hlt (fun q => k1 q.1))
            repeat' (first | (simp (disch := first | omega | assumption | (simp only [List.length_set]; omega) | (simp [*] <;> fail) | assumption) [-Bool.decide_and, -Bool.decide_or, -Bool.not_and, -Bool.not_or, toNat_pred, toNat_succ, wrap64, wr_new, wr_new0, ok_if, ok_ifn, iadV_sl, makeV_int, decT, decF, over_at, *, hC1.len, hC1.at_, hC1.at_', hC1.rd, hC1.rdIn, hC1.rdIn0, hC1.rdA, hC1.rdInA, hC1.rdIn0A, Eff.cells, c_l01Few hI1]) | (with_reducible refine Gd_split (fun hc => ?_) (fun hc => ?_) <;> (have hc2 := hc; try simp at hc2)) | (with_reducible refine Br_split (fun hc => ?_) (fun hc => ?_) <;> (have hc2 := hc; try simp at hc2)) | (with_reducible refine GdT_split (fun hc => ?_) (fun hc => ?_) <;> (have hc2 := hc; try simp at hc2)) | (with_reducible refine WT_alt ?_ ?_) | omega)
        · have : i = cs.length := by omega
          subst this
          have hyes := decide_eq_true (ses_all n1 n2 hu hv)
          repeat' (first | (simp (disch := first | omega | assumption | (simp only [List.length_set]; omega) | (simp [*] <;> fail) | assumption) [-Bool.decide_and, -Bool.decide_or, -Bool.not_and, -Bool.not_or, toNat_pred, toNat_succ, wrap64, wr_new, wr_new0, ok_if, ok_ifn, iadV_sl, makeV_int, decT, decF, over_at, *, hC1.len]) | (with_reducible refine Gd_split (fun hc => ?_) (fun hc => ?_) <;> (have hc2 := hc; try simp at hc2)) | (with_reducible refine Br_split (fun hc => ?_) (fun hc => ?_) <;> (have hc2 := hc; try simp at hc2)) | (with_reducible refine GdT_split (fun hc => ?_) (fun hc => ?_) <;> (have hc2 := hc; try simp at hc2)) | (with_reducible refine WT_alt ?_ ?_) | omega)
    · have n2' : (12 : Int) < cs.length := by omega
      have hno : decide (sesOk (cs.map (·.1)) (valS ss)) = false := decide_eq_false (fun q => n2 (by simpa using q.2.1))
      refine CallT_pure (F := L70) (HasSv.f70) rfl (by first | rfl | (split <;> rfl) | simp) ?_; unfold L70; dsimp only []
      repeat' (first | (simp (disch := first | omega | assumption | (simp only [List.length_set]; omega) | (simp [*] <;> fail) | assumption) [-Bool.decide_and, -Bool.decide_or, -Bool.not_and, -Bool.not_or, toNat_pred, toNat_succ, wrap64, wr_new, wr_new0, ok_if, ok_ifn, iadV_sl, makeV_int, decT, decF, over_at, *, hC.len, hC.at_, hC.at_', hC.rd, hC.rdIn, hC.rdIn0, hC.rdA, hC.rdInA, hC.rdIn0A, hS.len, hS.at_, hS.at_', hS.rd, hS.rdIn, hS.rdIn0, hS.rdA, hS.rdInA, hS.rdIn0A]) | (with_reducible refine Gd_split (fun hc => ?_) (fun hc => ?_) <;> (have hc2 := hc; try simp at hc2)) | (with_reducible refine Br_split (fun hc => ?_) (fun hc => ?_) <;> (have hc2 := hc; try simp at hc2)) | (with_reducible refine GdT_split (fun hc => ?_) (fun hc => ?_) <;> (have hc2 := hc; try simp at hc2)) | (with_reducible refine WT_alt ?_ ?_) | omega)
  · have n1' : ¬ ((1 : Int) ≤ ss.length ∧ (ss.length : Int) ≤ 8) := by omega
    have hno : decide (sesOk (cs.map (·.1)) (valS ss)) = false := decide_eq_false (fun q => n1 (by have := q.1; rwa [valS_len] at this))
    refine CallT_pure (F := L70) (HasSv.f70) rfl (by first | rfl | (split <;> rfl) | simp) ?_; unfold L70; dsimp only []
    repeat' (first | (simp (disch := first | omega | assumption | (simp only [List.length_set]; omega) | (simp [*] <;> fail) | assumption) [-Bool.decide_and, -Bool.decide_or, -Bool.not_and, -Bool.not_or, toNat_pred, toNat_succ, wrap64, wr_new, wr_new0, ok_if, ok_ifn, iadV_sl, makeV_int, decT, decF, over_at, *, hC.len, hC.at_, hC.at_', hC.rd, hC.rdIn, hC.rdIn0, hC.rdA, hC.rdInA, hC.rdIn0A, hS.len, hS.at_, hS.at_', hS.rd, hS.rdIn, hS.rdIn0, hS.rdA, hS.rdInA, hS.rdIn0A]) | (with_reducible refine Gd_split (fun hc => ?_) (fun hc => ?_) <;> (have hc2 := hc; try simp at hc2)) | (with_reducible refine Br_split (fun hc => ?_) (fun hc => ?_) <;> (have hc2 := hc; try simp at hc2)) | (with_reducible refine GdT_split (fun hc => ?_) (fun hc => ?_) <;> (have hc2 := hc; try simp at hc2)) | (with_reducible refine WT_alt ?_ ?_) | omega)
theorem box_rd {ty : Nat} {t : Hp} : rdCells (h ++ ⟨[l, l2], .own ty 1⟩ :: t) h.length 0 1 = some [l] ∧ rdCells (h ++ ⟨[l, l2], .own ty 1⟩ :: t) h.length 1 1 = some [l2] := by
  constructor
  · exact Cel.new.rd (by simp)
  · exact Cel.new.rd (by simp)
set_option maxHeartbeats 4000000 in
theorem c_implValidSession (hC : Arr h l 3 (cs.map Eff.cells)) (hCI : In h Eff.nums cs) (hS : Arr h l2 5 (ss.map Str.cells)) (hSI : InS h ss) : CallT S true 22 [.agg [l, l2]] h lim K = K (.lf (.bool (decide (sesOk (cs.map (·.1)) (valS ss))))) h := by
  have hbC := hC.bound
  have hbS := hS.bound
  obtain ⟨hr0, hr1⟩ := box_rd (h := h) (l := l) (l2 := l2) (ty := 46) (t := [])
  have hkb := Kept.app h [⟨[l, l2], .own 46 1⟩]
  by_cases n1 : 1 ≤ ss.length ∧ ss.length ≤ 8
  · have n1' : (1 : Int) ≤ ss.length ∧ (ss.length : Int) ≤ 8 := by omega
    by_cases n2 : cs.length ≤ 12
    · have n2' : ¬ (12 : Int) < cs.length := by omega
      refine CallT_pure (F := L22) (HasSv.f22) rfl (by first | rfl | (split <;> rfl) | simp) ?_; unfold L22; dsimp only []
      repeat' (first | (simp (disch := first | omega | assumption | (simp only [List.length_set]; omega) | (simp [*] <;> fail) | assumption) [-Bool.decide_and, -Bool.decide_or, -Bool.not_and, -Bool.not_or, toNat_pred, toNat_succ, wrap64, wr_new, wr_new0, ok_if, ok_ifn, iadV_sl, makeV_int, decT, decF, over_at, *, hC.len, hC.at_, hC.at_', hC.rd, hC.rdIn, hC.rdIn0, hC.rdA, hC.rdInA, hC.rdIn0A, hS.len, hS.at_, hS.at_', hS.rd, hS.rdIn, hS.rdIn0, hS.rdA, hS.rdInA, hS.rdIn0A]) | (with_reducible refine Gd_split (fun hc => ?_) (fun hc => ?_) <;> (have hc2 := hc; try simp at hc2)) | (with_reducible refine Br_split (fun hc => ?_) (fun hc => ?_) <;> (have hc2 := hc; try simp at hc2)) | (with_reducible refine GdT_split (fun hc => ?_) (fun hc => ?_) <;> (have hc2 := hc; try simp at hc2)) | (with_reducible refine WT_alt ?_ ?_) | omega)
      refine WL_forM 8796088827924 (by decide +kernel) (ss.length) (fun i b g => i ≤ ss.length ∧ b 22 = .lf (.int .i64 i) ∧ Kept (h ++ [⟨[l, l2], .own 46 1⟩]) g ∧ upto (fun s : Str => strOk s.val) ss i) (fun _ _ _ hi => hi.1) ⟨by omega, by simp, Kept.refl _, .zero⟩ ?_
      rintro i b g ⟨hi, e6, hkg, hu⟩
      have hk := hkb.trans hkg
      have hS1 := hS.kept hk
      have hSI1 := hSI.kept hk
      have q0 := hkg.rd hr0
      have q1 := hkg.rd hr1
      have hg := hk.1
      by_cases hlt : i < ss.length
      · obtain ⟨hI1, hI2⟩ := hSI1 i hlt
        have hch := fun t K lim => c_implValidChain (S := S) (h := g ++ t) (lim := lim) (K := K) hI1.app (hI2.kept (Kept.app _ _))
        by_cases k1 : isCh (ss[i].1.ps.map (·.1))
        · have d1 := decide_eq_true k1
          rw [d1] at hch
          by_cases k2 : -2000 ≤ ss[i].1.tenths ∧ ss[i].1.tenths ≤ 2000
          · cases k3 : panB ss[i].1.pan
            · have hnd := decide_eq_false (ses_str (cs := cs.map (·.1)) hlt (fun q => by have := q.2.2; unfold Str.val at this; rw [k3] at this; cases this))
              clear k1
              repeat' (first | (simp (disch := first | omega | assumption | (simp only [List.length_set]; omega) | (simp [*] <;> fail) | assumption) [-Bool.decide_and, -Bool.decide_or, -Bool.not_and, -Bool.not_or, toNat_pred, toNat_succ, wrap64, wr_new, wr_new0, ok_if, ok_ifn, iadV_sl, makeV_int, decT, decF, over_at, *, hS1.len, hS1.at_, hS1.at_', hS1.rd, hS1.rdIn, hS1.rdIn0, hS1.rdA, hS1.rdInA, hS1.rdIn0A, Str.cells, leavesAll, fillL]) | (with_reducible refine Gd_split (fun hc => ?_) (fun hc => ?_) <;> (have hc2 := hc; try simp at hc2)) | (with_reducible refine Br_split (fun hc => ?_) (fun hc => ?_) <;> (have hc2 := hc; try simp at hc2)) | (with_reducible refine GdT_split (fun hc => ?_) (fun hc => ?_) <;> (have hc2 := hc; try simp at hc2)) | (with_reducible refine WT_alt ?_ ?_) | omega)
            · have hok := hu.succ hlt (show strOk ss[i].1.val from ⟨k1, k2, k3⟩)
              clear k1 hu
              repeat' (first | (simp (disch := first | omega | assumption | (simp only [List.length_set]; omega) | (simp [*] <;> fail) | assumption) [-Bool.decide_and, -Bool.decide_or, -Bool.not_and, -Bool.not_or, toNat_pred, toNat_succ, wrap64, wr_new, wr_new0, ok_if, ok_ifn, iadV_sl, makeV_int, decT, decF, over_at, *, hS1.len, hS1.at_, hS1.at_', hS1.rd, hS1.rdIn, hS1.rdIn0, hS1.rdA, hS1.rdInA, hS1.rdIn0A, Str.cells, leavesAll, fillL]) | (with_reducible refine Gd_split (fun hc => ?_) (fun hc => ?_) <;> (have hc2 := hc; try simp at hc2)) | (with_reducible refine Br_split (fun hc => ?_) (fun hc => ?_) <;> (have hc2 := hc; try simp at hc2)) | (with_reducible refine GdT_split (fun hc => ?_) (fun hc => ?_) <;> (have hc2 := hc; try simp at hc2)) | (with_reducible refine WT_alt ?_ ?_) | omega)
          · have hnd := decide_eq_false (ses_str (cs := cs.map (·.1)) hlt (fun q => k2 q.2.1))
            clear k1
            repeat' (first | (simp (disch := first | omega | assumption | (simp only [List.length_set]; omega) | (simp [*] <;> fail) | assumption) [-Bool.decide_and, -Bool.decide_or, -Bool.not_and, -Bool.not_or, toNat_pred, toNat_succ, wrap64, wr_new, wr_new0, ok_if, ok_ifn, iadV_sl, makeV_int, decT, decF, over_at, *, hS1.len, hS1.at_, hS1.at_', hS1.rd, hS1.rdIn, hS1.rdIn0, hS1.rdA, hS1.rdInA, hS1.rdIn0A, Str.cells, leavesAll, fillL]) | (with_reducible refine Gd_split (fun hc => ?_) (fun hc => ?_) <;> (have hc2 := hc; try simp at hc2)) | (with_reducible refine Br_split (fun hc => ?_) (fun hc => ?_) <;> (have hc2 := hc; try simp at hc2)) | (with_reducible refine GdT_split (fun hc => ?_) (fun hc => ?_) <;> (have hc2 := hc; try simp at hc2)) | (with_reducible refine WT_alt ?_ ?_) | omega)
        · have hnd := decide_eq_false (ses_str (cs := cs.map (·.1)) hlt (fun q => k1 q.1))
          rw [decide_eq_false k1] at hch
          clear k1
          repeat' (first | (simp (disch := first | omega | assumption | (simp only [List.length_set]; omega) | (simp [*] <;> fail) | assumption) [-Bool.decide_and, -Bool.decide_or, -Bool.not_and, -Bool.not_or, toNat_pred, toNat_succ, wrap64, wr_new, wr_new0, ok_if, ok_ifn, iadV_sl, makeV_int, decT, decF, over_at, *, hS1.len, hS1.at_, hS1.at_', hS1.rd, hS1.rdIn, hS1.rdIn0, hS1.rdA, hS1.rdInA, hS1.rdIn0A, Str.cells, leavesAll, fillL]) | (with_reducible refine Gd_split (fun hc => ?_) (fun hc => ?_) <;> (have hc2 := hc; try simp at hc2)) | (with_reducible refine Br_split (fun hc => ?_) (fun hc => ?_) <;> (have hc2 := hc; try simp at hc2)) | (with_reducible refine GdT_split (fun hc => ?_) (fun hc => ?_) <;> (have hc2 := hc; try simp at hc2)) | (with_reducible refine WT_alt ?_ ?_) | omega)
      · have : i = ss.length := by omega
        subst this
        clear hi hlt hSI1 hS1
        have hC0 := hC.kept hk
        repeat' (first | (simp (disch := first | omega | assumption | (simp only [List.length_set]; omega) | (simp [*] <;> fail) | assumption) [-Bool.decide_and, -Bool.decide_or, -Bool.not_and, -Bool.not_or, toNat_pred, toNat_succ, wrap64, wr_new, wr_new0, ok_if, ok_ifn, iadV_sl, makeV_int, decT, decF, over_at, *, hC0.len]) | (with_reducible refine Gd_split (fun hc => ?_) (fun hc => ?_) <;> (have hc2 := hc; try simp at hc2)) | (with_reducible refine Br_split (fun hc => ?_) (fun hc => ?_) <;> (have hc2 := hc; try simp at hc2)) | (with_reducible refine GdT_split (fun hc => ?_) (fun hc => ?_) <;> (have hc2 := hc; try simp at hc2)) | (with_reducible refine WT_alt ?_ ?_) | omega)
        refine WL_forM 1180591550348667125828 (by decide +kernel) (cs.length) (fun i b g => i ≤ cs.length ∧ b 46 = .lf (.int .i64 i) ∧ Kept (h ++ [⟨[l, l2], .own 46 1⟩]) g ∧ upto (clpOk ss.length) cs i) (fun _ _ _ hi => hi.1) ⟨by omega, by simp, hkg, .zero⟩ ?_
        rintro i b g ⟨hi, e6, hkg, hv⟩
        have hk := hkb.trans hkg
        have hC1 := hC.kept hk
        have hCI1 := hCI.kept hk
        have hS1 := hS.kept hk
        have q1 := hkg.rd hr1
        have q1A := fun t => (hkg.trans (Kept.app g t)).rd hr1
        have hg := hk.1
        have hix := fun h lim K x => c_isIndex (S := S) (h := h) (lim := lim) (K := K) (x := x) (n := (ss.length : Int)) (by omega)
        by_cases hlt : i < cs.length
        · have hI1 := hCI1 i hlt
          by_cases k1 : 0 ≤ cs[i].1.kind ∧ cs[i].1.kind ≤ ss.length - 1
          · by_cases k2 : 0 ≤ cs[i].1.len ∧ cs[i].1.len ≤ 256
            · by_cases k3 : cs[i].1.nums.length ≤ 256
              · have k3' : (cs[i].1.nums.length : Int) ≤ 256 := by omega
                have hok := hv.succ hlt (show clpOk ss.length cs[i].1 from ⟨k1, k2, k3⟩)
                repeat' (first | (simp (disch := first | omega | assumption | (simp only [List.length_set]; omega) | (simp [*] <;> fail) | assumption) [-Bool.decide_and, -Bool.decide_or, -Bool.not_and, -Bool.not_or, toNat_pred, toNat_succ, wrap64, wr_new, wr_new0, ok_if, ok_ifn, iadV_sl, makeV_int, decT, decF, over_at, *, hC1.len, hC1.at_, hC1.at_', hC1.rd, hC1.rdIn, hC1.rdIn0, hC1.rdA, hC1.rdInA, hC1.rdIn0A, Eff.cells, c_areSamples hI1.app, hS1.len, leavesAll, fillL]) | (with_reducible refine Gd_split (fun hc => ?_) (fun hc => ?_) <;> (have hc2 := hc; try simp at hc2)) | (with_reducible refine Br_split (fun hc => ?_) (fun hc => ?_) <;> (have hc2 := hc; try simp at hc2)) | (with_reducible refine GdT_split (fun hc => ?_) (fun hc => ?_) <;> (have hc2 := hc; try simp at hc2)) | (with_reducible refine WT_alt ?_ ?_) | omega)
              · have k3' : ¬ (cs[i].1.nums.length : Int) ≤ 256 := by omega
                have hno := decide_eq_false (ses_clp (ss := ss) hlt (fun q => k3 q.2.2))
                repeat' (first | (simp (disch := first | omega | assumption | (simp only [List.length_set]; omega) | (simp [*] <;> fail) | assumption) [-Bool.decide_and, -Bool.decide_or, -Bool.not_and, -Bool.not_or, toNat_pred, toNat_succ, wrap64, wr_new, wr_new0, ok_if, ok_ifn, iadV_sl, makeV_int, decT, decF, over_at, *, hC1.len, hC1.at_, hC1.at_', hC1.rd, hC1.rdIn, hC1.rdIn0, hC1.rdA, hC1.rdInA, hC1.rdIn0A, Eff.cells, c_areSamples hI1.app, hS1.len, leavesAll, fillL]) | (with_reducible refine Gd_split (fun hc => ?_) (fun hc => ?_) <;> (have hc2 := hc; try simp at hc2)) | (with_reducible refine Br_split (fun hc => ?_) (fun hc => ?_) <;> (have hc2 := hc; try simp at hc2)) | (with_reducible refine GdT_split (fun hc => ?_) (fun hc => ?_) <;> (have hc2 := hc; try simp at hc2)) | (with_reducible refine WT_alt ?_ ?_) | omega)
            · have hno := decide_eq_false (ses_clp (ss := ss) hlt (fun q => k2 q.2.1))
              repeat' (first | (simp (disch := first | omega | assumption | (simp only [List.length_set]; omega) | (simp [*] <;> fail) | assumption) [-Bool.decide_and, -Bool.decide_or, -Bool.not_and, -Bool.not_or, toNat_pred, toNat_succ, wrap64, wr_new, wr_new0, ok_if, ok_ifn, iadV_sl, makeV_int, decT, decF, over_at, *, hC1.len, hC1.at_, hC1.at_', hC1.rd, hC1.rdIn, hC1.rdIn0, hC1.rdA, hC1.rdInA, hC1.rdIn0A, Eff.cells, c_areSamples hI1.app, hS1.len, leavesAll, fillL]) | (with_reducible refine Gd_split (fun hc => ?_) (fun hc => ?_) <;> (have hc2 := hc; try simp at hc2)) | (with_reducible refine Br_split (fun hc => ?_) (fun hc => ?_) <;> (have hc2 := hc; try simp at hc2)) | (with_reducible refine GdT_split (fun hc => ?_) (fun hc => ?_) <;> (have hc2 := hc; try simp at hc2)) | (with_reducible refine WT_alt ?_ ?_) | omega)
          · have hno := decide_eq_false (ses_clp (ss := ss) hlt (fun q => k1 q.1))
            repeat' (first | (simp (disch := first | omega | assumption | (simp only [List.length_set]; omega) | (simp [*] <;> fail) | assumption) [-Bool.decide_and, -Bool.decide_or, -Bool.not_and, -Bool.not_or, toNat_pred, toNat_succ, wrap64, wr_new, wr_new0, ok_if, ok_ifn, iadV_sl, makeV_int, decT, decF, over_at, *, hC1.len, hC1.at_, hC1.at_', hC1.rd, hC1.rdIn, hC1.rdIn0, hC1.rdA, hC1.rdInA, hC1.rdIn0A, Eff.cells, c_areSamples hI1.app, hS1.len, leavesAll, fillL]) | (with_reducible refine Gd_split (fun hc => ?_) (fun hc => ?_) <;> (have hc2 := hc; try simp at hc2)) | (with_reducible refine Br_split (fun hc => ?_) (fun hc => ?_) <;> (have hc2 := hc; try simp at hc2)) | (with_reducible refine GdT_split (fun hc => ?_) (fun hc => ?_) <;> (have hc2 := hc; try simp at hc2)) | (with_reducible refine WT_alt ?_ ?_) | omega)
        · have : i = cs.length := by omega
          subst this
          have hyes := decide_eq_true (ses_all n1 n2 hu hv)
          repeat' (first | (simp (disch := first | omega | assumption | (simp only [List.length_set]; omega) | (simp [*] <;> fail) | assumption) [-Bool.decide_and, -Bool.decide_or, -Bool.not_and, -Bool.not_or, toNat_pred, toNat_succ, wrap64, wr_new, wr_new0, ok_if, ok_ifn, iadV_sl, makeV_int, decT, decF, over_at, *, hC1.len]) | (with_reducible refine Gd_split (fun hc => ?_) (fun hc => ?_) <;> (have hc2 := hc; try simp at hc2)) | (with_reducible refine Br_split (fun hc => ?_) (fun hc => ?_) <;> (have hc2 := hc; try simp at hc2)) | (with_reducible refine GdT_split (fun hc => ?_) (fun hc => ?_) <;> (have hc2 := hc; try simp at hc2)) | (with_reducible refine WT_alt ?_ ?_) | omega)
    · have n2' : (12 : Int) < cs.length := by omega
      have hno : decide (sesOk (cs.map (·.1)) (valS ss)) = false := decide_eq_false (fun q => n2 (by simpa using q.2.1))
      refine CallT_pure (F := L22) (HasSv.f22) rfl (by first | rfl | (split <;> rfl) | simp) ?_; unfold L22; dsimp only []
      repeat' (first | (simp (disch := first | omega | assumption | (simp only [List.length_set]; omega) | (simp [*] <;> fail) | assumption) [-Bool.decide_and, -Bool.decide_or, -Bool.not_and, -Bool.not_or, toNat_pred, toNat_succ, wrap64, wr_new, wr_new0, ok_if, ok_ifn, iadV_sl, makeV_int, decT, decF, over_at, *, hC.len, hC.at_, hC.at_', hC.rd, hC.rdIn, hC.rdIn0, hC.rdA, hC.rdInA, hC.rdIn0A, hS.len, hS.at_, hS.at_', hS.rd, hS.rdIn, hS.rdIn0, hS.rdA, hS.rdInA, hS.rdIn0A]) | (with_reducible refine Gd_split (fun hc => ?_) (fun hc => ?_) <;> (have hc2 := hc; try simp at hc2)) | (with_reducible refine Br_split (fun hc => ?_) (fun hc => ?_) <;> (have hc2 := hc; try simp at hc2)) | (with_reducible refine GdT_split (fun hc => ?_) (fun hc => ?_) <;> (have hc2 := hc; try simp at hc2)) | (with_reducible refine WT_alt ?_ ?_) | omega)
  · have n1' : ¬ ((1 : Int) ≤ ss.length ∧ (ss.length : Int) ≤ 8) := by omega
    have hno : decide (sesOk (cs.map (·.1)) (valS ss)) = false := decide_eq_false (fun q => n1 (by have := q.1; rwa [valS_len] at this))
    refine CallT_pure (F := L22) (HasSv.f22) rfl (by first | rfl | (split <;> rfl) | simp) ?_; unfold L22; dsimp only []
    repeat' (first | (simp (disch := first | omega | assumption | (simp only [List.length_set]; omega) | (simp [*] <;> fail) | assumption) [-Bool.decide_and, -Bool.decide_or, -Bool.not_and, -Bool.not_or, toNat_pred, toNat_succ, wrap64, wr_new, wr_new0, ok_if, ok_ifn, iadV_sl, makeV_int, decT, decF, over_at, *, hC.len, hC.at_, hC.at_', hC.rd, hC.rdIn, hC.rdIn0, hC.rdA, hC.rdInA, hC.rdIn0A, hS.len, hS.at_, hS.at_', hS.rd, hS.rdIn, hS.rdIn0, hS.rdA, hS.rdInA, hS.rdIn0A]) | (with_reducible refine Gd_split (fun hc => ?_) (fun hc => ?_) <;> (have hc2 := hc; try simp at hc2)) | (with_reducible refine Br_split (fun hc => ?_) (fun hc => ?_) <;> (have hc2 := hc; try simp at hc2)) | (with_reducible refine GdT_split (fun hc => ?_) (fun hc => ?_) <;> (have hc2 := hc; try simp at hc2)) | (with_reducible refine WT_alt ?_ ?_) | omega)
end
section
variable [HasVs S]
theorem c_specValidSession (hC : Arr h l 3 (cs.map Eff.cells)) (hCI : In h Eff.nums cs) (hS : Arr h l2 5 (ss.map Str.cells)) (hSI : InS h ss) : CallT S true 20 [.agg [l, l2]] h lim K = K (.lf (.bool (decide (sesOk (cs.map (·.1)) (valS ss))))) h := by
  obtain ⟨hr0, hr1⟩ := box_rd (h := h) (l := l) (l2 := l2) (ty := 46) (t := [])
  have hc := fun lim K => c_l09Is (S := S) (lim := lim) (K := K) (h := h ++ [⟨[l, l2], .own 46 1⟩]) (id := h.length) (off := 0) hr0 hr1 hC.app (hCI.kept (Kept.app _ _)) hS.app (hSI.kept (Kept.app _ _))
  refine CallT_pure (F := L20) (HasVs.f20) rfl (by first | rfl | (split <;> rfl) | simp) ?_; unfold L20; dsimp only []
  repeat' (first | (simp (disch := first | omega | assumption | (simp only [List.length_set]; omega) | (simp [*] <;> fail) | assumption) [-Bool.decide_and, -Bool.decide_or, -Bool.not_and, -Bool.not_or, toNat_pred, toNat_succ, wrap64, wr_new, wr_new0, ok_if, ok_ifn, iadV_sl, makeV_int, decT, decF, over_at, *]) | (with_reducible refine Gd_split (fun hc => ?_) (fun hc => ?_) <;> (have hc2 := hc; try simp at hc2)) | (with_reducible refine Br_split (fun hc => ?_) (fun hc => ?_) <;> (have hc2 := hc; try simp at hc2)) | (with_reducible refine GdT_split (fun hc => ?_) (fun hc => ?_) <;> (have hc2 := hc; try simp at hc2)) | (with_reducible refine WT_alt ?_ ?_) | omega)
end
end
end Go.E
