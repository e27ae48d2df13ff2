/- The steps of a delay and of a pass, both sides. -/
import Derived.Test.YtclbkfmelhheaaaMRo
import Derived.Test.YtclbkfmelhheaaaMFl
import Derived.Test.YtclbkfmelhheaaaMSm
set_option linter.unusedVariables false
set_option linter.unusedSimpArgs false
namespace Go.E
open Go
def L191 : LFn := ⟨2, (.seq (.reg [⟨(.some 4), (.mv (.c (.lf .nils))), none⟩])
 (.seq (.reg [⟨(.some 5), (.mv (.t 0)), none⟩, ⟨(.some 6), (.slice 1 (.t 5) (.some (.c (.lf (.int .i64 1)))) none), none⟩, ⟨(.some 7), (.call false 157 [(.t 6)]), none⟩, ⟨(.some 8), (.mv (.t 1)), none⟩, ⟨(.some 9), (.lit 22 1 1 [(.flt .f32 0)] [(0, (1, (.t 8)))]), none⟩, ⟨(.some 10), (.app 22 1 4 (.t 7) (.t 9)), none⟩, ⟨(.some 4), (.mv (.t 10)), none⟩])
 .ret)), [(.tmp 4)]⟩
def L158 : LFn := ⟨3, (.seq (.reg [⟨(.some 3), (.box 197 (.t 0)), none⟩, ⟨(.some 6), (.mv (.c (.lf (.flt .f32 0)))), none⟩, ⟨(.some 7), (.mv (.c (.lf .nils))), none⟩])
 (.seq (.reg [⟨(.some 9), (.mv (.t 1)), none⟩, ⟨(.some 10), (.iaddr 1 (.t 9) (.c (.lf (.int .i64 0)))), none⟩, ⟨(.some 11), (.load false 1 (.t 10)), none⟩, ⟨(.some 8), (.mv (.t 11)), none⟩])
 (.seq (.any (.op ⟨(.some 12), (.faddr 2 (.t 3)), none⟩ (.op ⟨(.some 14), (.mv (.t 2)), none⟩ (.op ⟨(.some 16), (.faddr 3 (.t 3)), none⟩ (.op ⟨(.some 18), (.mv (.t 8)), none⟩ (.op ⟨(.some 21), (.mv (.t 1)), none⟩ (.op ⟨(.some 22), (.mv (.t 2)), none⟩ (.op ⟨(.some 23), (.faddr 1 (.t 3)), none⟩ (.op ⟨(.some 24), (.load false 1 (.t 23)), none⟩ (.op ⟨(.some 25), (.mv (.t 8)), none⟩ (.op ⟨(.some 26), (.bin .mul (.t 24) (.t 25)), none⟩ (.op ⟨(.some 27), (.bin .add (.t 22) (.t 26)), none⟩ (.op ⟨(.some 28), (.faddr 4 (.t 3)), none⟩ (.op ⟨(.some 29), (.load false 1 (.t 28)), none⟩ (.op ⟨(.some 30), (.call true 192 [(.t 27), (.t 29)]), none⟩ (.alt (.op ⟨(.some 13), (.load false 1 (.t 12)), none⟩ (.op ⟨(.some 15), (.bin .mul (.t 13) (.t 14)), none⟩ (.alt (.op ⟨(.some 17), (.load false 1 (.t 16)), none⟩ (.op ⟨(.some 19), (.bin .mul (.t 17) (.t 18)), none⟩ (.op ⟨(.some 20), (.bin .add (.t 15) (.t 19)), none⟩ (.op ⟨(.some 31), (.call false 191 [(.t 21), (.t 30)]), none⟩ (.op ⟨(.some 6), (.mv (.t 20)), none⟩ (.op ⟨(.some 7), (.mv (.t 31)), none⟩ .nil)))))) (.op ⟨(.some 31), (.call false 191 [(.t 21), (.t 30)]), none⟩ (.op ⟨(.some 17), (.load false 1 (.t 16)), none⟩ (.op ⟨(.some 19), (.bin .mul (.t 17) (.t 18)), none⟩ (.op ⟨(.some 20), (.bin .add (.t 15) (.t 19)), none⟩ (.op ⟨(.some 6), (.mv (.t 20)), none⟩ (.op ⟨(.some 7), (.mv (.t 31)), none⟩ .nil))))))))) (.alt (.op ⟨(.some 17), (.load false 1 (.t 16)), none⟩ (.op ⟨(.some 19), (.bin .mul (.t 17) (.t 18)), none⟩ (.alt (.op ⟨(.some 13), (.load false 1 (.t 12)), none⟩ (.op ⟨(.some 15), (.bin .mul (.t 13) (.t 14)), none⟩ (.op ⟨(.some 20), (.bin .add (.t 15) (.t 19)), none⟩ (.op ⟨(.some 31), (.call false 191 [(.t 21), (.t 30)]), none⟩ (.op ⟨(.some 6), (.mv (.t 20)), none⟩ (.op ⟨(.some 7), (.mv (.t 31)), none⟩ .nil)))))) (.op ⟨(.some 31), (.call false 191 [(.t 21), (.t 30)]), none⟩ (.op ⟨(.some 13), (.load false 1 (.t 12)), none⟩ (.op ⟨(.some 15), (.bin .mul (.t 13) (.t 14)), none⟩ (.op ⟨(.some 20), (.bin .add (.t 15) (.t 19)), none⟩ (.op ⟨(.some 6), (.mv (.t 20)), none⟩ (.op ⟨(.some 7), (.mv (.t 31)), none⟩ .nil))))))))) (.op ⟨(.some 31), (.call false 191 [(.t 21), (.t 30)]), none⟩ (.op ⟨(.some 13), (.load false 1 (.t 12)), none⟩ (.op ⟨(.some 15), (.bin .mul (.t 13) (.t 14)), none⟩ (.op ⟨(.some 17), (.load false 1 (.t 16)), none⟩ (.op ⟨(.some 19), (.bin .mul (.t 17) (.t 18)), none⟩ (.op ⟨(.some 20), (.bin .add (.t 15) (.t 19)), none⟩ (.op ⟨(.some 6), (.mv (.t 20)), none⟩ (.op ⟨(.some 7), (.mv (.t 31)), none⟩ .nil)))))))))))))))))))))))))
 .ret))), [(.tmp 6), (.tmp 7)]⟩
def L160 : LFn := ⟨3, (.seq (.reg [⟨(.some 3), (.box 199 (.t 0)), none⟩, ⟨(.some 6), (.mv (.c (.lf (.flt .f32 0)))), none⟩, ⟨(.some 7), (.mv (.c (.lf .nils))), none⟩])
 (.seq (.reg [⟨(.some 10), (.mv (.t 1)), none⟩, ⟨(.some 11), (.iaddr 1 (.t 10) (.c (.lf (.int .i64 0)))), none⟩, ⟨(.some 12), (.load false 1 (.t 11)), none⟩, ⟨(.some 8), (.mv (.t 12)), none⟩])
 (.seq (.reg [⟨(.some 13), (.mv (.t 2)), none⟩, ⟨(.some 14), (.faddr 1 (.t 3)), none⟩, ⟨(.some 15), (.load false 1 (.t 14)), none⟩, ⟨(.some 16), (.mv (.t 8)), none⟩, ⟨(.some 17), (.bin .mul (.t 15) (.t 16)), none⟩, ⟨(.some 18), (.bin .add (.t 13) (.t 17)), none⟩, ⟨(.some 9), (.mv (.t 18)), none⟩])
 (.seq (.any (.op ⟨(.some 19), (.mv (.t 8)), none⟩ (.op ⟨(.some 20), (.faddr 1 (.t 3)), none⟩ (.op ⟨(.some 22), (.mv (.t 9)), none⟩ (.op ⟨(.some 25), (.mv (.t 1)), none⟩ (.op ⟨(.some 26), (.mv (.t 9)), none⟩ (.alt (.op ⟨(.some 21), (.load false 1 (.t 20)), none⟩ (.op ⟨(.some 23), (.bin .mul (.t 21) (.t 22)), none⟩ (.op ⟨(.some 24), (.bin .sub (.t 19) (.t 23)), none⟩ (.op ⟨(.some 27), (.call false 191 [(.t 25), (.t 26)]), none⟩ (.op ⟨(.some 6), (.mv (.t 24)), none⟩ (.op ⟨(.some 7), (.mv (.t 27)), none⟩ .nil)))))) (.op ⟨(.some 27), (.call false 191 [(.t 25), (.t 26)]), none⟩ (.op ⟨(.some 21), (.load false 1 (.t 20)), none⟩ (.op ⟨(.some 23), (.bin .mul (.t 21) (.t 22)), none⟩ (.op ⟨(.some 24), (.bin .sub (.t 19) (.t 23)), none⟩ (.op ⟨(.some 6), (.mv (.t 24)), none⟩ (.op ⟨(.some 7), (.mv (.t 27)), none⟩ .nil)))))))))))))
 .ret)))), [(.tmp 6), (.tmp 7)]⟩
def L190 : LFn := ⟨2, (.seq (.seq (.reg [⟨(.some 4), (.mv (.c (.lf (.int .i64 1)))), none⟩])
 (.block 0 (.loop (.seq (.seq (.reg [⟨(.some 5), (.mv (.t 4)), none⟩, ⟨(.some 6), (.mv (.t 0)), none⟩, ⟨(.some 7), (.len (.t 6)), none⟩, ⟨(.some 8), (.bin .lss (.t 5) (.t 7)), none⟩])
 (.cond (.t 8) .skip (.exit 0)))
 (.seq (.block 1 (.reg [⟨(.some 11), (.mv (.t 0)), none⟩, ⟨(.some 12), (.mv (.t 4)), none⟩, ⟨(.some 13), (.bin .sub (.t 12) (.c (.lf (.int .i64 1)))), none⟩, ⟨(.some 14), (.mv (.t 0)), none⟩, ⟨(.some 15), (.mv (.t 4)), none⟩, ⟨(.some 16), (.iaddr 1 (.t 14) (.t 15)), none⟩, ⟨(.some 17), (.load false 1 (.t 16)), none⟩, ⟨(.some 18), (.iaddr 1 (.t 11) (.t 13)), none⟩, ⟨none, (.store 1 (.t 18) (.t 17)), none⟩]))
 (.reg [⟨(.some 9), (.mv (.t 4)), none⟩, ⟨(.some 10), (.bin .add (.t 9) (.c (.lf (.int .i64 1)))), none⟩, ⟨(.some 4), (.mv (.t 10)), none⟩]))))))
 (.reg [⟨(.some 19), (.mv (.t 0)), none⟩, ⟨(.some 20), (.mv (.t 0)), none⟩, ⟨(.some 21), (.len (.t 20)), none⟩, ⟨(.some 22), (.bin .sub (.t 21) (.c (.lf (.int .i64 1)))), none⟩, ⟨(.some 23), (.mv (.t 1)), none⟩, ⟨(.some 24), (.iaddr 1 (.t 19) (.t 22)), none⟩, ⟨none, (.store 1 (.t 24) (.t 23)), none⟩])), []⟩
def L150 : LFn := ⟨3, (.seq (.reg [⟨(.some 6), (.mv (.c (.lf (.flt .f32 0)))), none⟩])
 (.seq (.reg [⟨(.some 9), (.mv (.t 1)), none⟩, ⟨(.some 10), (.iaddr 1 (.t 9) (.c (.lf (.int .i64 0)))), none⟩, ⟨(.some 11), (.load false 1 (.t 10)), none⟩, ⟨(.some 7), (.mv (.t 11)), none⟩])
 (.seq (.reg [⟨(.some 12), (.mv (.t 2)), none⟩, ⟨(.some 13), (.mv (.t 0)), none⟩, ⟨(.some 14), (.nilck (.t 13)), none⟩, ⟨(.some 15), (.faddr 1 (.t 14)), none⟩, ⟨(.some 16), (.load false 1 (.t 15)), none⟩, ⟨(.some 17), (.mv (.t 7)), none⟩, ⟨(.some 18), (.bin .mul (.t 16) (.t 17)), none⟩, ⟨(.some 19), (.bin .add (.t 12) (.t 18)), none⟩, ⟨(.some 8), (.mv (.t 19)), none⟩])
 (.seq (.seq (.reg [⟨(.some 20), (.mv (.t 0)), none⟩, ⟨(.some 21), (.nilck (.t 20)), none⟩, ⟨(.some 22), (.faddr 4 (.t 21)), none⟩, ⟨(.some 23), (.load false 1 (.t 22)), none⟩])
 (.cond (.t 23) (.reg [⟨(.some 24), (.mv (.t 8)), none⟩, ⟨(.some 25), (.call true 189 [(.t 24)]), none⟩, ⟨(.some 8), (.mv (.t 25)), none⟩]) .skip))
 (.seq (.reg [⟨(.some 26), (.mv (.t 1)), none⟩, ⟨(.some 27), (.mv (.t 8)), none⟩, ⟨(.some 28), (.call false 190 [(.t 26), (.t 27)]), none⟩])
 (.seq (.reg [⟨(.some 29), (.mv (.t 0)), none⟩, ⟨(.some 30), (.nilck (.t 29)), none⟩, ⟨(.some 31), (.faddr 2 (.t 30)), none⟩, ⟨(.some 32), (.load false 1 (.t 31)), none⟩, ⟨(.some 33), (.mv (.t 2)), none⟩, ⟨(.some 34), (.bin .mul (.t 32) (.t 33)), none⟩, ⟨(.some 35), (.mv (.t 0)), none⟩, ⟨(.some 36), (.nilck (.t 35)), none⟩, ⟨(.some 37), (.faddr 3 (.t 36)), none⟩, ⟨(.some 38), (.load false 1 (.t 37)), none⟩, ⟨(.some 39), (.mv (.t 7)), none⟩, ⟨(.some 40), (.bin .mul (.t 38) (.t 39)), none⟩, ⟨(.some 41), (.bin .add (.t 34) (.t 40)), none⟩, ⟨(.some 6), (.mv (.t 41)), none⟩])
 .ret)))))), [(.tmp 6)]⟩
def L152 : LFn := ⟨3, (.seq (.reg [⟨(.some 6), (.mv (.c (.lf (.flt .f32 0)))), none⟩])
 (.seq (.reg [⟨(.some 9), (.mv (.t 1)), none⟩, ⟨(.some 10), (.iaddr 1 (.t 9) (.c (.lf (.int .i64 0)))), none⟩, ⟨(.some 11), (.load false 1 (.t 10)), none⟩, ⟨(.some 7), (.mv (.t 11)), none⟩])
 (.seq (.reg [⟨(.some 12), (.mv (.t 2)), none⟩, ⟨(.some 13), (.mv (.t 0)), none⟩, ⟨(.some 14), (.nilck (.t 13)), none⟩, ⟨(.some 15), (.faddr 1 (.t 14)), none⟩, ⟨(.some 16), (.load false 1 (.t 15)), none⟩, ⟨(.some 17), (.mv (.t 7)), none⟩, ⟨(.some 18), (.bin .mul (.t 16) (.t 17)), none⟩, ⟨(.some 19), (.bin .add (.t 12) (.t 18)), none⟩, ⟨(.some 8), (.mv (.t 19)), none⟩])
 (.seq (.reg [⟨(.some 20), (.mv (.t 1)), none⟩, ⟨(.some 21), (.mv (.t 8)), none⟩, ⟨(.some 22), (.call false 190 [(.t 20), (.t 21)]), none⟩])
 (.seq (.reg [⟨(.some 23), (.mv (.t 7)), none⟩, ⟨(.some 24), (.mv (.t 0)), none⟩, ⟨(.some 25), (.nilck (.t 24)), none⟩, ⟨(.some 26), (.faddr 1 (.t 25)), none⟩, ⟨(.some 27), (.load false 1 (.t 26)), none⟩, ⟨(.some 28), (.mv (.t 8)), none⟩, ⟨(.some 29), (.bin .mul (.t 27) (.t 28)), none⟩, ⟨(.some 30), (.bin .sub (.t 23) (.t 29)), none⟩, ⟨(.some 6), (.mv (.t 30)), none⟩])
 .ret))))), [(.tmp 6)]⟩
def L151 : LFn := ⟨1, (.seq (.reg [⟨(.some 2), (.mv (.c (.lf (.flt .f32 0)))), none⟩])
 (.seq (.reg [⟨(.some 3), (.mv (.c (.lf (.flt .f32 0)))), none⟩])
 (.seq (.seq (.reg [⟨(.some 4), (.mv (.c (.lf (.int .i64 0)))), none⟩])
 (.block 0 (.loop (.seq (.seq (.reg [⟨(.some 5), (.mv (.t 4)), none⟩, ⟨(.some 6), (.mv (.t 0)), none⟩, ⟨(.some 7), (.len (.t 6)), none⟩, ⟨(.some 8), (.bin .lss (.t 5) (.t 7)), none⟩])
 (.cond (.t 8) .skip (.exit 0)))
 (.seq (.block 1 (.reg [⟨(.some 11), (.mv (.t 3)), none⟩, ⟨(.some 12), (.mv (.t 0)), none⟩, ⟨(.some 13), (.mv (.t 4)), none⟩, ⟨(.some 14), (.iaddr 1 (.t 12) (.t 13)), none⟩, ⟨(.some 15), (.load false 1 (.t 14)), none⟩, ⟨(.some 16), (.bin .add (.t 11) (.t 15)), none⟩, ⟨(.some 3), (.mv (.t 16)), none⟩]))
 (.reg [⟨(.some 9), (.mv (.t 4)), none⟩, ⟨(.some 10), (.bin .add (.t 9) (.c (.lf (.int .i64 1)))), none⟩, ⟨(.some 4), (.mv (.t 10)), none⟩]))))))
 (.seq (.reg [⟨(.some 17), (.mv (.t 3)), none⟩, ⟨(.some 2), (.mv (.t 17)), none⟩])
 .ret)))), [(.tmp 2)]⟩
def L159 : LFn := ⟨1, (.seq (.reg [⟨(.some 2), (.mv (.c (.lf (.flt .f32 0)))), none⟩])
 (.seq (.reg [⟨(.some 3), (.mv (.c (.lf (.flt .f32 0)))), none⟩])
 (.seq (.seq (.reg [⟨(.some 6), (.mv (.t 0)), none⟩, ⟨(.some 7), (.len (.t 6)), none⟩, ⟨(.some 8), (.mv (.c (.lf (.int .i64 0)))), none⟩])
 (.block 0 (.loop (.seq (.reg [⟨(.some 9), (.bin .lss (.t 8) (.t 7)), none⟩])
 (.seq (.cond (.t 9) .skip (.exit 0))
 (.seq (.block 1 (.seq (.reg [⟨(.some 10), (.iaddr 1 (.t 6) (.t 8)), none⟩, ⟨(.some 11), (.load false 1 (.t 10)), none⟩, ⟨(.some 5), (.mv (.t 11)), none⟩])
 (.reg [⟨(.some 12), (.mv (.t 3)), none⟩, ⟨(.some 13), (.mv (.t 5)), none⟩, ⟨(.some 14), (.bin .add (.t 12) (.t 13)), none⟩, ⟨(.some 3), (.mv (.t 14)), none⟩])))
 (.reg [⟨(.some 15), (.bin .add (.t 8) (.c (.lf (.int .i64 1)))), none⟩, ⟨(.some 8), (.mv (.t 15)), none⟩])))))))
 (.seq (.reg [⟨(.some 16), (.mv (.t 3)), none⟩, ⟨(.some 2), (.mv (.t 16)), none⟩])
 .ret)))), [(.tmp 2)]⟩
class HasRp (S : Sys) : Prop extends HasFl2 S, HasCn S where
  f191 : S.fs 191 = some L191
  f158 : S.fs 158 = some L158
  f160 : S.fs 160 = some L160
  f190 : S.fs 190 = some L190
  f150 : S.fs 150 = some L150
  f152 : S.fs 152 = some L152
  f151 : S.fs 151 = some L151
  f159 : S.fs 159 = some L159
def dlyV (d : Dly) (b x : Nat) : Nat := flushIf d.fl (fbin .add .f32 x (fbin .mul .f32 d.fb b))
def dlyO (d : Dly) (b x : Nat) : Nat := fbin .add .f32 (fbin .mul .f32 d.dry x) (fbin .mul .f32 d.wet b)
def pasV (p : Pas) (b x : Nat) : Nat := fbin .add .f32 x (fbin .mul .f32 p.g b)
def pasO (p : Pas) (b x : Nat) : Nat := fbin .sub .f32 b (fbin .mul .f32 p.g (pasV p b x))
def sumTo32 (xs : List Nat) (i : Nat) : Nat := (xs.take i).foldl (fun s x => fbin .add .f32 s x) 0
theorem sumTo32_zero {xs : List Nat} : sumTo32 xs 0 = 0 := by simp [sumTo32]
theorem sumTo32_succ {xs : List Nat} {i : Nat} (hi : i < xs.length) : sumTo32 xs (i + 1) = fbin .add .f32 (sumTo32 xs i) xs[i] := by
  unfold sumTo32
  rw [List.take_succ_eq_append_getElem hi, List.foldl_append]; rfl
/-- A line of which the first i are shifted. -/
def shTo (xs : List Nat) (i : Nat) : List Nat := tabTo (fun j => if j < i then xs.getD (j + 1) 0 else xs.getD j 0) xs.length
@[simp] theorem shTo_len {xs : List Nat} {i : Nat} : (shTo xs i).length = xs.length := tabTo_len
theorem shTo_get {xs : List Nat} {i j : Nat} (hj : j < (shTo xs i).length) : (shTo xs i)[j] = if j < i then xs.getD (j + 1) 0 else xs.getD j 0 := by simp [shTo, tabTo]
theorem shTo_zero {xs : List Nat} : shTo xs 0 = xs := by
  apply List.ext_getElem
  · simp
  · intro j h1 h2
    rw [shTo_get, if_neg (by omega)]; simp [h2]
theorem shTo_succ {xs : List Nat} {i : Nat} : shTo xs (i + 1) = (shTo xs i).set i (xs.getD (i + 1) 0) := by
  apply List.ext_getElem
  · simp
  · intro j h1 h2
    rw [List.getElem_set, shTo_get, shTo_get]
    by_cases e : i = j
    · subst e; rw [if_pos (by omega), if_pos rfl]
    · rw [if_neg e]
      by_cases hj : j < i
      · rw [if_pos hj, if_pos (by omega)]
      · rw [if_neg hj, if_neg (by omega)]
theorem shTo_end {b x : Nat} {r : List Nat} : (shTo (b :: r) r.length).set r.length x = r ++ [x] := by
  apply List.ext_getElem
  · simp
  · intro j h1 h2
    rw [List.getElem_set, shTo_get]
    rw [List.length_append, List.length_singleton] at h2
    by_cases e : r.length = j
    · subst e; rw [if_pos rfl]; simp
    · rw [if_neg e, if_pos (by omega), List.getElem_append_left (by omega)]
      have : j < r.length := by omega
      simp [this]
theorem Buts.one {g g' : Hp} {l : Lf} (h : Buts g g' [l]) : But g g' l l :=
  ⟨h.len, fun id h1 h2 => h.same id h1 (fun s hs hn => by rw [List.mem_singleton] at hs; subst hs; exact h2 hn), .inl rfl⟩
theorem Sm.from1 {h : Hp} {l : Lf} {b : Nat} {r : List Nat} (s : Sm h l (b :: r)) : Sm h (l.from_ 1 1) r := by
  refine ⟨?_, ?_⟩
  · have := s.arr.from_ (j := 1) (by simp)
    simpa using this
  · have := src_from fl_rows s.src (j := 1) (by simp)
    simpa using this
section
variable {S : Sys} {lim : Nat} {h : Hp} {K : CV → Hp → Prop} [HasRp S] {l : Lf} {b x : Nat} {r xs : List Nat} {d : Dly} {p : Pas}
theorem c_take1 (s : Sm h l (b :: r)) (hn : r.length ≤ 100000) (hl : lim ≤ h.length) (hK : ∀ o g, New h g o 22 1 ((r ++ [x]).map fl) → K (.lf o) g) : CallT S false 191 [.lf l, .lf (.flt .f32 x)] h lim K := by
  have e1 := slcV_from (j := 1) s.arr (by decide) (by simp)
  have e1' : slcV 1 (.lf l) (some (.lf (.int .i64 1))) none = some (.lf (l.from_ 1 1)) := e1
  refine CallT_of_body (F := L191) (HasRp.f191) rfl ?_; unfold L191; dsimp only []
  repeat' (first | (simp (disch := first | omega | assumption | (simp only [List.length_set]; omega) | (simp [*] <;> fail) | assumption) [-Bool.decide_and, -Bool.decide_or, -Bool.not_and, -Bool.not_or, toNat_pred, toNat_succ, wrap64, wr_new, wr_new0, ok_if, ok_ifn, iadV_sl, makeV_int, decT, decF, over_at, *]) | (with_reducible refine Gd_split (fun hc => ?_) (fun hc => ?_) <;> (have hc2 := hc; try simp at hc2)) | (with_reducible refine Br_split (fun hc => ?_) (fun hc => ?_) <;> (have hc2 := hc; try simp at hc2)) | (with_reducible refine GdT_split (fun hc => ?_) (fun hc => ?_) <;> (have hc2 := hc; try simp at hc2)) | (with_reducible refine WT_alt ?_ ?_) | omega)
  refine c_copyNumbers s.from1 (by omega) hl fun o g hN => ?_
  repeat' (first | (simp (disch := first | omega | assumption | (simp only [List.length_set]; omega) | (simp [*] <;> fail) | assumption) [-Bool.decide_and, -Bool.decide_or, -Bool.not_and, -Bool.not_or, toNat_pred, toNat_succ, wrap64, wr_new, wr_new0, ok_if, ok_ifn, iadV_sl, makeV_int, decT, decF, over_at, *, leavesAll, fillL]) | (with_reducible refine Gd_split (fun hc => ?_) (fun hc => ?_) <;> (have hc2 := hc; try simp at hc2)) | (with_reducible refine Br_split (fun hc => ?_) (fun hc => ?_) <;> (have hc2 := hc; try simp at hc2)) | (with_reducible refine GdT_split (fun hc => ?_) (fun hc => ?_) <;> (have hc2 := hc; try simp at hc2)) | (with_reducible refine WT_alt ?_ ?_) | omega)
  refine oc_push (bytes := 4) (r := [.flt .f32 x]) hN ?_ ?_ ?_ (by decide) rfl (by decide)
  · exact hl
  · simp; omega
  intro o2 g5 hN5 hB5
  repeat' (first | (simp (disch := first | omega | assumption | (simp only [List.length_set]; omega) | (simp [*] <;> fail) | assumption) [-Bool.decide_and, -Bool.decide_or, -Bool.not_and, -Bool.not_or, toNat_pred, toNat_succ, wrap64, wr_new, wr_new0, ok_if, ok_ifn, iadV_sl, makeV_int, decT, decF, over_at, *]) | (with_reducible refine Gd_split (fun hc => ?_) (fun hc => ?_) <;> (have hc2 := hc; try simp at hc2)) | (with_reducible refine Br_split (fun hc => ?_) (fun hc => ?_) <;> (have hc2 := hc; try simp at hc2)) | (with_reducible refine GdT_split (fun hc => ?_) (fun hc => ?_) <;> (have hc2 := hc; try simp at hc2)) | (with_reducible refine WT_alt ?_ ?_) | omega)
  exact hK _ _ (by rw [List.map_append]; exact hN5)
set_option maxHeartbeats 2000000 in
theorem c_dstep (s : Sm h l (b :: r)) (hn : r.length ≤ 100000) (hl : lim ≤ h.length) (hK : ∀ o g, New h g o 22 1 ((r ++ [dlyV d b x]).map fl) → K (.tup [.lf (.flt .f32 (dlyO d b x)), .lf o]) g) : CallT S false 158 [.agg d.cells, .lf l, .lf (.flt .f32 x)] h lim K := by
  obtain ⟨dl, fb, dr, wt, fg⟩ := d
  have hA := s.arr.app (t := [⟨[.int .i64 dl, .flt .f32 fb, .flt .f32 dr, .flt .f32 wt, .bool fg], .own 197 1⟩])
  have hs := s.kept (Kept.app h [⟨[.int .i64 dl, .flt .f32 fb, .flt .f32 dr, .flt .f32 wt, .bool fg], .own 197 1⟩])
  have hf := fun h lim K => c_flushed (S := S) (h := h) (lim := lim) (K := K) (x := fbin .add .f32 x (fbin .mul .f32 fb b)) (b := fg) CF_bin
  unfold dlyV dlyO at hK
  simp only at hK
  generalize hv : flushIf fg (fbin .add .f32 x (fbin .mul .f32 fb b)) = v at *
  clear hv
  unfold Dly.cells
  simp only []
  have fin : ∀ o g, New (h ++ [⟨[.int .i64 dl, .flt .f32 fb, .flt .f32 dr, .flt .f32 wt, .bool fg], .own 197 1⟩]) g o 22 1 ((r ++ [v]).map fl) → K (.tup [.lf (.flt .f32 (fbin .add .f32 (fbin .mul .f32 dr x) (fbin .mul .f32 wt b))), .lf o]) g := fun o g hN => hK o g (hN.base (Kept.app _ _))
  have rb : ∀ g, Kept (h ++ [⟨[.int .i64 dl, .flt .f32 fb, .flt .f32 dr, .flt .f32 wt, .bool fg], .own 197 1⟩]) g → rdCells g h.length 2 1 = some [.flt .f32 dr] ∧ rdCells g h.length 3 1 = some [.flt .f32 wt] := fun g k => ⟨k.rd (Cel.new.rd (by simp)), k.rd (Cel.new.rd (by simp))⟩
  clear hK
  refine CallT_of_body (F := L158) (HasRp.f158) rfl ?_; unfold L158; dsimp only []
  repeat' (first | (simp (disch := first | omega | assumption | (simp only [List.length_set]; omega) | (simp [*] <;> fail) | assumption) [-Bool.decide_and, -Bool.decide_or, -Bool.not_and, -Bool.not_or, toNat_pred, toNat_succ, wrap64, wr_new, wr_new0, ok_if, ok_ifn, iadV_sl, makeV_int, decT, decF, over_at, *, hA.at0, hA.rd0, hA.rd0j, hA.rd0A, hA.rd0jA, fl, leavesAll, fillL]) | (with_reducible refine Gd_split (fun hc => ?_) (fun hc => ?_) <;> (have hc2 := hc; try simp at hc2)) | (with_reducible refine Br_split (fun hc => ?_) (fun hc => ?_) <;> (have hc2 := hc; try simp at hc2)) | (with_reducible refine GdT_split (fun hc => ?_) (fun hc => ?_) <;> (have hc2 := hc; try simp at hc2)) | (with_reducible refine WT_alt ?_ ?_) | omega)
  all_goals
    refine c_take1 hs hn (by simp; omega) fun o g hN => ?_
    obtain ⟨r1, r2⟩ := rb g hN.kept
    have f2 := fin o g hN
    clear fin rb
    repeat' (first | (simp (disch := first | omega | assumption | (simp only [List.length_set]; omega) | (simp [*] <;> fail) | assumption) [-Bool.decide_and, -Bool.decide_or, -Bool.not_and, -Bool.not_or, toNat_pred, toNat_succ, wrap64, wr_new, wr_new0, ok_if, ok_ifn, iadV_sl, makeV_int, decT, decF, over_at, *]) | (with_reducible refine Gd_split (fun hc => ?_) (fun hc => ?_) <;> (have hc2 := hc; try simp at hc2)) | (with_reducible refine Br_split (fun hc => ?_) (fun hc => ?_) <;> (have hc2 := hc; try simp at hc2)) | (with_reducible refine GdT_split (fun hc => ?_) (fun hc => ?_) <;> (have hc2 := hc; try simp at hc2)) | (with_reducible refine WT_alt ?_ ?_) | omega)
set_option maxHeartbeats 2000000 in
theorem c_pstep (s : Sm h l (b :: r)) (hn : r.length ≤ 100000) (hl : lim ≤ h.length) (hK : ∀ o g, New h g o 22 1 ((r ++ [pasV p b x]).map fl) → K (.tup [.lf (.flt .f32 (pasO p b x)), .lf o]) g) : CallT S false 160 [.agg p.cells, .lf l, .lf (.flt .f32 x)] h lim K := by
  obtain ⟨pl, pg⟩ := p
  have hA := s.arr.app (t := [⟨[.int .i64 pl, .flt .f32 pg], .own 199 1⟩])
  have hs := s.kept (Kept.app h [⟨[.int .i64 pl, .flt .f32 pg], .own 199 1⟩])
  unfold pasO pasV at hK
  simp only at hK
  unfold Pas.cells
  simp only []
  have fin : ∀ o g, New (h ++ [⟨[.int .i64 pl, .flt .f32 pg], .own 199 1⟩]) g o 22 1 ((r ++ [fbin .add .f32 x (fbin .mul .f32 pg b)]).map fl) → K (.tup [.lf (.flt .f32 (fbin .sub .f32 b (fbin .mul .f32 pg (fbin .add .f32 x (fbin .mul .f32 pg b))))), .lf o]) g := fun o g hN => hK o g (hN.base (Kept.app _ _))
  have rb : ∀ g, Kept (h ++ [⟨[.int .i64 pl, .flt .f32 pg], .own 199 1⟩]) g → rdCells g h.length 1 1 = some [.flt .f32 pg] := fun g k => k.rd (Cel.new.rd (by simp))
  clear hK
  refine CallT_of_body (F := L160) (HasRp.f160) rfl ?_; unfold L160; dsimp only []
  repeat' (first | (simp (disch := first | omega | assumption | (simp only [List.length_set]; omega) | (simp [*] <;> fail) | assumption) [-Bool.decide_and, -Bool.decide_or, -Bool.not_and, -Bool.not_or, toNat_pred, toNat_succ, wrap64, wr_new, wr_new0, ok_if, ok_ifn, iadV_sl, makeV_int, decT, decF, over_at, *, hA.at0, hA.rd0, hA.rd0j, hA.rd0A, hA.rd0jA, fl, leavesAll, fillL]) | (with_reducible refine Gd_split (fun hc => ?_) (fun hc => ?_) <;> (have hc2 := hc; try simp at hc2)) | (with_reducible refine Br_split (fun hc => ?_) (fun hc => ?_) <;> (have hc2 := hc; try simp at hc2)) | (with_reducible refine GdT_split (fun hc => ?_) (fun hc => ?_) <;> (have hc2 := hc; try simp at hc2)) | (with_reducible refine WT_alt ?_ ?_) | omega)
  all_goals
    refine c_take1 hs hn (by simp; omega) fun o g hN => ?_
    have r1 := rb g hN.kept
    have f2 := fin o g hN
    clear fin rb
    repeat' (first | (simp (disch := first | omega | assumption | (simp only [List.length_set]; omega) | (simp [*] <;> fail) | assumption) [-Bool.decide_and, -Bool.decide_or, -Bool.not_and, -Bool.not_or, toNat_pred, toNat_succ, wrap64, wr_new, wr_new0, ok_if, ok_ifn, iadV_sl, makeV_int, decT, decF, over_at, *]) | (with_reducible refine Gd_split (fun hc => ?_) (fun hc => ?_) <;> (have hc2 := hc; try simp at hc2)) | (with_reducible refine Br_split (fun hc => ?_) (fun hc => ?_) <;> (have hc2 := hc; try simp at hc2)) | (with_reducible refine GdT_split (fun hc => ?_) (fun hc => ?_) <;> (have hc2 := hc; try simp at hc2)) | (with_reducible refine WT_alt ?_ ?_) | omega)
theorem c_l01Sum (hA : Arr h l 1 (xs.map fl)) : CallT S true 151 [.lf l] h lim K = K (.lf (.flt .f32 (sumTo32 xs xs.length))) h := by
  have hb := hA.bound
  refine CallT_pure (F := L151) (HasRp.f151) rfl (by first | rfl | (split <;> rfl) | simp) ?_; unfold L151; dsimp only []
  repeat' (first | (simp (disch := first | omega | assumption | (simp only [List.length_set]; omega) | (simp [*] <;> fail) | assumption) [-Bool.decide_and, -Bool.decide_or, -Bool.not_and, -Bool.not_or, toNat_pred, toNat_succ, wrap64, wr_new, wr_new0, ok_if, ok_ifn, iadV_sl, makeV_int, decT, decF, over_at, *, hA.len]) | (with_reducible refine Gd_split (fun hc => ?_) (fun hc => ?_) <;> (have hc2 := hc; try simp at hc2)) | (with_reducible refine Br_split (fun hc => ?_) (fun hc => ?_) <;> (have hc2 := hc; try simp at hc2)) | (with_reducible refine GdT_split (fun hc => ?_) (fun hc => ?_) <;> (have hc2 := hc; try simp at hc2)) | (with_reducible refine WT_alt ?_ ?_) | omega)
  refine WL_forM 131064 (by decide +kernel) (xs.length) (fun i b g => i ≤ xs.length ∧ b 4 = .lf (.int .i64 i) ∧ b 3 = .lf (.flt .f32 (sumTo32 xs i)) ∧ h = g) (fun _ _ _ hi => hi.1) ⟨by omega, by simp, by simp [sumTo32_zero], rfl⟩ ?_
  rintro i b g ⟨hi, e4, e3, rfl⟩
  by_cases hlt : i < xs.length
  · have s1 := sumTo32_succ hlt
    repeat' (first | (simp (disch := first | omega | assumption | (simp only [List.length_set]; omega) | (simp [*] <;> fail) | assumption) [-Bool.decide_and, -Bool.decide_or, -Bool.not_and, -Bool.not_or, toNat_pred, toNat_succ, wrap64, wr_new, wr_new0, ok_if, ok_ifn, iadV_sl, makeV_int, decT, decF, over_at, *, hA.len, hA.at_, hA.at_', hA.rd, hA.rdIn, hA.rdIn0, hA.rdA, hA.rdInA, hA.rdIn0A, hA.rd1, fl]) | (with_reducible refine Gd_split (fun hc => ?_) (fun hc => ?_) <;> (have hc2 := hc; try simp at hc2)) | (with_reducible refine Br_split (fun hc => ?_) (fun hc => ?_) <;> (have hc2 := hc; try simp at hc2)) | (with_reducible refine GdT_split (fun hc => ?_) (fun hc => ?_) <;> (have hc2 := hc; try simp at hc2)) | (with_reducible refine WT_alt ?_ ?_) | omega)
  · have : i = xs.length := by omega
    subst this
    repeat' (first | (simp (disch := first | omega | assumption | (simp only [List.length_set]; omega) | (simp [*] <;> fail) | assumption) [-Bool.decide_and, -Bool.decide_or, -Bool.not_and, -Bool.not_or, toNat_pred, toNat_succ, wrap64, wr_new, wr_new0, ok_if, ok_ifn, iadV_sl, makeV_int, decT, decF, over_at, *, hA.len]) | (with_reducible refine Gd_split (fun hc => ?_) (fun hc => ?_) <;> (have hc2 := hc; try simp at hc2)) | (with_reducible refine Br_split (fun hc => ?_) (fun hc => ?_) <;> (have hc2 := hc; try simp at hc2)) | (with_reducible refine GdT_split (fun hc => ?_) (fun hc => ?_) <;> (have hc2 := hc; try simp at hc2)) | (with_reducible refine WT_alt ?_ ?_) | omega)
theorem c_sumOf (hA : Arr h l 1 (xs.map fl)) : CallT S true 159 [.lf l] h lim K = K (.lf (.flt .f32 (sumTo32 xs xs.length))) h := by
  have hb := hA.bound
  refine CallT_pure (F := L159) (HasRp.f159) rfl (by first | rfl | (split <;> rfl) | simp) ?_; unfold L159; dsimp only []
  repeat' (first | (simp (disch := first | omega | assumption | (simp only [List.length_set]; omega) | (simp [*] <;> fail) | assumption) [-Bool.decide_and, -Bool.decide_or, -Bool.not_and, -Bool.not_or, toNat_pred, toNat_succ, wrap64, wr_new, wr_new0, ok_if, ok_ifn, iadV_sl, makeV_int, decT, decF, over_at, *, hA.len]) | (with_reducible refine Gd_split (fun hc => ?_) (fun hc => ?_) <;> (have hc2 := hc; try simp at hc2)) | (with_reducible refine Br_split (fun hc => ?_) (fun hc => ?_) <;> (have hc2 := hc; try simp at hc2)) | (with_reducible refine GdT_split (fun hc => ?_) (fun hc => ?_) <;> (have hc2 := hc; try simp at hc2)) | (with_reducible refine WT_alt ?_ ?_) | omega)
  refine WL_forM 65320 (by decide +kernel) (xs.length) (fun i b g => i ≤ xs.length ∧ b 8 = .lf (.int .i64 i) ∧ b 3 = .lf (.flt .f32 (sumTo32 xs i)) ∧ h = g) (fun _ _ _ hi => hi.1) ⟨by omega, by simp, by simp [sumTo32_zero], rfl⟩ ?_
  rintro i b g ⟨hi, e4, e3, rfl⟩
  by_cases hlt : i < xs.length
  · have s1 := sumTo32_succ hlt
    repeat' (first | (simp (disch := first | omega | assumption | (simp only [List.length_set]; omega) | (simp [*] <;> fail) | assumption) [-Bool.decide_and, -Bool.decide_or, -Bool.not_and, -Bool.not_or, toNat_pred, toNat_succ, wrap64, wr_new, wr_new0, ok_if, ok_ifn, iadV_sl, makeV_int, decT, decF, over_at, *, hA.len, hA.at_, hA.at_', hA.rd, hA.rdIn, hA.rdIn0, hA.rdA, hA.rdInA, hA.rdIn0A, hA.rd1, fl]) | (with_reducible refine Gd_split (fun hc => ?_) (fun hc => ?_) <;> (have hc2 := hc; try simp at hc2)) | (with_reducible refine Br_split (fun hc => ?_) (fun hc => ?_) <;> (have hc2 := hc; try simp at hc2)) | (with_reducible refine GdT_split (fun hc => ?_) (fun hc => ?_) <;> (have hc2 := hc; try simp at hc2)) | (with_reducible refine WT_alt ?_ ?_) | omega)
  · have : i = xs.length := by omega
    subst this
    repeat' (first | (simp (disch := first | omega | assumption | (simp only [List.length_set]; omega) | (simp [*] <;> fail) | assumption) [-Bool.decide_and, -Bool.decide_or, -Bool.not_and, -Bool.not_or, toNat_pred, toNat_succ, wrap64, wr_new, wr_new0, ok_if, ok_ifn, iadV_sl, makeV_int, decT, decF, over_at, *, hA.len]) | (with_reducible refine Gd_split (fun hc => ?_) (fun hc => ?_) <;> (have hc2 := hc; try simp at hc2)) | (with_reducible refine Br_split (fun hc => ?_) (fun hc => ?_) <;> (have hc2 := hc; try simp at hc2)) | (with_reducible refine GdT_split (fun hc => ?_) (fun hc => ?_) <;> (have hc2 := hc; try simp at hc2)) | (with_reducible refine WT_alt ?_ ?_) | omega)
set_option maxHeartbeats 2000000 in
theorem c_l03Take {g : Hp} (hN : New h g l 22 1 ((b :: r).map fl)) (hn : r.length ≤ 100000) (hl : lim ≤ h.length) (hK : ∀ g', New h g' l 22 1 ((r ++ [x]).map fl) → But g g' l l → K (.tup []) g') : CallT S false 190 [.lf l, .lf (.flt .f32 x)] g lim K := by
  have hA := hN.arr
  refine CallT_of_body (F := L190) (HasRp.f190) rfl ?_; unfold L190; dsimp only []
  repeat' (first | (simp (disch := first | omega | assumption | (simp only [List.length_set]; omega) | (simp [*] <;> fail) | assumption) [-Bool.decide_and, -Bool.decide_or, -Bool.not_and, -Bool.not_or, toNat_pred, toNat_succ, wrap64, wr_new, wr_new0, ok_if, ok_ifn, iadV_sl, makeV_int, decT, decF, over_at, *]) | (with_reducible refine Gd_split (fun hc => ?_) (fun hc => ?_) <;> (have hc2 := hc; try simp at hc2)) | (with_reducible refine Br_split (fun hc => ?_) (fun hc => ?_) <;> (have hc2 := hc; try simp at hc2)) | (with_reducible refine GdT_split (fun hc => ?_) (fun hc => ?_) <;> (have hc2 := hc; try simp at hc2)) | (with_reducible refine WT_alt ?_ ?_) | omega)
  refine WL_forM 524272 (by decide +kernel) (r.length) (fun i b' g' => i ≤ r.length ∧ b' 4 = .lf (.int .i64 (1 + i)) ∧ New h g' l 22 1 ((shTo (b :: r) i).map fl) ∧ Buts g g' [l]) (fun _ _ _ hi => hi.1) ⟨by omega, by simp, by rw [shTo_zero]; exact hN, Buts.refl⟩ ?_
  rintro i b' g' ⟨hi, e4, hM, hB⟩
  have hMA := hM.arr
  have hlen : (shTo (b :: r) i).length = r.length + 1 := by simp
  have hLn := hMA.len
  rw [hlen] at hLn
  by_cases hlt : i < r.length
  · have s1 := shTo_succ (xs := b :: r) (i := i)
    obtain ⟨P, hP⟩ : ∃ P : Nat, i + 1 = P := ⟨_, rfl⟩
    have h1 : P < (shTo (b :: r) i).length := by omega
    have h0 : i < (shTo (b :: r) i).length := by omega
    have hv : (shTo (b :: r) i)[P] = (b :: r).getD P 0 := by rw [shTo_get, if_neg (by omega)]
    have hs1 : shTo (b :: r) P = (shTo (b :: r) i).set i ((b :: r).getD P 0) := by rw [← hP]; exact s1
    have a1 := hMA.at_ (k := .i64) h1
    have d1 := hMA.rd1 h1
    rw [hv] at d1
    generalize (b :: r).getD P 0 = v at *
    have s1H : Hid (shTo (b :: r) P = (shTo (b :: r) i).set i v) := hs1
    have a0 := hMA.at_ (k := .i64) h0
    have e0 : (P : Int) - 1 = i := by omega
    have e1 : (1 : Int) + i = P := by omega
    rw [e1] at e4
    have wr := fun K => oc_wr (lim := lim) (K := K) (i := i) (c := .flt .f32 v) hM (by simpa using h0) hl
    have c1 : (P : Int) < ((r.length + 1 : Nat) : Int) := by omega
    have hP1 : (1 : Int) + ((i + 1 : Nat) : Int) = (P : Int) + 1 := by omega
    have hPs : Hid (i + 1 = P) := hP
    clear hK s1 hs1 hv hP e1
    repeat' (first | (simp (disch := first | omega | assumption | (simp only [List.length_set]; omega) | (simp [*] <;> fail) | assumption) [-Bool.decide_and, -Bool.decide_or, -Bool.not_and, -Bool.not_or, toNat_pred, toNat_succ, wrap64, wr_new, wr_new0, ok_if, ok_ifn, iadV_sl, makeV_int, decT, decF, over_at, *, fl]) | (with_reducible refine Gd_split (fun hc => ?_) (fun hc => ?_) <;> (have hc2 := hc; try simp at hc2)) | (with_reducible refine Br_split (fun hc => ?_) (fun hc => ?_) <;> (have hc2 := hc; try simp at hc2)) | (with_reducible refine GdT_split (fun hc => ?_) (fun hc => ?_) <;> (have hc2 := hc; try simp at hc2)) | (with_reducible refine WT_alt ?_ ?_) | omega)
    refine wr _ fun g3 h3 hB3 => ?_
    rw [fl_set, ← show shTo (b :: r) P = _ from s1H] at h3
    have hB4 := hB.but hB3 (List.mem_singleton.2 rfl)
    clear wr s1H a1 d1 a0 hM hMA hB hB3
    repeat' (first | (simp (disch := first | omega | assumption | (simp only [List.length_set]; omega) | (simp [*] <;> fail) | assumption) [-Bool.decide_and, -Bool.decide_or, -Bool.not_and, -Bool.not_or, toNat_pred, toNat_succ, wrap64, wr_new, wr_new0, ok_if, ok_ifn, iadV_sl, makeV_int, decT, decF, over_at, *]) | (with_reducible refine Gd_split (fun hc => ?_) (fun hc => ?_) <;> (have hc2 := hc; try simp at hc2)) | (with_reducible refine Br_split (fun hc => ?_) (fun hc => ?_) <;> (have hc2 := hc; try simp at hc2)) | (with_reducible refine GdT_split (fun hc => ?_) (fun hc => ?_) <;> (have hc2 := hc; try simp at hc2)) | (with_reducible refine WT_alt ?_ ?_) | omega)
    all_goals (repeat' apply And.intro) <;> first | omega | assumption | (rw [show i + 1 = _ from hPs]; assumption)
  · have : i = r.length := by omega
    subst this
    have h0 : r.length < (shTo (b :: r) r.length).length := by omega
    have a0 := hMA.at_ (k := .i64) h0
    have wr := fun K => oc_wr (lim := lim) (K := K) (i := r.length) (c := .flt .f32 x) hM (by simp) hl
    have c1 : ¬ (1 : Int) + (r.length : Int) < ((r.length + 1 : Nat) : Int) := by omega
    repeat' (first | (simp (disch := first | omega | assumption | (simp only [List.length_set]; omega) | (simp [*] <;> fail) | assumption) [-Bool.decide_and, -Bool.decide_or, -Bool.not_and, -Bool.not_or, toNat_pred, toNat_succ, wrap64, wr_new, wr_new0, ok_if, ok_ifn, iadV_sl, makeV_int, decT, decF, over_at, *, fl]) | (with_reducible refine Gd_split (fun hc => ?_) (fun hc => ?_) <;> (have hc2 := hc; try simp at hc2)) | (with_reducible refine Br_split (fun hc => ?_) (fun hc => ?_) <;> (have hc2 := hc; try simp at hc2)) | (with_reducible refine GdT_split (fun hc => ?_) (fun hc => ?_) <;> (have hc2 := hc; try simp at hc2)) | (with_reducible refine WT_alt ?_ ?_) | omega)
    refine wr _ fun g3 h3 hB3 => ?_
    rw [fl_set, shTo_end] at h3
    have hk2 := hK _ h3 (hB.but hB3 (List.mem_singleton.2 rfl)).one
    clear hK wr
    have hr0 : ∀ (a : Fr) (h : Hp), resV a h [] = some (.tup []) := fun _ _ => rfl
    repeat' (first | (simp (disch := first | omega | assumption | (simp only [List.length_set]; omega) | (simp [*] <;> fail) | assumption) [-Bool.decide_and, -Bool.decide_or, -Bool.not_and, -Bool.not_or, toNat_pred, toNat_succ, wrap64, wr_new, wr_new0, ok_if, ok_ifn, iadV_sl, makeV_int, decT, decF, over_at, *]) | (with_reducible refine Gd_split (fun hc => ?_) (fun hc => ?_) <;> (have hc2 := hc; try simp at hc2)) | (with_reducible refine Br_split (fun hc => ?_) (fun hc => ?_) <;> (have hc2 := hc; try simp at hc2)) | (with_reducible refine GdT_split (fun hc => ?_) (fun hc => ?_) <;> (have hc2 := hc; try simp at hc2)) | (with_reducible refine WT_alt ?_ ?_) | omega)
theorem dly_parts {g : Hp} {id off : Nat} {a1 : Int} {a2 a3 a4 : Nat} {a5 : Bool} (hr : rdCells g id off 5 = some [.int .i64 a1, .flt .f32 a2, .flt .f32 a3, .flt .f32 a4, .bool a5]) : rdCells g id (off + 1) 1 = some [.flt .f32 a2] ∧ rdCells g id (off + 2) 1 = some [.flt .f32 a3] ∧ rdCells g id (off + 3) 1 = some [.flt .f32 a4] ∧ rdCells g id (off + 4) 1 = some [.bool a5] := by
  have r1 := rd_sub hr (j := 1) (m := 1) (by omega)
  have r2 := rd_sub hr (j := 2) (m := 1) (by omega)
  have r3 := rd_sub hr (j := 3) (m := 1) (by omega)
  have r4 := rd_sub hr (j := 4) (m := 1) (by omega)
  simp at r1 r2 r3 r4
  exact ⟨r1, r2, r3, r4⟩
set_option maxHeartbeats 2000000 in
theorem c_l03Delay {g : Hp} {id off : Nat} (hN : New h g l 22 1 ((b :: r).map fl)) (hd : rdCells h id off 5 = some d.cells) (hn : r.length ≤ 100000) (hl : lim ≤ h.length) (hK : ∀ g', New h g' l 22 1 ((r ++ [dlyV d b x]).map fl) → But g g' l l → K (.lf (.flt .f32 (dlyO d b x))) g') : CallT S false 150 [.lf (.ptr id off), .lf l, .lf (.flt .f32 x)] g lim K := by
  obtain ⟨dl, fb, dr, wt, fg⟩ := d
  unfold Dly.cells at hd
  simp only at hd
  unfold dlyV dlyO at hK
  simp only at hK
  have hA := hN.arr
  obtain ⟨r1, r2, r3, r4⟩ := dly_parts (hN.kept.rd hd)
  have hf := fun h lim K => c_l01Flush (S := S) (h := h) (lim := lim) (K := K) (x := fbin .add .f32 x (fbin .mul .f32 fb b)) CF_bin
  have fin : ∀ v, flushIf fg (fbin .add .f32 x (fbin .mul .f32 fb b)) = v → CallT S false 190 [.lf l, .lf (.flt .f32 v)] g lim (fun u g' => u = .tup [] ∧ rdCells g' id (off + 2) 1 = some [.flt .f32 dr] ∧ rdCells g' id (off + 3) 1 = some [.flt .f32 wt] ∧ K (.lf (.flt .f32 (fbin .add .f32 (fbin .mul .f32 dr x) (fbin .mul .f32 wt b)))) g') := fun v hv => by
    refine c_l03Take hN hn hl fun g' h1 h2 => ?_
    obtain ⟨_, q2, q3, _⟩ := dly_parts (h1.kept.rd hd)
    exact ⟨rfl, q2, q3, hK g' (by rw [hv]; exact h1) h2⟩
  clear hK
  cases fg
  · have f1 := fin (fbin .add .f32 x (fbin .mul .f32 fb b)) rfl
    clear fin
    refine CallT_of_body (F := L150) (HasRp.f150) rfl ?_; unfold L150; dsimp only []
    repeat' (first | (simp (disch := first | omega | assumption | (simp only [List.length_set]; omega) | (simp [*] <;> fail) | assumption) [-Bool.decide_and, -Bool.decide_or, -Bool.not_and, -Bool.not_or, toNat_pred, toNat_succ, wrap64, wr_new, wr_new0, ok_if, ok_ifn, iadV_sl, makeV_int, decT, decF, over_at, *, hA.at0, hA.rd0, hA.rd0j, hA.rd0A, hA.rd0jA, fl]) | (with_reducible refine Gd_split (fun hc => ?_) (fun hc => ?_) <;> (have hc2 := hc; try simp at hc2)) | (with_reducible refine Br_split (fun hc => ?_) (fun hc => ?_) <;> (have hc2 := hc; try simp at hc2)) | (with_reducible refine GdT_split (fun hc => ?_) (fun hc => ?_) <;> (have hc2 := hc; try simp at hc2)) | (with_reducible refine WT_alt ?_ ?_) | omega)
    refine CallT.mono ?_ f1
    rintro u g' ⟨rfl, q2, q3, hk⟩
    repeat' (first | (simp (disch := first | omega | assumption | (simp only [List.length_set]; omega) | (simp [*] <;> fail) | assumption) [-Bool.decide_and, -Bool.decide_or, -Bool.not_and, -Bool.not_or, toNat_pred, toNat_succ, wrap64, wr_new, wr_new0, ok_if, ok_ifn, iadV_sl, makeV_int, decT, decF, over_at, *]) | (with_reducible refine Gd_split (fun hc => ?_) (fun hc => ?_) <;> (have hc2 := hc; try simp at hc2)) | (with_reducible refine Br_split (fun hc => ?_) (fun hc => ?_) <;> (have hc2 := hc; try simp at hc2)) | (with_reducible refine GdT_split (fun hc => ?_) (fun hc => ?_) <;> (have hc2 := hc; try simp at hc2)) | (with_reducible refine WT_alt ?_ ?_) | omega)
  · have f1 := fin (flushF (fbin .add .f32 x (fbin .mul .f32 fb b))) rfl
    clear fin
    generalize flushF (fbin .add .f32 x (fbin .mul .f32 fb b)) = v at *
    refine CallT_of_body (F := L150) (HasRp.f150) rfl ?_; unfold L150; dsimp only []
    repeat' (first | (simp (disch := first | omega | assumption | (simp only [List.length_set]; omega) | (simp [*] <;> fail) | assumption) [-Bool.decide_and, -Bool.decide_or, -Bool.not_and, -Bool.not_or, toNat_pred, toNat_succ, wrap64, wr_new, wr_new0, ok_if, ok_ifn, iadV_sl, makeV_int, decT, decF, over_at, *, hA.at0, hA.rd0, hA.rd0j, hA.rd0A, hA.rd0jA, fl]) | (with_reducible refine Gd_split (fun hc => ?_) (fun hc => ?_) <;> (have hc2 := hc; try simp at hc2)) | (with_reducible refine Br_split (fun hc => ?_) (fun hc => ?_) <;> (have hc2 := hc; try simp at hc2)) | (with_reducible refine GdT_split (fun hc => ?_) (fun hc => ?_) <;> (have hc2 := hc; try simp at hc2)) | (with_reducible refine WT_alt ?_ ?_) | omega)
    refine CallT.mono ?_ f1
    rintro u g' ⟨rfl, q2, q3, hk⟩
    repeat' (first | (simp (disch := first | omega | assumption | (simp only [List.length_set]; omega) | (simp [*] <;> fail) | assumption) [-Bool.decide_and, -Bool.decide_or, -Bool.not_and, -Bool.not_or, toNat_pred, toNat_succ, wrap64, wr_new, wr_new0, ok_if, ok_ifn, iadV_sl, makeV_int, decT, decF, over_at, *]) | (with_reducible refine Gd_split (fun hc => ?_) (fun hc => ?_) <;> (have hc2 := hc; try simp at hc2)) | (with_reducible refine Br_split (fun hc => ?_) (fun hc => ?_) <;> (have hc2 := hc; try simp at hc2)) | (with_reducible refine GdT_split (fun hc => ?_) (fun hc => ?_) <;> (have hc2 := hc; try simp at hc2)) | (with_reducible refine WT_alt ?_ ?_) | omega)
set_option maxHeartbeats 2000000 in
theorem c_l03Pass {g : Hp} {id off : Nat} (hN : New h g l 22 1 ((b :: r).map fl)) (hd : rdCells h id off 2 = some p.cells) (hn : r.length ≤ 100000) (hl : lim ≤ h.length) (hK : ∀ g', New h g' l 22 1 ((r ++ [pasV p b x]).map fl) → But g g' l l → K (.lf (.flt .f32 (pasO p b x))) g') : CallT S false 152 [.lf (.ptr id off), .lf l, .lf (.flt .f32 x)] g lim K := by
  obtain ⟨pl, pg⟩ := p
  unfold Pas.cells at hd
  simp only at hd
  unfold pasO pasV at hK
  simp only at hK
  have hA := hN.arr
  have r1 : rdCells g id (off + 1) 1 = some [.flt .f32 pg] := by have := rd_sub (hN.kept.rd hd) (j := 1) (m := 1) (by omega); simpa using this
  have f1 : CallT S false 190 [.lf l, .lf (.flt .f32 (fbin .add .f32 x (fbin .mul .f32 pg b)))] g lim (fun u g' => u = .tup [] ∧ rdCells g' id (off + 1) 1 = some [.flt .f32 pg] ∧ K (.lf (.flt .f32 (fbin .sub .f32 b (fbin .mul .f32 pg (fbin .add .f32 x (fbin .mul .f32 pg b)))))) g') := by
    refine c_l03Take hN hn hl fun g' h1 h2 => ?_
    exact ⟨rfl, by have := rd_sub (h1.kept.rd hd) (j := 1) (m := 1) (by omega); simpa using this, hK g' h1 h2⟩
  clear hK
  refine CallT_of_body (F := L152) (HasRp.f152) rfl ?_; unfold L152; dsimp only []
  repeat' (first | (simp (disch := first | omega | assumption | (simp only [List.length_set]; omega) | (simp [*] <;> fail) | assumption) [-Bool.decide_and, -Bool.decide_or, -Bool.not_and, -Bool.not_or, toNat_pred, toNat_succ, wrap64, wr_new, wr_new0, ok_if, ok_ifn, iadV_sl, makeV_int, decT, decF, over_at, *, hA.at0, hA.rd0, hA.rd0j, hA.rd0A, hA.rd0jA, fl]) | (with_reducible refine Gd_split (fun hc => ?_) (fun hc => ?_) <;> (have hc2 := hc; try simp at hc2)) | (with_reducible refine Br_split (fun hc => ?_) (fun hc => ?_) <;> (have hc2 := hc; try simp at hc2)) | (with_reducible refine GdT_split (fun hc => ?_) (fun hc => ?_) <;> (have hc2 := hc; try simp at hc2)) | (with_reducible refine WT_alt ?_ ?_) | omega)
  refine CallT.mono ?_ f1
  rintro u g' ⟨rfl, q2, hk⟩
  repeat' (first | (simp (disch := first | omega | assumption | (simp only [List.length_set]; omega) | (simp [*] <;> fail) | assumption) [-Bool.decide_and, -Bool.decide_or, -Bool.not_and, -Bool.not_or, toNat_pred, toNat_succ, wrap64, wr_new, wr_new0, ok_if, ok_ifn, iadV_sl, makeV_int, decT, decF, over_at, *]) | (with_reducible refine Gd_split (fun hc => ?_) (fun hc => ?_) <;> (have hc2 := hc; try simp at hc2)) | (with_reducible refine Br_split (fun hc => ?_) (fun hc => ?_) <;> (have hc2 := hc; try simp at hc2)) | (with_reducible refine GdT_split (fun hc => ?_) (fun hc => ?_) <;> (have hc2 := hc; try simp at hc2)) | (with_reducible refine WT_alt ?_ ?_) | omega)
end
end Go.E
