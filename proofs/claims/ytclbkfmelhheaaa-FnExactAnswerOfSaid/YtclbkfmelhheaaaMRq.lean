/- What a room makes of samples, both sides. -/
import Derived.Test.YtclbkfmelhheaaaMRp
import Derived.Test.YtclbkfmelhheaaaMSs
import Derived.Test.YtclbkfmelhheaaaMP
set_option linter.unusedVariables false
set_option linter.unusedSimpArgs false
namespace Go.E
open Go
def L87 : LFn := ⟨3, (.seq (.reg [⟨(.some 6), (.mv (.c (.lf (.flt .f32 0)))), none⟩])
 (.seq (.reg [⟨(.some 11), (.lit 22 1 0 [] []), none⟩, ⟨(.some 7), (.mv (.t 11)), none⟩])
 (.seq (.seq (.reg [⟨(.some 12), (.mv (.t 0)), none⟩, ⟨(.some 13), (.nilck (.t 12)), none⟩, ⟨(.some 14), (.faddr 0 (.t 13)), none⟩, ⟨(.some 15), (.load false 1 (.t 14)), none⟩, ⟨(.some 16), (.len (.t 15)), none⟩, ⟨(.some 17), (.mv (.c (.lf (.int .i64 0)))), none⟩])
 (.block 0 (.loop (.seq (.reg [⟨(.some 18), (.bin .lss (.t 17) (.t 16)), none⟩])
 (.seq (.cond (.t 18) .skip (.exit 0))
 (.seq (.block 1 (.seq (.reg [⟨(.some 19), (.mv (.t 17)), none⟩, ⟨(.some 8), (.mv (.t 19)), none⟩])
 (.reg [⟨(.some 20), (.mv (.t 7)), none⟩, ⟨(.some 21), (.mv (.t 0)), none⟩, ⟨(.some 22), (.nilck (.t 21)), none⟩, ⟨(.some 23), (.faddr 0 (.t 22)), none⟩, ⟨(.some 24), (.load false 1 (.t 23)), none⟩, ⟨(.some 25), (.mv (.t 8)), none⟩, ⟨(.some 26), (.iaddr 5 (.t 24) (.t 25)), none⟩, ⟨(.some 27), (.mv (.t 1)), none⟩, ⟨(.some 28), (.mv (.t 8)), none⟩, ⟨(.some 29), (.iaddr 1 (.t 27) (.t 28)), none⟩, ⟨(.some 30), (.load false 1 (.t 29)), none⟩, ⟨(.some 31), (.mv (.t 2)), none⟩, ⟨(.some 32), (.call false 150 [(.t 26), (.t 30), (.t 31)]), none⟩, ⟨(.some 33), (.lit 22 1 1 [(.flt .f32 0)] [(0, (1, (.t 32)))]), none⟩, ⟨(.some 34), (.app 22 1 4 (.t 20) (.t 33)), none⟩, ⟨(.some 7), (.mv (.t 34)), none⟩])))
 (.reg [⟨(.some 35), (.bin .add (.t 17) (.c (.lf (.int .i64 1)))), none⟩, ⟨(.some 17), (.mv (.t 35)), none⟩])))))))
 (.seq (.reg [⟨(.some 36), (.mv (.t 7)), none⟩, ⟨(.some 37), (.call true 151 [(.t 36)]), none⟩, ⟨(.some 9), (.mv (.t 37)), none⟩])
 (.seq (.seq (.reg [⟨(.some 38), (.mv (.t 0)), none⟩, ⟨(.some 39), (.nilck (.t 38)), none⟩, ⟨(.some 40), (.faddr 1 (.t 39)), none⟩, ⟨(.some 41), (.load false 1 (.t 40)), none⟩, ⟨(.some 42), (.len (.t 41)), none⟩, ⟨(.some 43), (.mv (.c (.lf (.int .i64 0)))), none⟩])
 (.block 2 (.loop (.seq (.reg [⟨(.some 44), (.bin .lss (.t 43) (.t 42)), none⟩])
 (.seq (.cond (.t 44) .skip (.exit 2))
 (.seq (.block 3 (.seq (.reg [⟨(.some 45), (.mv (.t 43)), none⟩, ⟨(.some 10), (.mv (.t 45)), none⟩])
 (.reg [⟨(.some 46), (.mv (.t 0)), none⟩, ⟨(.some 47), (.nilck (.t 46)), none⟩, ⟨(.some 48), (.faddr 1 (.t 47)), none⟩, ⟨(.some 49), (.load false 1 (.t 48)), none⟩, ⟨(.some 50), (.mv (.t 10)), none⟩, ⟨(.some 51), (.iaddr 2 (.t 49) (.t 50)), none⟩, ⟨(.some 52), (.mv (.t 1)), none⟩, ⟨(.some 53), (.mv (.t 0)), none⟩, ⟨(.some 54), (.nilck (.t 53)), none⟩, ⟨(.some 55), (.faddr 0 (.t 54)), none⟩, ⟨(.some 56), (.load false 1 (.t 55)), none⟩, ⟨(.some 57), (.len (.t 56)), none⟩, ⟨(.some 58), (.mv (.t 10)), none⟩, ⟨(.some 59), (.bin .add (.t 57) (.t 58)), none⟩, ⟨(.some 60), (.iaddr 1 (.t 52) (.t 59)), none⟩, ⟨(.some 61), (.load false 1 (.t 60)), none⟩, ⟨(.some 62), (.mv (.t 9)), none⟩, ⟨(.some 63), (.call false 152 [(.t 51), (.t 61), (.t 62)]), none⟩, ⟨(.some 9), (.mv (.t 63)), none⟩])))
 (.reg [⟨(.some 64), (.bin .add (.t 43) (.c (.lf (.int .i64 1)))), none⟩, ⟨(.some 43), (.mv (.t 64)), none⟩])))))))
 (.seq (.reg [⟨(.some 65), (.mv (.t 0)), none⟩, ⟨(.some 66), (.nilck (.t 65)), none⟩, ⟨(.some 67), (.faddr 2 (.t 66)), none⟩, ⟨(.some 68), (.load false 1 (.t 67)), none⟩, ⟨(.some 69), (.mv (.t 2)), none⟩, ⟨(.some 70), (.bin .mul (.t 68) (.t 69)), none⟩, ⟨(.some 71), (.mv (.t 0)), none⟩, ⟨(.some 72), (.nilck (.t 71)), none⟩, ⟨(.some 73), (.faddr 3 (.t 72)), none⟩, ⟨(.some 74), (.load false 1 (.t 73)), none⟩, ⟨(.some 75), (.mv (.t 9)), none⟩, ⟨(.some 76), (.bin .mul (.t 74) (.t 75)), none⟩, ⟨(.some 77), (.bin .add (.t 70) (.t 76)), none⟩, ⟨(.some 6), (.mv (.t 77)), none⟩])
 .ret)))))), [(.tmp 6)]⟩
def L92 : LFn := ⟨3, (.seq (.reg [⟨(.some 3), (.box 59 (.t 0)), none⟩, ⟨(.some 6), (.mv (.c (.lf .nils))), none⟩, ⟨(.some 7), (.mv (.c (.lf .nils))), none⟩])
 (.seq (.reg [⟨(.some 8), (.mv (.c (.lf .nils))), none⟩])
 (.seq (.seq (.reg [⟨(.some 23), (.mv (.t 1)), none⟩, ⟨(.some 24), (.len (.t 23)), none⟩, ⟨(.some 25), (.mv (.c (.lf (.int .i64 0)))), none⟩])
 (.block 0 (.loop (.seq (.reg [⟨(.some 26), (.bin .lss (.t 25) (.t 24)), none⟩])
 (.seq (.cond (.t 26) .skip (.exit 0))
 (.seq (.block 1 (.seq (.reg [⟨(.some 27), (.iaddr 1 (.t 23) (.t 25)), none⟩, ⟨(.some 28), (.load false 1 (.t 27)), none⟩, ⟨(.some 10), (.mv (.t 28)), none⟩])
 (.reg [⟨(.some 29), (.mv (.t 8)), none⟩, ⟨(.some 30), (.mv (.t 10)), none⟩, ⟨(.some 31), (.call false 157 [(.t 30)]), none⟩, ⟨(.some 32), (.lit 27 1 1 [.nils] [(0, (1, (.t 31)))]), none⟩, ⟨(.some 33), (.app 27 1 24 (.t 29) (.t 32)), none⟩, ⟨(.some 8), (.mv (.t 33)), none⟩])))
 (.reg [⟨(.some 34), (.bin .add (.t 25) (.c (.lf (.int .i64 1)))), none⟩, ⟨(.some 25), (.mv (.t 34)), none⟩])))))))
 (.seq (.reg [⟨(.some 11), (.mv (.c (.lf .nils))), none⟩])
 (.seq (.seq (.reg [⟨(.some 35), (.mv (.t 2)), none⟩, ⟨(.some 36), (.len (.t 35)), none⟩, ⟨(.some 37), (.mv (.c (.lf (.int .i64 0)))), none⟩])
 (.block 2 (.loop (.seq (.reg [⟨(.some 38), (.bin .lss (.t 37) (.t 36)), none⟩])
 (.seq (.cond (.t 38) .skip (.exit 2))
 (.seq (.block 3 (.seq (.reg [⟨(.some 39), (.iaddr 1 (.t 35) (.t 37)), none⟩, ⟨(.some 40), (.load false 1 (.t 39)), none⟩, ⟨(.some 13), (.mv (.t 40)), none⟩])
 (.seq (.reg [⟨(.some 14), (.mv (.c (.lf .nils))), none⟩])
 (.seq (.seq (.reg [⟨(.some 41), (.faddr 0 (.t 3)), none⟩, ⟨(.some 42), (.load false 1 (.t 41)), none⟩, ⟨(.some 43), (.len (.t 42)), none⟩, ⟨(.some 44), (.mv (.c (.lf (.int .i64 0)))), none⟩])
 (.block 4 (.loop (.seq (.reg [⟨(.some 45), (.bin .lss (.t 44) (.t 43)), none⟩])
 (.seq (.cond (.t 45) .skip (.exit 4))
 (.seq (.block 5 (.seq (.reg [⟨(.some 46), (.mv (.t 44)), none⟩, ⟨(.some 47), (.iaddr 5 (.t 42) (.t 44)), none⟩, ⟨(.some 48), (.load true 5 (.t 47)), none⟩, ⟨(.some 16), (.alloc 197 [(.int .i64 0), (.flt .f32 0), (.flt .f32 0), (.flt .f32 0), (.bool false)]), none⟩, ⟨(.some 15), (.mv (.t 46)), none⟩, ⟨none, (.store 5 (.t 16) (.t 48)), none⟩])
 (.seq (.reg [⟨(.some 50), (.load true 5 (.t 16)), none⟩, ⟨(.some 51), (.mv (.t 8)), none⟩, ⟨(.some 52), (.mv (.t 15)), none⟩, ⟨(.some 53), (.iaddr 1 (.t 51) (.t 52)), none⟩, ⟨(.some 54), (.load false 1 (.t 53)), none⟩, ⟨(.some 55), (.mv (.t 13)), none⟩, ⟨(.some 56), (.call false 158 [(.t 50), (.t 54), (.t 55)]), none⟩, ⟨(.some 49), (.mv (.t 56)), none⟩, ⟨(.some 57), (.ext (.t 49) 0), none⟩, ⟨(.some 58), (.ext (.t 49) 1), none⟩, ⟨(.some 17), (.mv (.t 57)), none⟩, ⟨(.some 18), (.mv (.t 58)), none⟩])
 (.seq (.reg [⟨(.some 59), (.mv (.t 8)), none⟩, ⟨(.some 60), (.mv (.t 15)), none⟩, ⟨(.some 61), (.mv (.t 18)), none⟩, ⟨(.some 62), (.iaddr 1 (.t 59) (.t 60)), none⟩, ⟨none, (.store 1 (.t 62) (.t 61)), none⟩])
 (.reg [⟨(.some 63), (.mv (.t 14)), none⟩, ⟨(.some 64), (.mv (.t 17)), none⟩, ⟨(.some 65), (.lit 22 1 1 [(.flt .f32 0)] [(0, (1, (.t 64)))]), none⟩, ⟨(.some 66), (.app 22 1 4 (.t 63) (.t 65)), none⟩, ⟨(.some 14), (.mv (.t 66)), none⟩])))))
 (.reg [⟨(.some 67), (.bin .add (.t 44) (.c (.lf (.int .i64 1)))), none⟩, ⟨(.some 44), (.mv (.t 67)), none⟩])))))))
 (.seq (.reg [⟨(.some 68), (.mv (.t 14)), none⟩, ⟨(.some 69), (.call true 159 [(.t 68)]), none⟩, ⟨(.some 19), (.mv (.t 69)), none⟩])
 (.seq (.seq (.reg [⟨(.some 70), (.faddr 1 (.t 3)), none⟩, ⟨(.some 71), (.load false 1 (.t 70)), none⟩, ⟨(.some 72), (.len (.t 71)), none⟩, ⟨(.some 73), (.mv (.c (.lf (.int .i64 0)))), none⟩])
 (.block 6 (.loop (.seq (.reg [⟨(.some 74), (.bin .lss (.t 73) (.t 72)), none⟩])
 (.seq (.cond (.t 74) .skip (.exit 6))
 (.seq (.block 7 (.seq (.reg [⟨(.some 75), (.mv (.t 73)), none⟩, ⟨(.some 76), (.iaddr 2 (.t 71) (.t 73)), none⟩, ⟨(.some 77), (.load true 2 (.t 76)), none⟩, ⟨(.some 21), (.alloc 199 [(.int .i64 0), (.flt .f32 0)]), none⟩, ⟨(.some 20), (.mv (.t 75)), none⟩, ⟨none, (.store 2 (.t 21) (.t 77)), none⟩])
 (.seq (.reg [⟨(.some 78), (.faddr 0 (.t 3)), none⟩, ⟨(.some 79), (.load false 1 (.t 78)), none⟩, ⟨(.some 80), (.len (.t 79)), none⟩, ⟨(.some 81), (.mv (.t 20)), none⟩, ⟨(.some 82), (.bin .add (.t 80) (.t 81)), none⟩, ⟨(.some 22), (.mv (.t 82)), none⟩])
 (.reg [⟨(.some 84), (.mv (.t 8)), none⟩, ⟨(.some 85), (.mv (.t 22)), none⟩, ⟨(.some 86), (.load true 2 (.t 21)), none⟩, ⟨(.some 87), (.mv (.t 8)), none⟩, ⟨(.some 88), (.mv (.t 22)), none⟩, ⟨(.some 89), (.iaddr 1 (.t 87) (.t 88)), none⟩, ⟨(.some 90), (.load false 1 (.t 89)), none⟩, ⟨(.some 91), (.mv (.t 19)), none⟩, ⟨(.some 92), (.call false 160 [(.t 86), (.t 90), (.t 91)]), none⟩, ⟨(.some 83), (.mv (.t 92)), none⟩, ⟨(.some 93), (.ext (.t 83) 0), none⟩, ⟨(.some 94), (.ext (.t 83) 1), none⟩, ⟨(.some 19), (.mv (.t 93)), none⟩, ⟨(.some 95), (.iaddr 1 (.t 84) (.t 85)), none⟩, ⟨none, (.store 1 (.t 95) (.t 94)), none⟩]))))
 (.reg [⟨(.some 96), (.bin .add (.t 73) (.c (.lf (.int .i64 1)))), none⟩, ⟨(.some 73), (.mv (.t 96)), none⟩])))))))
 (.reg [⟨(.some 97), (.mv (.t 11)), none⟩, ⟨(.some 98), (.faddr 2 (.t 3)), none⟩, ⟨(.some 99), (.load false 1 (.t 98)), none⟩, ⟨(.some 100), (.mv (.t 13)), none⟩, ⟨(.some 101), (.bin .mul (.t 99) (.t 100)), none⟩, ⟨(.some 102), (.faddr 3 (.t 3)), none⟩, ⟨(.some 103), (.load false 1 (.t 102)), none⟩, ⟨(.some 104), (.mv (.t 19)), none⟩, ⟨(.some 105), (.bin .mul (.t 103) (.t 104)), none⟩, ⟨(.some 106), (.bin .add (.t 101) (.t 105)), none⟩, ⟨(.some 107), (.lit 22 1 1 [(.flt .f32 0)] [(0, (1, (.t 106)))]), none⟩, ⟨(.some 108), (.app 22 1 4 (.t 97) (.t 107)), none⟩, ⟨(.some 11), (.mv (.t 108)), none⟩])))))))
 (.reg [⟨(.some 109), (.bin .add (.t 37) (.c (.lf (.int .i64 1)))), none⟩, ⟨(.some 37), (.mv (.t 109)), none⟩])))))))
 (.seq (.reg [⟨(.some 110), (.mv (.t 11)), none⟩, ⟨(.some 111), (.mv (.t 8)), none⟩, ⟨(.some 6), (.mv (.t 110)), none⟩, ⟨(.some 7), (.mv (.t 111)), none⟩])
 .ret)))))), [(.tmp 6), (.tmp 7)]⟩
def L114 : LFn := ⟨1, (.seq (.reg [⟨(.some 2), (.mv (.c (.lf .nils))), none⟩])
 (.seq (.reg [⟨(.some 3), (.lit 22 1 0 [] []), none⟩, ⟨(.some 4), (.mv (.t 0)), none⟩, ⟨(.some 5), (.app 22 1 4 (.t 3) (.t 4)), none⟩, ⟨(.some 2), (.mv (.t 5)), none⟩])
 .ret)), [(.tmp 2)]⟩
class HasRq (S : Sys) : Prop extends HasRp S where
  f87 : S.fs 87 = some L87
  f92 : S.fs 92 = some L92
  f114 : S.fs 114 = some L114
/-- A room. -/
structure Rm where
  ds : List Dly
  qs : List Pas
  dry : Nat
  wet : Nat
def Rm.cells (R : Rm) (l l2 : Lf) : List Lf := [l, l2, .flt .f32 R.dry, .flt .f32 R.wet]
def lineN (line : List Nat) (v : Nat) : List Nat := line.drop 1 ++ [v]
/-- The first i delays. -/
def cmbTo (ds : List Dly) (x : Nat) (ls : List (List Nat)) : Nat → List (List Nat) × List Nat
  | 0 => (ls, [])
  | i + 1 => match ds[i]?, (cmbTo ds x ls i).1[i]? with
    | some d, some (b :: r) => ((cmbTo ds x ls i).1.set i (r ++ [dlyV d b x]), (cmbTo ds x ls i).2 ++ [dlyO d b x])
    | _, _ => cmbTo ds x ls i
theorem cmbTo_succ {ds : List Dly} {x : Nat} {ls : List (List Nat)} {i b : Nat} {r : List Nat} (hi : i < ds.length) (hl : (cmbTo ds x ls i).1[i]? = some (b :: r)) : cmbTo ds x ls (i + 1) = ((cmbTo ds x ls i).1.set i (r ++ [dlyV ds[i] b x]), (cmbTo ds x ls i).2 ++ [dlyO ds[i] b x]) := by
  simp only [cmbTo, List.getElem?_eq_getElem hi, hl]
/-- The first i passes, behind n delays. -/
def pssTo (qs : List Pas) (n : Nat) (st : List (List Nat) × Nat) : Nat → List (List Nat) × Nat
  | 0 => st
  | i + 1 => match qs[i]?, (pssTo qs n st i).1[n + i]? with
    | some q, some (b :: r) => ((pssTo qs n st i).1.set (n + i) (r ++ [pasV q b (pssTo qs n st i).2]), pasO q b (pssTo qs n st i).2)
    | _, _ => pssTo qs n st i
theorem pssTo_succ {qs : List Pas} {n : Nat} {st : List (List Nat) × Nat} {i b : Nat} {r : List Nat} (hi : i < qs.length) (hl : (pssTo qs n st i).1[n + i]? = some (b :: r)) : pssTo qs n st (i + 1) = ((pssTo qs n st i).1.set (n + i) (r ++ [pasV qs[i] b (pssTo qs n st i).2]), pasO qs[i] b (pssTo qs n st i).2) := by
  simp only [pssTo, List.getElem?_eq_getElem hi, hl]
/-- Lists as long as those. -/
def sameL (a b : List (List Nat)) : Prop := a.length = b.length ∧ ∀ (i : Nat) (x y : List Nat), a[i]? = some x → b[i]? = some y → x.length = y.length
theorem sameL.refl {a : List (List Nat)} : sameL a a := ⟨rfl, fun i x y h1 h2 => by rw [h1] at h2; injection h2 with h2; rw [h2]⟩
theorem sameL.set {a c : List (List Nat)} {i b v : Nat} {r : List Nat} (h : sameL a c) (hl : a[i]? = some (b :: r)) : sameL (a.set i (r ++ [v])) c := by
  refine ⟨by rw [List.length_set]; exact h.1, fun j x y h1 h2 => ?_⟩
  rw [List.getElem?_set] at h1
  split at h1
  · rename_i e
    subst e
    split at h1
    · injection h1 with h1
      subst h1
      have := h.2 i _ _ hl h2
      simpa using this
    · cases h1
  · exact h.2 j x y h1 h2
theorem cmb_same {ds : List Dly} {x : Nat} {ls : List (List Nat)} : ∀ {i : Nat}, sameL (cmbTo ds x ls i).1 ls
  | 0 => .refl
  | i + 1 => by
    have ih := cmb_same (ds := ds) (x := x) (ls := ls) (i := i)
    simp only [cmbTo]
    split
    · rename_i d b r h1 h2
      exact ih.set h2
    · exact ih
theorem pss_same {qs : List Pas} {n : Nat} {st : List (List Nat) × Nat} : ∀ {i : Nat}, sameL (pssTo qs n st i).1 st.1
  | 0 => .refl
  | i + 1 => by
    have ih := pss_same (qs := qs) (n := n) (st := st) (i := i)
    simp only [pssTo]
    split
    · rename_i d b r h1 h2
      exact ih.set h2
    · exact ih
theorem sameL.trans {a b c : List (List Nat)} (h1 : sameL a b) (h2 : sameL b c) : sameL a c := ⟨h1.1.trans h2.1, fun i x y q1 q2 => by
  have hb : i < b.length := by rw [← h1.1]; exact (List.getElem?_eq_some_iff.1 q1).1
  have q3 := List.getElem?_eq_getElem hb
  rw [h1.2 i _ _ q1 q3, h2.2 i _ _ q3 q2]⟩
theorem cmb_outs {ds : List Dly} {x : Nat} {ls : List (List Nat)} : ∀ {i : Nat}, (cmbTo ds x ls i).2.length ≤ i
  | 0 => by simp [cmbTo]
  | i + 1 => by
    have ih := cmb_outs (ds := ds) (x := x) (ls := ls) (i := i)
    simp only [cmbTo]
    split
    · simp; omega
    · omega
/-- One sample. -/
def roomS (R : Rm) (ls : List (List Nat)) (x : Nat) : Nat × List (List Nat) :=
  let c := cmbTo R.ds x ls R.ds.length
  let p := pssTo R.qs R.ds.length (c.1, sumTo32 c.2 c.2.length) R.qs.length
  (fbin .add .f32 (fbin .mul .f32 R.dry x) (fbin .mul .f32 R.wet p.2), p.1)
theorem room_same {R : Rm} {ls : List (List Nat)} {x : Nat} : sameL (roomS R ls x).2 ls := by
  unfold roomS
  exact (pss_same).trans cmb_same
def rmTo (R : Rm) (ls : List (List Nat)) (xs : List Nat) : Nat → List Nat × List (List Nat)
  | 0 => ([], ls)
  | i + 1 => ((rmTo R ls xs i).1 ++ [(roomS R (rmTo R ls xs i).2 (xs.getD i 0)).1], (roomS R (rmTo R ls xs i).2 (xs.getD i 0)).2)
theorem rmTo_same {R : Rm} {ls : List (List Nat)} {xs : List Nat} : ∀ {i : Nat}, sameL (rmTo R ls xs i).2 ls
  | 0 => .refl
  | i + 1 => room_same.trans rmTo_same
theorem rmTo_len {R : Rm} {ls : List (List Nat)} {xs : List Nat} : ∀ {i : Nat}, (rmTo R ls xs i).1.length = i
  | 0 => rfl
  | i + 1 => by simp [rmTo, rmTo_len (i := i)]
/-- Lines of a room: none is empty, none long. -/
def linesOk (n : Nat) (ls : List (List Nat)) : Prop := ls.length = n ∧ ∀ s ∈ ls, 0 < s.length ∧ s.length ≤ 64
theorem linesOk.same {n : Nat} {a b : List (List Nat)} (h : linesOk n b) (hs : sameL a b) : linesOk n a := by
  refine ⟨by rw [hs.1]; exact h.1, fun s hm => ?_⟩
  obtain ⟨i, hi, e⟩ := List.mem_iff_getElem.1 hm
  have hb : i < b.length := by rw [← hs.1]; exact hi
  have := hs.2 i s b[i] (by rw [← e]; exact List.getElem?_eq_getElem hi) (List.getElem?_eq_getElem hb)
  rw [this]
  exact h.2 _ (List.getElem_mem hb)
theorem linesOk.get {n : Nat} {a : List (List Nat)} (h : linesOk n a) {i : Nat} (hi : i < n) : ∃ b r, a[i]? = some (b :: r) ∧ r.length ≤ 64 := by
  have hi2 : i < a.length := by rw [h.1]; exact hi
  have h1 := h.2 _ (List.getElem_mem hi2)
  rw [List.getElem?_eq_getElem hi2]
  rcases hq : a[i] with _ | ⟨b, r⟩
  · rw [hq] at h1; simp at h1
  · rw [hq] at h1
    exact ⟨b, r, rfl, by simp at h1; omega⟩
section
variable {α : Type} {ro : α → List Nat} {ce : α × Lf → List Lf} {ps : List (α × Lf)} {h g : Hp} {l : Lf} {ty fty lim : Nat}
/-- Another slice is put into an element. -/
theorem NewD.repl {i : Nat} {a : α} {s : Lf} {K : CV → Hp → Prop} (hD : NewD h g l ty 1 ce ro fty ps) (hi : i < ps.length) (hS : New h g s fty 1 ((ro a).map fl)) (hf0 : Far l s) (hf : ∀ p ∈ ps, Far p.2 s) (hc : ce (a, s) = [s]) (hl : lim ≤ h.length)
    (hK : ∀ g', NewD h g' l ty 1 ce ro fty (ps.set i (a, s)) → But g g' l l → K un g') : oc ((wrCells lim g l.id (l.off + i) [s]).map fun h' => (un, h')) K := by
  refine oc_wr (i := i) hD.out (by simpa using hi) hl fun g' hN hB => ?_
  have hlo : l ≠ .nils → h.length ≤ l.id := fun q => (hD.out.lt q).1
  refine hK g' ⟨?_, fun p hp => ?_, ?_, fun p hp => ?_⟩ hB
  · rw [List.map_set, hc]; exact hN
  · rcases List.mem_or_eq_of_mem_set hp with hp | hp
    · exact hB.new (hD.inn p hp) hlo fun q1 q2 => (hD.faro p hp q1 q2).symm
    · rw [hp]; exact hB.new hS hlo fun q1 q2 => (hf0 q1 q2).symm
  · rw [List.pairwise_iff_getElem]
    intro i1 j1 hi1 hj1 hlt
    rw [List.length_set] at hi1 hj1
    rw [List.getElem_set, List.getElem_set]
    split
    · split
      · omega
      · exact (hf _ (List.getElem_mem hj1)).symm
    · split
      · exact hf _ (List.getElem_mem hi1)
      · exact hD.apart hi1 hj1 (by omega)
  · rcases List.mem_or_eq_of_mem_set hp with hp | hp
    · exact hD.faro p hp
    · rw [hp]; exact hf0
end
theorem map_setD {α : Type} {ps : List (α × Lf)} {i : Nat} {a : α} {s : Lf} : (ps.set i (a, s)).map (·.1) = (ps.map (·.1)).set i a := by rw [List.map_set]
theorem Buts.fresh {g g' g2 : Hp} {L : List Lf} {o o' : Lf} (hB : Buts g g' L) (b : But g' g2 o o') (ho : o ≠ .nils → g.length ≤ o.id) : Buts g g2 L :=
  ⟨Nat.le_trans hB.len b.len, fun id hid hne => by
    rw [b.same id (Nat.lt_of_lt_of_le hid hB.len) (fun q => by have := ho q; omega), hB.same id hid hne]⟩
theorem lvs_set {α : Type} {ps : List (α × Lf)} {l : Lf} {i : Nat} {a : α} (hi : i < ps.length) : lvs l (ps.set i (a, ps[i].2)) = lvs l ps := by
  unfold lvs
  congr 1
  apply List.ext_getElem
  · simp
  · intro j h1 h2
    simp only [List.getElem_map, List.getElem_set]
    split
    · rename_i e; subst e; rfl
    · rfl
section
variable {S : Sys} {lim : Nat} {h : Hp} {K : CV → Hp → Prop} [HasRq S] {l l2 sg : Lf} {R : Rm} {rs : List (List Nat × Lf)} {x : Nat}
set_option maxHeartbeats 4000000 in
theorem c_l03Room {g : Hp} {id off : Nat} (hr : rdCells h id off 4 = some (R.cells l l2)) (hA : Arr h l 5 (R.ds.map Dly.cells)) (hB : Arr h l2 2 (R.qs.map Pas.cells)) (hD : NewD h g sg 27 1 ssCells ssRows 22 rs) (hok : linesOk (R.ds.length + R.qs.length) (rs.map (·.1))) (hn : R.ds.length ≤ 100 ∧ R.qs.length ≤ 100) (hl : lim ≤ h.length)
    (hK : ∀ g' rs', NewD h g' sg 27 1 ssCells ssRows 22 rs' → rs'.map (·.1) = (roomS R (rs.map (·.1)) x).2 → Buts g g' (lvs sg rs) → lvs sg rs' = lvs sg rs → K (.lf (.flt .f32 (roomS R (rs.map (·.1)) x).1)) g') : CallT S false 87 [.lf (.ptr id off), .lf sg, .lf (.flt .f32 x)] g lim K := by
  have hlo : ∀ s ∈ lvs sg rs, s ≠ .nils → h.length ≤ s.id := fun s hs q => (hD.lvs_lt s hs q).1
  have hup : ∀ s ∈ lvs sg rs, s ≠ .nils → s.id < g.length := fun s hs q => (hD.lvs_lt s hs q).2
  have kg := hD.kept
  have p0 : rdCells h id off 1 = some [l] := by have := rd_sub hr (j := 0) (m := 1) (by omega); simpa [Rm.cells] using this
  have p1 : rdCells h id (off + 1) 1 = some [l2] := by have := rd_sub hr (j := 1) (m := 1) (by omega); simpa [Rm.cells] using this
  have p2 : rdCells h id (off + 2) 1 = some [.flt .f32 R.dry] := by have := rd_sub hr (j := 2) (m := 1) (by omega); simpa [Rm.cells] using this
  have p3 : rdCells h id (off + 3) 1 = some [.flt .f32 R.wet] := by have := rd_sub hr (j := 3) (m := 1) (by omega); simpa [Rm.cells] using this
  have hkg1 := kg.1
  have q0A := fun t => (kg.trans (Kept.app g t)).rd p0
  obtain ⟨ls, hls⟩ : ∃ ls, rs.map (·.1) = ls := ⟨_, rfl⟩
  rw [hls] at hok hK
  have z0 : New h (g ++ [⟨[], .own 22 1⟩]) (.sl g.length 0 0 1) 22 1 (([] : List Nat).map fl) := New.litN kg
  refine CallT_of_body (F := L87) (HasRq.f87) rfl ?_; unfold L87; dsimp only []
  repeat' (first | (simp (disch := first | omega | assumption | (simp only [List.length_set]; omega) | (simp [*] <;> fail) | assumption) [-Bool.decide_and, -Bool.decide_or, -Bool.not_and, -Bool.not_or, toNat_pred, toNat_succ, wrap64, wr_new, wr_new0, ok_if, ok_ifn, iadV_sl, makeV_int, decT, decF, over_at, *, hA.len, leavesAll, fillL]) | (with_reducible refine Gd_split (fun hc => ?_) (fun hc => ?_) <;> (have hc2 := hc; try simp at hc2)) | (with_reducible refine Br_split (fun hc => ?_) (fun hc => ?_) <;> (have hc2 := hc; try simp at hc2)) | (with_reducible refine GdT_split (fun hc => ?_) (fun hc => ?_) <;> (have hc2 := hc; try simp at hc2)) | (with_reducible refine WT_alt ?_ ?_) | omega)
  refine WL_forM 68719346048 (by decide +kernel) (R.ds.length) (fun i b g' => i ≤ R.ds.length ∧ b 17 = .lf (.int .i64 i) ∧ Buts g g' (lvs sg rs) ∧ ∃ o rs', b 7 = .lf o ∧ New h g' o 22 1 ((cmbTo R.ds x ls i).2.map fl) ∧ (o ≠ .nils → g.length ≤ o.id) ∧ NewD h g' sg 27 1 ssCells ssRows 22 rs' ∧ rs'.map (·.1) = (cmbTo R.ds x ls i).1 ∧ lvs sg rs' = lvs sg rs) (fun _ _ _ hi => hi.1) ⟨by omega, by simp, ⟨by simp, fun id hid _ => by rw [List.getElem?_append_left hid]⟩, .sl g.length 0 0 1, rs, by simp, z0, fun _ => by simp, hD.later (Kept.app _ _), hls, rfl⟩ ?_
  rintro i b g' ⟨hi, e17, hBs, o, rs', e7, hO, hoi, hD', hm', hlv⟩
  have hk := hD'.kept
  have hA1 := hA.kept hk
  have s0 := hk.rd p0
  have hkl := hk.1
  have hgg := hBs.len
  by_cases hlt : i < R.ds.length
  · have hok2 := hok.same (cmb_same (ds := R.ds) (x := x) (i := i))
    obtain ⟨bb, r, hget, hrl⟩ := hok2.get (i := i) (by omega)
    have hs := cmbTo_succ hlt hget
    have hol := cmb_outs (ds := R.ds) (x := x) (ls := ls) (i := i)
    generalize cmbTo R.ds x ls i = cc at *
    obtain ⟨cl, co⟩ := cc
    simp only at hget hs hol hO hm' hok2
    have hil : i < rs'.length := by have := congrArg List.length hm'; rw [List.length_map] at this; have := hok2.1; omega
    have hri : rs'[i].1 = bb :: r := by
      have h1 : (rs'.map (·.1))[i]? = some rs'[i].1 := by simp [hil]
      rw [hm', hget] at h1
      injection h1 with h1; exact h1.symm
    have hin := hD'.inn _ (List.getElem_mem hil)
    simp only [ssRows] at hin
    rw [hri] at hin
    have hmem : rs'[i].2 ∈ lvs sg rs := by rw [← hlv]; exact lvs_get hil
    have hsH : Hid (cmbTo R.ds x ls (i + 1) = (cl.set i (r ++ [dlyV R.ds[i] bb x]), co ++ [dlyO R.ds[i] bb x])) := hs
    have hmH : Hid (rs'.map (·.1) = cl) := hm'
    have hDA := hD'.arr
    clear hs hm' hK hls hget hri
    repeat' (first | (simp (disch := first | omega | assumption | (simp only [List.length_set]; omega) | (simp [*] <;> fail) | assumption) [-Bool.decide_and, -Bool.decide_or, -Bool.not_and, -Bool.not_or, toNat_pred, toNat_succ, wrap64, wr_new, wr_new0, ok_if, ok_ifn, iadV_sl, makeV_int, decT, decF, over_at, *, hA1.len, hA1.at_, hA1.at_', hA1.rd, hA1.rdIn, hA1.rdIn0, hA1.rdA, hA1.rdInA, hA1.rdIn0A, hDA.len, hDA.at_, hDA.at_', hDA.rd, hDA.rdIn, hDA.rdIn0, hDA.rdA, hDA.rdInA, hDA.rdIn0A, hDA.rd1, ssCells]) | (with_reducible refine Gd_split (fun hc => ?_) (fun hc => ?_) <;> (have hc2 := hc; try simp at hc2)) | (with_reducible refine Br_split (fun hc => ?_) (fun hc => ?_) <;> (have hc2 := hc; try simp at hc2)) | (with_reducible refine GdT_split (fun hc => ?_) (fun hc => ?_) <;> (have hc2 := hc; try simp at hc2)) | (with_reducible refine WT_alt ?_ ?_) | omega)
    refine c_l03Delay (d := R.ds[i]) hin (hA.rd hlt) (by omega) hl fun g2 hN2 hB2 => ?_
    have hP := hD'.put (a := r ++ [dlyV R.ds[i] bb x]) hil hN2 hB2 rfl
    have hlv2 := lvs_set (l := sg) (a := r ++ [dlyV R.ds[i] bb x]) hil
    have hO2 := hB2.buts.new hO (fun s hs q => by rw [List.mem_singleton] at hs; subst hs; exact hlo _ hmem q) (fun s hs q1 q2 e => by rw [List.mem_singleton] at hs; subst hs; have := hup _ hmem q1; have := hoi q2; omega)
    have hBs2 := hBs.but hB2 hmem
    have hg2 := hBs2.len
    generalize dlyV R.ds[i] bb x = vv at *
    generalize dlyO R.ds[i] bb x = oo at *
    clear hN2 hin hO hDA hBs
    repeat' (first | (simp (disch := first | omega | assumption | (simp only [List.length_set]; omega) | (simp [*] <;> fail) | assumption) [-Bool.decide_and, -Bool.decide_or, -Bool.not_and, -Bool.not_or, toNat_pred, toNat_succ, wrap64, wr_new, wr_new0, ok_if, ok_ifn, iadV_sl, makeV_int, decT, decF, over_at, *, leavesAll, fillL]) | (with_reducible refine Gd_split (fun hc => ?_) (fun hc => ?_) <;> (have hc2 := hc; try simp at hc2)) | (with_reducible refine Br_split (fun hc => ?_) (fun hc => ?_) <;> (have hc2 := hc; try simp at hc2)) | (with_reducible refine GdT_split (fun hc => ?_) (fun hc => ?_) <;> (have hc2 := hc; try simp at hc2)) | (with_reducible refine WT_alt ?_ ?_) | omega)
    refine oc_push (bytes := 4) (r := [.flt .f32 oo]) hO2 ?_ ?_ ?_ (by decide) rfl (by decide)
    · exact hl
    · simp; omega
    intro o2 g5 hN5 hB5
    have hP5 := hP.but hB5 (fun q => by have := hoi q; omega) (fun q1 q2 e => by have := hup sg lvs_head q1; have := hoi q2; omega) (fun p hp q1 q2 e => by
      have hm : p.2 ∈ lvs sg rs := by rw [← hlv, ← hlv2]; unfold lvs; exact List.mem_cons_of_mem _ (List.mem_map.2 ⟨p, hp, rfl⟩)
      have := hup _ hm q1; have := hoi q2; omega)
    have hBs5 := hBs2.fresh hB5 hoi
    have ho2 : o2 ≠ .nils → g.length ≤ o2.id := fun q => by
      rcases hB5.far with e | e
      · subst e; exact hoi q
      · omega
    clear hP hO2 hB5 hBs2
    repeat' (first | (simp (disch := first | omega | assumption | (simp only [List.length_set]; omega) | (simp [*] <;> fail) | assumption) [-Bool.decide_and, -Bool.decide_or, -Bool.not_and, -Bool.not_or, toNat_pred, toNat_succ, wrap64, wr_new, wr_new0, ok_if, ok_ifn, iadV_sl, makeV_int, decT, decF, over_at, *]) | (with_reducible refine Gd_split (fun hc => ?_) (fun hc => ?_) <;> (have hc2 := hc; try simp at hc2)) | (with_reducible refine Br_split (fun hc => ?_) (fun hc => ?_) <;> (have hc2 := hc; try simp at hc2)) | (with_reducible refine GdT_split (fun hc => ?_) (fun hc => ?_) <;> (have hc2 := hc; try simp at hc2)) | (with_reducible refine WT_alt ?_ ?_) | omega)
    refine ⟨hlt, by rw [show cmbTo R.ds x ls (i + 1) = _ from hsH, List.map_append]; exact hN5, ho2, _, hP5, by rw [show cmbTo R.ds x ls (i + 1) = _ from hsH, map_setD, show rs'.map (·.1) = _ from hmH], by rw [hlv2, hlv]⟩
  · have : i = R.ds.length := by omega
    subst this
    have hSum := fun lim K => c_l01Sum (S := S) (h := g') (lim := lim) (K := K) hO.arr
    have hokc := hok.same (cmb_same (ds := R.ds) (x := x) (i := R.ds.length))
    obtain ⟨st, hst⟩ : ∃ st, ((cmbTo R.ds x ls R.ds.length).1, sumTo32 (cmbTo R.ds x ls R.ds.length).2 (cmbTo R.ds x ls R.ds.length).2.length) = st := ⟨_, rfl⟩
    have hst1 : (cmbTo R.ds x ls R.ds.length).1 = st.1 := by rw [← hst]
    have hst2 : sumTo32 (cmbTo R.ds x ls R.ds.length).2 (cmbTo R.ds x ls R.ds.length).2.length = st.2 := by rw [← hst]
    have hfin : roomS R ls x = (fbin .add .f32 (fbin .mul .f32 R.dry x) (fbin .mul .f32 R.wet (pssTo R.qs R.ds.length st R.qs.length).2), (pssTo R.qs R.ds.length st R.qs.length).1) := by unfold roomS; simp only [hst]
    rw [hfin] at hK
    rw [hst2] at hSum
    rw [hst1] at hm' hokc
    clear hfin hst hst1 hst2 hO
    have s1 := hk.rd p1
    repeat' (first | (simp (disch := first | omega | assumption | (simp only [List.length_set]; omega) | (simp [*] <;> fail) | assumption) [-Bool.decide_and, -Bool.decide_or, -Bool.not_and, -Bool.not_or, toNat_pred, toNat_succ, wrap64, wr_new, wr_new0, ok_if, ok_ifn, iadV_sl, makeV_int, decT, decF, over_at, *, hA1.len, (hB.kept hk).len]) | (with_reducible refine Gd_split (fun hc => ?_) (fun hc => ?_) <;> (have hc2 := hc; try simp at hc2)) | (with_reducible refine Br_split (fun hc => ?_) (fun hc => ?_) <;> (have hc2 := hc; try simp at hc2)) | (with_reducible refine GdT_split (fun hc => ?_) (fun hc => ?_) <;> (have hc2 := hc; try simp at hc2)) | (with_reducible refine WT_alt ?_ ?_) | omega)
    refine WL_forM 36893479351326082560 (by decide +kernel) (R.qs.length) (fun j b' g2 => j ≤ R.qs.length ∧ b' 43 = .lf (.int .i64 j) ∧ b' 9 = .lf (.flt .f32 (pssTo R.qs R.ds.length st j).2) ∧ Buts g g2 (lvs sg rs) ∧ ∃ rs2, NewD h g2 sg 27 1 ssCells ssRows 22 rs2 ∧ rs2.map (·.1) = (pssTo R.qs R.ds.length st j).1 ∧ lvs sg rs2 = lvs sg rs) (fun _ _ _ hi => hi.1) ⟨by omega, by simp, by simp [pssTo], hBs, rs', hD', hm', hlv⟩ ?_
    rintro j b' g2 ⟨hj, e43, e9, hBs2, rs2, hD2, hm2, hlv2⟩
    have hk2 := hD2.kept
    have t0 := hk2.rd p0
    have t1 := hk2.rd p1
    have t2 := hk2.rd p2
    have t3 := hk2.rd p3
    have hA2 := hA.kept hk2
    have hB2 := hB.kept hk2
    have hkl2 := hk2.1
    by_cases hjt : j < R.qs.length
    · have hok2 := hokc.same (pss_same (qs := R.qs) (n := R.ds.length) (st := st) (i := j))
      obtain ⟨bb, r, hget, hrl⟩ := hok2.get (i := R.ds.length + j) (by omega)
      have hs := pssTo_succ hjt hget
      generalize pssTo R.qs R.ds.length st j = cc at *
      obtain ⟨cl, co⟩ := cc
      simp only at hget hs hm2 hok2 e9
      obtain ⟨P, hP⟩ : ∃ P : Nat, (R.ds.length : Int) + (j : Int) = P := ⟨R.ds.length + j, by omega⟩
      have hPn : R.ds.length + j = P := by omega
      rw [hPn] at hget hs
      have hil : P < rs2.length := by have := congrArg List.length hm2; rw [List.length_map] at this; have := hok2.1; omega
      have hri : rs2[P].1 = bb :: r := by
        have h1 : (rs2.map (·.1))[P]? = some rs2[P].1 := by simp [hil]
        rw [hm2, hget] at h1
        injection h1 with h1; exact h1.symm
      have hin := hD2.inn _ (List.getElem_mem hil)
      simp only [ssRows] at hin
      rw [hri] at hin
      have hmem : rs2[P].2 ∈ lvs sg rs := by rw [← hlv2]; exact lvs_get hil
      have hsH : Hid (pssTo R.qs R.ds.length st (j + 1) = (cl.set P (r ++ [pasV R.qs[j] bb co]), pasO R.qs[j] bb co)) := hs
      have hmH : Hid (rs2.map (·.1) = cl) := hm2
      have hDA := hD2.arr
      clear hs hm2 hK hget hri hPn
      repeat' (first | (simp (disch := first | omega | assumption | (simp only [List.length_set]; omega) | (simp [*] <;> fail) | assumption) [-Bool.decide_and, -Bool.decide_or, -Bool.not_and, -Bool.not_or, toNat_pred, toNat_succ, wrap64, wr_new, wr_new0, ok_if, ok_ifn, iadV_sl, makeV_int, decT, decF, over_at, *, hB2.len, hB2.at_, hB2.at_', hB2.rd, hB2.rdIn, hB2.rdIn0, hB2.rdA, hB2.rdInA, hB2.rdIn0A, hA2.len, hDA.len, hDA.at_, hDA.at_', hDA.rd, hDA.rdIn, hDA.rdIn0, hDA.rdA, hDA.rdInA, hDA.rdIn0A, hDA.rd1, ssCells]) | (with_reducible refine Gd_split (fun hc => ?_) (fun hc => ?_) <;> (have hc2 := hc; try simp at hc2)) | (with_reducible refine Br_split (fun hc => ?_) (fun hc => ?_) <;> (have hc2 := hc; try simp at hc2)) | (with_reducible refine GdT_split (fun hc => ?_) (fun hc => ?_) <;> (have hc2 := hc; try simp at hc2)) | (with_reducible refine WT_alt ?_ ?_) | omega)
      refine c_l03Pass (p := R.qs[j]) hin (hB.rd hjt) (by omega) hl fun g3 hN3 hB3 => ?_
      have hP3 := hD2.put (a := r ++ [pasV R.qs[j] bb co]) hil hN3 hB3 rfl
      have hlv3 := lvs_set (l := sg) (a := r ++ [pasV R.qs[j] bb co]) hil
      have hBs3 := hBs2.but hB3 hmem
      clear hN3 hin hDA hB3 hBs2
      repeat' (first | (simp (disch := first | omega | assumption | (simp only [List.length_set]; omega) | (simp [*] <;> fail) | assumption) [-Bool.decide_and, -Bool.decide_or, -Bool.not_and, -Bool.not_or, toNat_pred, toNat_succ, wrap64, wr_new, wr_new0, ok_if, ok_ifn, iadV_sl, makeV_int, decT, decF, over_at, *]) | (with_reducible refine Gd_split (fun hc => ?_) (fun hc => ?_) <;> (have hc2 := hc; try simp at hc2)) | (with_reducible refine Br_split (fun hc => ?_) (fun hc => ?_) <;> (have hc2 := hc; try simp at hc2)) | (with_reducible refine GdT_split (fun hc => ?_) (fun hc => ?_) <;> (have hc2 := hc; try simp at hc2)) | (with_reducible refine WT_alt ?_ ?_) | omega)
      refine ⟨hjt, by rw [show pssTo R.qs R.ds.length st (j + 1) = _ from hsH], _, hP3, by rw [show pssTo R.qs R.ds.length st (j + 1) = _ from hsH, map_setD, show rs2.map (·.1) = _ from hmH], by rw [hlv3, hlv2]⟩
    · have : j = R.qs.length := by omega
      subst this
      have hk4 := hK g2 rs2 hD2 hm2 hBs2 hlv2
      clear hK
      repeat' (first | (simp (disch := first | omega | assumption | (simp only [List.length_set]; omega) | (simp [*] <;> fail) | assumption) [-Bool.decide_and, -Bool.decide_or, -Bool.not_and, -Bool.not_or, toNat_pred, toNat_succ, wrap64, wr_new, wr_new0, ok_if, ok_ifn, iadV_sl, makeV_int, decT, decF, over_at, *]) | (with_reducible refine Gd_split (fun hc => ?_) (fun hc => ?_) <;> (have hc2 := hc; try simp at hc2)) | (with_reducible refine Br_split (fun hc => ?_) (fun hc => ?_) <;> (have hc2 := hc; try simp at hc2)) | (with_reducible refine GdT_split (fun hc => ?_) (fun hc => ?_) <;> (have hc2 := hc; try simp at hc2)) | (with_reducible refine WT_alt ?_ ?_) | omega)
end
end Go.E
