/- Notes as samples, both sides. -/
import Derived.Test.YtkabbddhdnddoaaMRn
import Derived.Test.YtkabbddhdnddoaaMEn
import Derived.Test.YtkabbddhdnddoaaMDm
set_option linter.unusedVariables false
set_option linter.unusedSimpArgs false
namespace Go.E
open Go
def L11 : LFn := ⟨5, (.seq (.reg [⟨(.some 6), (.box 26 (.t 1)), none⟩, ⟨(.some 10), (.mv (.c (.lf .nils))), none⟩, ⟨(.some 11), (.mv (.c (.lf (.bool false)))), none⟩])
 (.seq (.seq (.reg [⟨(.some 18), (.mv (.t 0)), none⟩, ⟨(.some 19), (.call true 29 [(.t 18)]), none⟩, ⟨(.some 20), (.una .not (.t 19)), none⟩, ⟨(.some 21), (.mv (.t 20)), none⟩, ⟨(.some 22), (.load true 4 (.t 6)), (.some (21, false))⟩, ⟨(.some 23), (.mv (.t 2)), (.some (21, false))⟩, ⟨(.some 24), (.mv (.t 3)), (.some (21, false))⟩, ⟨(.some 25), (.call true 27 [(.t 22), (.t 23), (.t 24)]), (.some (21, false))⟩, ⟨(.some 26), (.una .not (.t 25)), (.some (21, false))⟩, ⟨(.some 27), (.pick (.t 21) (.c (.lf (.bool true))) (.t 26)), none⟩, ⟨(.some 28), (.mv (.t 27)), none⟩, ⟨(.some 29), (.mv (.t 4)), (.some (28, false))⟩, ⟨(.some 30), (.call true 30 [(.t 29)]), (.some (28, false))⟩, ⟨(.some 31), (.una .not (.t 30)), (.some (28, false))⟩, ⟨(.some 32), (.pick (.t 28) (.c (.lf (.bool true))) (.t 31)), none⟩])
 (.cond (.t 32) (.seq (.reg [⟨(.some 10), (.mv (.c (.lf .nils))), none⟩, ⟨(.some 11), (.mv (.c (.lf (.bool false)))), none⟩])
 .ret) .skip))
 (.seq (.reg [⟨(.some 33), (.mv (.t 4)), none⟩, ⟨(.some 34), (.call false 31 [(.t 33)]), none⟩, ⟨(.some 12), (.mv (.t 34)), none⟩])
 (.seq (.reg [⟨(.some 35), (.load true 4 (.t 6)), none⟩, ⟨(.some 36), (.mv (.t 2)), none⟩, ⟨(.some 37), (.mv (.t 3)), none⟩, ⟨(.some 38), (.call false 28 [(.t 35), (.t 36), (.t 37)]), none⟩, ⟨(.some 13), (.mv (.t 38)), none⟩])
 (.seq (.seq (.reg [⟨(.some 39), (.mv (.t 2)), none⟩, ⟨(.some 40), (.len (.t 39)), none⟩, ⟨(.some 41), (.mv (.c (.lf (.int .i64 0)))), none⟩])
 (.block 0 (.loop (.seq (.reg [⟨(.some 42), (.bin .lss (.t 41) (.t 40)), none⟩])
 (.seq (.cond (.t 42) .skip (.exit 0))
 (.seq (.block 1 (.seq (.reg [⟨(.some 43), (.mv (.t 41)), none⟩, ⟨(.some 44), (.iaddr 4 (.t 39) (.t 41)), none⟩, ⟨(.some 45), (.load true 4 (.t 44)), none⟩, ⟨(.some 15), (.alloc 40 [(.int .i64 0), (.int .i64 0), (.int .i64 0), (.flt .f32 0)]), none⟩, ⟨(.some 14), (.mv (.t 43)), none⟩, ⟨none, (.store 4 (.t 15) (.t 45)), none⟩])
 (.seq (.reg [⟨(.some 46), (.load true 4 (.t 6)), none⟩, ⟨(.some 47), (.mv (.t 0)), none⟩, ⟨(.some 48), (.load true 4 (.t 15)), none⟩, ⟨(.some 49), (.mv (.t 4)), none⟩, ⟨(.some 50), (.call false 32 [(.t 46), (.t 47), (.t 48), (.t 49)]), none⟩, ⟨(.some 16), (.mv (.t 50)), none⟩])
 (.seq (.reg [⟨(.some 51), (.faddr 0 (.t 15)), none⟩, ⟨(.some 52), (.load false 1 (.t 51)), none⟩, ⟨(.some 17), (.mv (.t 52)), none⟩])
 (.block 2 (.loop (.seq (.seq (.reg [⟨(.some 53), (.mv (.t 17)), none⟩, ⟨(.some 54), (.mv (.t 4)), none⟩, ⟨(.some 55), (.mv (.t 13)), none⟩, ⟨(.some 56), (.mv (.t 14)), none⟩, ⟨(.some 57), (.iaddr 1 (.t 55) (.t 56)), none⟩, ⟨(.some 58), (.load false 1 (.t 57)), none⟩, ⟨(.some 59), (.mnmx false [(.t 54), (.t 58)]), none⟩, ⟨(.some 60), (.bin .lss (.t 53) (.t 59)), none⟩])
 (.cond (.t 60) .skip (.exit 2)))
 (.seq (.block 3 (.reg [⟨(.some 63), (.mv (.t 12)), none⟩, ⟨(.some 64), (.mv (.t 17)), none⟩, ⟨(.some 65), (.iaddr 1 (.t 63) (.t 64)), none⟩, ⟨(.some 66), (.load false 1 (.t 65)), none⟩, ⟨(.some 67), (.mv (.t 16)), none⟩, ⟨(.some 68), (.mv (.t 17)), none⟩, ⟨(.some 69), (.iaddr 1 (.t 67) (.t 68)), none⟩, ⟨(.some 70), (.load false 1 (.t 69)), none⟩, ⟨(.some 71), (.bin .add (.t 66) (.t 70)), none⟩, ⟨(.some 72), (.iaddr 1 (.t 63) (.t 64)), none⟩, ⟨none, (.store 1 (.t 72) (.t 71)), none⟩]))
 (.reg [⟨(.some 61), (.mv (.t 17)), none⟩, ⟨(.some 62), (.bin .add (.t 61) (.c (.lf (.int .i64 1)))), none⟩, ⟨(.some 17), (.mv (.t 62)), none⟩])))))))))
 (.reg [⟨(.some 73), (.bin .add (.t 41) (.c (.lf (.int .i64 1)))), none⟩, ⟨(.some 41), (.mv (.t 73)), none⟩])))))))
 (.seq (.reg [⟨(.some 74), (.mv (.t 12)), none⟩, ⟨(.some 10), (.mv (.t 74)), none⟩, ⟨(.some 11), (.mv (.c (.lf (.bool true)))), none⟩])
 .ret)))))), [(.tmp 10), (.tmp 11)]⟩
class HasRa (S : Sys) : Prop extends HasRn S, HasEn S where
  f11 : S.fs 11 = some L11
/-- The list, to whose first m numbers those of another one are added, from b on and ahead of e. -/
def addW (b : Nat) (e : Int) (xs out : List Nat) (m : Nat) : List Nat := tabTo (fun j => if j < m ∧ b ≤ j ∧ (j : Int) < e then fbin .add .f32 (out.getD j 0) (xs.getD j 0) else out.getD j 0) out.length
@[simp] theorem addW_len {b : Nat} {e : Int} {xs out : List Nat} {m : Nat} : (addW b e xs out m).length = out.length := tabTo_len
theorem addW_get {b : Nat} {e : Int} {xs out : List Nat} {m j : Nat} (hj : j < (addW b e xs out m).length) : (addW b e xs out m)[j] = if j < m ∧ b ≤ j ∧ (j : Int) < e then fbin .add .f32 (out.getD j 0) (xs.getD j 0) else out.getD j 0 := by simp [addW, tabTo]
theorem getD_at {xs : List Nat} {j : Nat} (hj : j < xs.length) : xs.getD j 0 = xs[j] := by simp [hj]
theorem addW_low {b : Nat} {e : Int} {xs out : List Nat} {m : Nat} (h : m ≤ b) : addW b e xs out m = out := by
  apply List.ext_getElem
  · simp
  · intro j h1 h2
    rw [addW_get, if_neg (by omega), getD_at h2]
theorem addW_no {b : Nat} {e : Int} {xs out : List Nat} {m : Nat} (h : ¬ (b ≤ m ∧ (m : Int) < e)) : addW b e xs out (m + 1) = addW b e xs out m := by
  apply List.ext_getElem
  · simp
  · intro j h1 h2
    rw [addW_get, addW_get]
    by_cases q : j < m ∧ b ≤ j ∧ (j : Int) < e
    · rw [if_pos q, if_pos (by omega)]
    · have q3 : ¬ (j < m + 1 ∧ b ≤ j ∧ (j : Int) < e) := by
        intro q2
        by_cases e2 : j = m
        · subst e2; exact h q2.2
        · exact q ⟨by omega, q2.2⟩
      rw [if_neg q, if_neg q3]
theorem addW_yes {b : Nat} {e : Int} {xs out : List Nat} {m : Nat} (h : b ≤ m ∧ (m : Int) < e) (h1 : m < out.length) (h2 : m < xs.length) : addW b e xs out (m + 1) = (addW b e xs out m).set m (fbin .add .f32 ((addW b e xs out m)[m]'(by simpa using h1)) xs[m]) := by
  apply List.ext_getElem
  · simp
  · intro j g1 g2
    rw [addW_get, List.getElem_set]
    by_cases e2 : m = j
    · subst e2
      rw [if_pos ⟨by omega, h⟩, if_pos rfl, addW_get, if_neg (by omega), getD_at h2]
    · rw [if_neg e2, addW_get]
      by_cases q : j < m ∧ b ≤ j ∧ (j : Int) < e
      · rw [if_pos q, if_pos (by omega)]
      · rw [if_neg q, if_neg (by intro q2; exact q ⟨by omega, q2.2⟩)]
theorem addW_all {b m : Nat} {e : Int} {xs out : List Nat} (h : ∀ j, j < out.length → b ≤ j → (j : Int) < e → j < m) : addW b e xs out m = addW b e xs out out.length := by
  apply List.ext_getElem
  · simp
  · intro j g1 g2
    rw [addW_get, addW_get]
    rw [addW_len] at g1
    by_cases q : b ≤ j ∧ (j : Int) < e
    · rw [if_pos ⟨h j g1 q.1 q.2, q⟩, if_pos ⟨g1, q⟩]
    · rw [if_neg (fun q2 => q q2.2), if_neg (fun q2 => q q2.2)]
def noteR (k : Int) (e : Ev) (p : Nt) : Rnt := rnt k e.a e.d e.s e.r p.st p.du p.pi p.ga
def raTo (k : Int) (e : Ev) (ps : List Nt) (v : Int) (n : Nat) : Nat → List Nat
  | 0 => List.replicate n 0
  | i + 1 => match ps[i]? with
    | some p => addW p.st.toNat ((endsTo ps v e.r ps.length).getD i 0) (tabTo (noteR k e p).val n) (raTo k e ps v n i) n
    | none => raTo k e ps v n i
theorem raTo_succ {k : Int} {e : Ev} {ps : List Nt} {v : Int} {n i : Nat} (hi : i < ps.length) : raTo k e ps v n (i + 1) = addW ps[i].st.toNat ((endsTo ps v e.r ps.length).getD i 0) (tabTo (noteR k e ps[i]).val n) (raTo k e ps v n i) n := by
  simp only [raTo, List.getElem?_eq_getElem hi]
@[simp] theorem raTo_len {k : Int} {e : Ev} {ps : List Nt} {v : Int} {n i : Nat} : (raTo k e ps v n i).length = n := by
  induction i with
  | zero => simp [raTo]
  | succ i ih =>
    simp only [raTo]
    split
    · simpa using ih
    · exact ih
def okRa (k : Int) (e : Ev) (ps : List Nt) (v n : Int) : Prop := (0 ≤ k ∧ k ≤ 3) ∧ okEn e ps v ∧ 0 ≤ n ∧ n ≤ 256
noncomputable instance (k : Int) (e : Ev) (ps : List Nt) (v n : Int) : Decidable (okRa k e ps v n) := Classical.propDecidable _
noncomputable def raR (k : Int) (e : Ev) (ps : List Nt) (v n : Int) : List Nat := if okRa k e ps v n then raTo k e ps v n.toNat ps.length else []
theorem raR_len {k : Int} {e : Ev} {ps : List Nt} {v n : Int} : (raR k e ps v n).length ≤ 256 := by
  unfold raR
  split
  · rename_i h
    rw [raTo_len]
    have := h.2.2
    omega
  · simp
theorem noteR_ok {k : Int} {e : Ev} {p : Nt} (hk : 0 ≤ k ∧ k ≤ 3) (he : held3 e.a e.d e.r = true) (hp : noteOk p) : (noteR k e p).ok ∧ ((noteR k e p).b : Int) = p.st ∧ ((noteR k e p).u : Int) = p.du := by
  have h := rnt_ok (k := k) (a := e.a) (d := e.d) (s := e.s) (r := e.r) (b := p.st) (u := p.du) (p := p.pi) (g := p.ga) (n := 0) ⟨hk, he, hp, by omega, by omega⟩
  unfold noteOk at hp
  simp only [noted, decide_eq_true_eq] at hp
  refine ⟨h, ?_, ?_⟩
  · unfold noteR rnt; simp only []; omega
  · unfold noteR rnt; simp only []; omega
section
variable {S : Sys} {lim : Nat} {h : Hp} {K : CV → Hp → Prop} [HasRa S] {l : Lf} {ps : List Nt} {e : Ev} {k v : Int}
theorem New.zer {h g : Hp} {n : Nat} (k : Kept h g) (hn : n ≤ 256) : New h (g ++ [⟨List.replicate n (.flt .f32 0), .own 24 1⟩]) (.sl g.length 0 n 1) 24 1 ((List.replicate n 0).map fl) := by
  have := New.of_sl (k.trans (Kept.app g _)) (Sl.make (h := g) (ty := 24) (sz := 1) (n := n) (z := [.flt .f32 0]) rfl) k.1 (by simp; omega)
  simpa [fl] using this
set_option maxHeartbeats 8000000 in
set_option maxHeartbeats 4000000 in
theorem c_areVoices (hA : Arr h l 4 (ps.map Nt.cells)) : CallT S true 27 [.agg e.cells, .lf l, .lf (.int .i64 v)] h lim K = K (.lf (.bool (decide (okEn e ps v)))) h := by
  have hle : e.cells.length = 4 := rfl
  have hte : List.take 4 e.cells = e.cells := rfl
  have hA2 := hA.app (t := [⟨e.cells, .own 26 1⟩])
  have nt := fun K lim => c_AreNotes (S := S) (K := K) (lim := lim) hA2
  have ev := fun h' K lim => c_ValidEnvelope (S := S) (h := h') (K := K) (lim := lim) (a := e.a) (d := e.d) (r := e.r) (s := e.s)
  have hec : e.cells = [.int .i64 e.a, .int .i64 e.d, .flt .f32 e.s, .int .i64 e.r] := rfl
  rw [← hec] at ev
  clear hec
  refine CallT_pure (F := L27) (HasEn.f27) rfl (by first | rfl | (split <;> rfl) | simp) ?_; unfold L27; dsimp only []
  cases k1 : held3 e.a e.d e.r
  · rw [k1] at ev
    have hk : decide (okEn e ps v) = false := decide_eq_false fun q => by rw [q.1] at k1; cases k1
    rw [hk]
    repeat' (first | (simp (disch := first | omega | assumption | (simp only [List.length_set]; omega) | (simp [*] <;> fail) | assumption) [-Bool.decide_and, -Bool.decide_or, -Bool.not_and, -Bool.not_or, toNat_pred, toNat_succ, wrap64, wr_new, wr_new0, ok_if, ok_ifn, iadV_sl, makeV_int, decT, decF, over_at, *]) | (with_reducible refine Gd_split (fun hc => ?_) (fun hc => ?_) <;> (have hc2 := hc; try simp at hc2)) | (with_reducible refine Br_split (fun hc => ?_) (fun hc => ?_) <;> (have hc2 := hc; try simp at hc2)) | (with_reducible refine GdT_split (fun hc => ?_) (fun hc => ?_) <;> (have hc2 := hc; try simp at hc2)) | (with_reducible refine WT_alt ?_ ?_) | omega)
  · rw [k1] at ev
    by_cases k2 : areNotes ps
    · rw [decide_eq_true k2] at nt
      have hk : decide (okEn e ps v) = decide (1 ≤ v ∧ v ≤ 12) := by congr 1; exact propext ⟨fun q => q.2.2, fun q => ⟨k1, k2, q⟩⟩
      rw [hk]
      repeat' (first | (simp (disch := first | omega | assumption | (simp only [List.length_set]; omega) | (simp [*] <;> fail) | assumption) [-Bool.decide_and, -Bool.decide_or, -Bool.not_and, -Bool.not_or, toNat_pred, toNat_succ, wrap64, wr_new, wr_new0, ok_if, ok_ifn, iadV_sl, makeV_int, decT, decF, over_at, *]) | (with_reducible refine Gd_split (fun hc => ?_) (fun hc => ?_) <;> (have hc2 := hc; try simp at hc2)) | (with_reducible refine Br_split (fun hc => ?_) (fun hc => ?_) <;> (have hc2 := hc; try simp at hc2)) | (with_reducible refine GdT_split (fun hc => ?_) (fun hc => ?_) <;> (have hc2 := hc; try simp at hc2)) | (with_reducible refine WT_alt ?_ ?_) | omega)
    · rw [decide_eq_false k2] at nt
      have hk : decide (okEn e ps v) = false := decide_eq_false fun q => k2 q.2.1
      rw [hk]
      repeat' (first | (simp (disch := first | omega | assumption | (simp only [List.length_set]; omega) | (simp [*] <;> fail) | assumption) [-Bool.decide_and, -Bool.decide_or, -Bool.not_and, -Bool.not_or, toNat_pred, toNat_succ, wrap64, wr_new, wr_new0, ok_if, ok_ifn, iadV_sl, makeV_int, decT, decF, over_at, *]) | (with_reducible refine Gd_split (fun hc => ?_) (fun hc => ?_) <;> (have hc2 := hc; try simp at hc2)) | (with_reducible refine Br_split (fun hc => ?_) (fun hc => ?_) <;> (have hc2 := hc; try simp at hc2)) | (with_reducible refine GdT_split (fun hc => ?_) (fun hc => ?_) <;> (have hc2 := hc; try simp at hc2)) | (with_reducible refine WT_alt ?_ ?_) | omega)
set_option maxHeartbeats 8000000 in
theorem c_implRenderNotes {n : Int} (hA : Arr h l 4 (ps.map Nt.cells)) (hl : lim ≤ h.length)
    (hK : ∀ o g, New h g o 24 1 ((raR k e ps v n).map fl) → K (.tup [.lf o, .lf (.bool (decide (okRa k e ps v n)))]) g) : CallT S false 11 [.lf (.int .i64 k), .agg e.cells, .lf l, .lf (.int .i64 v), .lf (.int .i64 n)] h lim K := by
  have hle : e.cells.length = 4 := rfl
  have hte : List.take 4 e.cells = e.cells := rfl
  have kb := Kept.app h [⟨e.cells, .own 26 1⟩]
  have hr : rdCells (h ++ [⟨e.cells, .own 26 1⟩]) h.length 0 4 = some e.cells := Cel.new.rd (by simp [Ev.cells])
  have hA0 := hA.kept kb
  have av := fun K lim => c_areVoices (S := S) (K := K) (lim := lim) (e := e) (v := v) hA0
  by_cases hok : okRa k e ps v n
  · unfold raR at hK
    rw [if_pos hok, decide_eq_true hok] at hK
    obtain ⟨k1, k2, k3⟩ := hok
    obtain ⟨N, rfl⟩ := Int.eq_ofNat_of_zero_le k3.1
    rw [Int.toNat_natCast] at hK
    rw [decide_eq_true k2] at av
    obtain ⟨e1, e2, e3⟩ := k2
    have h12 := e2.1
    have hn : N ≤ 256 := by omega
    refine CallT_of_body (F := L11) (HasRa.f11) rfl ?_; unfold L11; dsimp only []
    repeat' (first | (simp (disch := first | omega | assumption | (simp only [List.length_set]; omega) | (simp [*] <;> fail) | assumption) [-Bool.decide_and, -Bool.decide_or, -Bool.not_and, -Bool.not_or, toNat_pred, toNat_succ, wrap64, wr_new, wr_new0, ok_if, ok_ifn, iadV_sl, makeV_int, decT, decF, over_at, *]) | (with_reducible refine Gd_split (fun hc => ?_) (fun hc => ?_) <;> (have hc2 := hc; try simp at hc2)) | (with_reducible refine Br_split (fun hc => ?_) (fun hc => ?_) <;> (have hc2 := hc; try simp at hc2)) | (with_reducible refine GdT_split (fun hc => ?_) (fun hc => ?_) <;> (have hc2 := hc; try simp at hc2)) | (with_reducible refine WT_alt ?_ ?_) | omega)
    refine c_zeros (by omega) (by simp; omega) fun o ga hZ => ?_
    have hga := hZ.kept.1
    have ra := hZ.kept.rd hr
    simp only [List.length_append, List.length_cons, List.length_nil, Nat.zero_add] at hga
    repeat' (first | (simp (disch := first | omega | assumption | (simp only [List.length_set]; omega) | (simp [*] <;> fail) | assumption) [-Bool.decide_and, -Bool.decide_or, -Bool.not_and, -Bool.not_or, toNat_pred, toNat_succ, wrap64, wr_new, wr_new0, ok_if, ok_ifn, iadV_sl, makeV_int, decT, decF, over_at, *]) | (with_reducible refine Gd_split (fun hc => ?_) (fun hc => ?_) <;> (have hc2 := hc; try simp at hc2)) | (with_reducible refine Br_split (fun hc => ?_) (fun hc => ?_) <;> (have hc2 := hc; try simp at hc2)) | (with_reducible refine GdT_split (fun hc => ?_) (fun hc => ?_) <;> (have hc2 := hc; try simp at hc2)) | (with_reducible refine WT_alt ?_ ?_) | omega)
    refine c_endsOf (hA0.kept hZ.kept) e1 e2 e3 (by omega) fun oe g0 hE => ?_
    have hkz := hZ.kept.trans hE.kept
    have hoi : ∀ q : o ≠ .nils, h.length + 1 ≤ o.id := fun q => by have := (hZ.lt q).1; simpa using this
    have hfe : Far o oe := fun p1 p2 q => by have := (hE.lt p2).1; have := (hZ.lt p1).2; omega
    have hg0 : h.length + 1 ≤ g0.length := by have := hE.kept.1; omega
    have z2 := (hZ.base kb).later hE.kept
    have hEb := hE.base (kb.trans hZ.kept)
    have c0 : Cel g0 h.length 26 e.cells := (Cel.new (g := h) (t := [])).kept hkz
    have hEe : (endsTo ps v e.r ps.length).length = ps.length := endsTo_len (Nat.le_refl _)
    have hgd : ∀ i (hi : i < ps.length), (endsTo ps v e.r ps.length).getD i 0 = (endsTo ps v e.r ps.length)[i]'(by omega) := fun i hi => by simp [hEe, hi]
    clear hZ hE ra
    repeat' (first | (simp (disch := first | omega | assumption | (simp only [List.length_set]; omega) | (simp [*] <;> fail) | assumption) [-Bool.decide_and, -Bool.decide_or, -Bool.not_and, -Bool.not_or, toNat_pred, toNat_succ, wrap64, wr_new, wr_new0, ok_if, ok_ifn, iadV_sl, makeV_int, decT, decF, over_at, *, (hA0.kept hkz).len]) | (with_reducible refine Gd_split (fun hc => ?_) (fun hc => ?_) <;> (have hc2 := hc; try simp at hc2)) | (with_reducible refine Br_split (fun hc => ?_) (fun hc => ?_) <;> (have hc2 := hc; try simp at hc2)) | (with_reducible refine GdT_split (fun hc => ?_) (fun hc => ?_) <;> (have hc2 := hc; try simp at hc2)) | (with_reducible refine WT_alt ?_ ?_) | omega)
    refine WL_forM 18889465929279557844992 (by decide +kernel) (ps.length) (fun i b g => i ≤ ps.length ∧ b 41 = .lf (.int .i64 i) ∧ New h g o 24 1 ((raTo k e ps v N i).map fl) ∧ New h g oe 2 1 ((endsTo ps v e.r ps.length).map il) ∧ Cel g h.length 26 e.cells ∧ g0.length ≤ g.length) (fun _ _ _ hi => hi.1) ⟨by omega, by simp, z2, hEb, c0, Nat.le_refl _⟩ ?_
    rintro i b g ⟨hi, e41, hN, hE, hc, hgg⟩
    have hkg := hN.kept
    have hA1 := hA.kept hkg
    have hg := hkg.1
    by_cases hlt : i < ps.length
    · have hno := (e2.2 i hlt hlt).1
      obtain ⟨x1, x2, x3⟩ := noteR_ok k1 e1 hno
      have hs := raTo_succ (k := k) (e := e) (v := v) (n := N) hlt
      rw [hgd i hlt] at hs
      have hEi : i < (endsTo ps v e.r ps.length).length := by omega
      have aE := hE.arr.at_ (k := .i64) hEi
      have hcl : (raTo k e ps v N i).length = N := raTo_len
      generalize hcur : raTo k e ps v N i = cur at *
      generalize hee : (endsTo ps v e.r ps.length)[i] = ee at *
      have hb0 : (ps[i].st.toNat : Int) = ps[i].st := x2
      obtain ⟨B, hB⟩ : ∃ B, ps[i].st.toNat = B := ⟨_, rfl⟩
      rw [hB] at hs hb0
      have hsH : Hid (raTo k e ps v N (i + 1) = addW B ee (tabTo (noteR k e ps[i]).val N) cur N) := hs
      have hrun := fun t K hK => c_render (S := S) (lim := lim) (K := K) (h := g ++ t) (n := N) x1 hn (by simp; omega) hK
      rw [x2, x3] at hrun
      have hec : [.int .i64 (noteR k e ps[i]).a, .int .i64 (noteR k e ps[i]).d, .flt .f32 (noteR k e ps[i]).s, .int .i64 (noteR k e ps[i]).r] = e.cells := rfl
      have hpc : [.int .i64 ps[i].st, .int .i64 ps[i].du, .int .i64 (noteR k e ps[i]).p, .flt .f32 (noteR k e ps[i]).g] = ps[i].cells := rfl
      have hkx : (noteR k e ps[i]).k = k := rfl
      rw [hec, hpc, hkx] at hrun
      have hxl : (tabTo (noteR k e ps[i]).val N).length = N := tabTo_len
      generalize tabTo (noteR k e ps[i]).val N = xs at *
      have rE0 := fun t => (hc.app (t := t)).rd (off := 0) (n := 4) (by simp [Ev.cells])
      simp only [List.drop_zero, hte] at rE0
      have hle4 : ps[i].cells.length = 4 := rfl
      have hte4 : List.take 4 ps[i].cells = ps[i].cells := rfl
      have kx := Kept.app g [⟨ps[i].cells, .own 40 1⟩]
      have rB : rdCells (g ++ [⟨ps[i].cells, .own 40 1⟩]) g.length 0 1 = some [.int .i64 B] := by
        rw [hb0]; simp [Nt.cells]
      clear hs hK x1 x2 x3 hkx hgd hcur hec hpc
      repeat' (first | (simp (disch := first | omega | assumption | (simp only [List.length_set]; omega) | (simp [*] <;> fail) | assumption) [-Bool.decide_and, -Bool.decide_or, -Bool.not_and, -Bool.not_or, toNat_pred, toNat_succ, wrap64, wr_new, wr_new0, ok_if, ok_ifn, iadV_sl, makeV_int, decT, decF, over_at, *, hA1.len, hA1.at_, hA1.at_', hA1.rd, hA1.rdIn, hA1.rdIn0, hA1.rdA, hA1.rdInA, hA1.rdIn0A, leavesAll, fillL]) | (with_reducible refine Gd_split (fun hc => ?_) (fun hc => ?_) <;> (have hc2 := hc; try simp at hc2)) | (with_reducible refine Br_split (fun hc => ?_) (fun hc => ?_) <;> (have hc2 := hc; try simp at hc2)) | (with_reducible refine GdT_split (fun hc => ?_) (fun hc => ?_) <;> (have hc2 := hc; try simp at hc2)) | (with_reducible refine WT_alt ?_ ?_) | omega)
      refine hrun _ _ fun ow g1 hW => ?_
      clear hrun
      have k1' := kx.trans hW.kept
      have hN1 := hN.later k1'
      have hE1 := hE.later k1'
      have hc1 := hc.kept k1'
      have hW1 := hW.base (hkg.trans kx)
      have hg1 := k1'.1
      have hfw : Far o ow := fun p1 p2 q => by have w1 := (hW.lt p2).1; have w2 := (hN.lt p1).2; simp at w1; omega
      have rB1 := hW.kept.rd rB
      clear hW
      repeat' (first | (simp (disch := first | omega | assumption | (simp only [List.length_set]; omega) | (simp [*] <;> fail) | assumption) [-Bool.decide_and, -Bool.decide_or, -Bool.not_and, -Bool.not_or, toNat_pred, toNat_succ, wrap64, wr_new, wr_new0, ok_if, ok_ifn, iadV_sl, makeV_int, decT, decF, over_at, *]) | (with_reducible refine Gd_split (fun hc => ?_) (fun hc => ?_) <;> (have hc2 := hc; try simp at hc2)) | (with_reducible refine Br_split (fun hc => ?_) (fun hc => ?_) <;> (have hc2 := hc; try simp at hc2)) | (with_reducible refine GdT_split (fun hc => ?_) (fun hc => ?_) <;> (have hc2 := hc; try simp at hc2)) | (with_reducible refine WT_alt ?_ ?_) | omega)
      obtain ⟨C, hC⟩ : ∃ C, (min (N : Int) ee - B).toNat = C := ⟨_, rfl⟩
      refine WL_forM 9444723958540035817472 (by decide +kernel) (C) (fun c b' g' => c ≤ C ∧ b' 17 = .lf (.int .i64 (B + c)) ∧ New h g' o 24 1 ((addW B ee xs cur (B + c)).map fl) ∧ New h g' oe 2 1 ((endsTo ps v e.r ps.length).map il) ∧ New h g' ow 24 1 (xs.map fl) ∧ Cel g' h.length 26 e.cells ∧ g1.length ≤ g'.length) (fun _ _ _ hi => hi.1) ⟨by omega, by simp [hb0], by rw [addW_low (by omega)]; exact hN1, hE1, hW1, hc1, Nat.le_refl _⟩ ?_
      rintro c b' g' ⟨hj, e17, hN2, hE2, hW2, hc2, hgj⟩
      have rE := hE2.arr.rd1 hEi
      rw [hee] at rE
      obtain ⟨P, hP⟩ : ∃ P : Nat, (B : Int) + (c : Int) = P := ⟨B + c, by omega⟩
      have hPb : B + c = P := by omega
      rw [hP] at e17
      rw [hPb] at hN2
      have hal : (addW B ee xs cur P).length = N := by rw [addW_len, hcl]
      by_cases hjn : c < C
      · have hPn : P < N := by omega
        have hw : (P : Int) < min (N : Int) ee := by omega
        have s1 := addW_yes (b := B) (e := ee) (m := P) (xs := xs) (out := cur) ⟨by omega, by omega⟩ (by omega) (by omega)
        have s1H : Hid (addW B ee xs cur (P + 1) = (addW B ee xs cur P).set P (fbin .add .f32 ((addW B ee xs cur P)[P]'(by omega)) (xs[P]'(by omega)))) := s1
        clear s1
        have hP1 : B + (c + 1) = P + 1 := by omega
        have hiL : P < (addW B ee xs cur P).length := by omega
        have hiX : P < xs.length := by omega
        have aN := hN2.arr.at_ (k := .i64) hiL
        have dN := hN2.arr.rd1 hiL
        have aX := hW2.arr.at_ (k := .i64) hiX
        have dX := hW2.arr.rd1 hiX
        have wN := fun v K => oc_wr (lim := lim) (K := K) (i := P) (c := .flt .f32 v) hN2 (by simpa using hiL) hl
        repeat' (first | (simp (disch := first | omega | assumption | (simp only [List.length_set]; omega) | (simp [*] <;> fail) | assumption) [-Bool.decide_and, -Bool.decide_or, -Bool.not_and, -Bool.not_or, toNat_pred, toNat_succ, wrap64, wr_new, wr_new0, ok_if, ok_ifn, iadV_sl, makeV_int, decT, decF, over_at, *, fl, il, min_i]) | (with_reducible refine Gd_split (fun hc => ?_) (fun hc => ?_) <;> (have hc2 := hc; try simp at hc2)) | (with_reducible refine Br_split (fun hc => ?_) (fun hc => ?_) <;> (have hc2 := hc; try simp at hc2)) | (with_reducible refine GdT_split (fun hc => ?_) (fun hc => ?_) <;> (have hc2 := hc; try simp at hc2)) | (with_reducible refine WT_alt ?_ ?_) | omega)
        refine wN _ _ fun g3 h3 hB3 => ?_
        rw [fl_set, ← show addW B ee xs cur (P + 1) = _ from s1H] at h3
        have hE3 := (hB3.buts).new hE2 (fun s hs q => by rw [List.mem_singleton] at hs; subst hs; have := hoi q; omega) (fun s hs => by rw [List.mem_singleton] at hs; subst hs; exact hfe)
        have hW3 := (hB3.buts).new hW2 (fun s hs q => by rw [List.mem_singleton] at hs; subst hs; have := hoi q; omega) (fun s hs => by rw [List.mem_singleton] at hs; subst hs; exact hfw)
        have hc3 := hc2.but hB3 (fun q => by have := hoi q; omega)
        have hl3 := hB3.len
        clear wN aN dN aX dX hB3 s1H hN2 hE2 hW2 hc2
        repeat' (first | (simp (disch := first | omega | assumption | (simp only [List.length_set]; omega) | (simp [*] <;> fail) | assumption) [-Bool.decide_and, -Bool.decide_or, -Bool.not_and, -Bool.not_or, toNat_pred, toNat_succ, wrap64, wr_new, wr_new0, ok_if, ok_ifn, iadV_sl, makeV_int, decT, decF, over_at, *]) | (with_reducible refine Gd_split (fun hc => ?_) (fun hc => ?_) <;> (have hc2 := hc; try simp at hc2)) | (with_reducible refine Br_split (fun hc => ?_) (fun hc => ?_) <;> (have hc2 := hc; try simp at hc2)) | (with_reducible refine GdT_split (fun hc => ?_) (fun hc => ?_) <;> (have hc2 := hc; try simp at hc2)) | (with_reducible refine WT_alt ?_ ?_) | omega)
        all_goals (repeat' apply And.intro) <;> first | assumption | omega
      · have : c = C := by omega
        subst this
        have hw : ¬ (P : Int) < min (N : Int) ee := by omega
        have hfin : addW B ee xs cur P = addW B ee xs cur N := by
          rw [addW_all (m := P) (fun j q1 q2 q3 => by rw [hcl] at q1; omega), hcl]
        rw [hfin] at hN2
        clear hfin
        repeat' (first | (simp (disch := first | omega | assumption | (simp only [List.length_set]; omega) | (simp [*] <;> fail) | assumption) [-Bool.decide_and, -Bool.decide_or, -Bool.not_and, -Bool.not_or, toNat_pred, toNat_succ, wrap64, wr_new, wr_new0, ok_if, ok_ifn, iadV_sl, makeV_int, decT, decF, over_at, *, fl, il, min_i]) | (with_reducible refine Gd_split (fun hc => ?_) (fun hc => ?_) <;> (have hc2 := hc; try simp at hc2)) | (with_reducible refine Br_split (fun hc => ?_) (fun hc => ?_) <;> (have hc2 := hc; try simp at hc2)) | (with_reducible refine GdT_split (fun hc => ?_) (fun hc => ?_) <;> (have hc2 := hc; try simp at hc2)) | (with_reducible refine WT_alt ?_ ?_) | omega)
        all_goals (repeat' apply And.intro) <;> first | assumption | omega | (rw [show raTo k e ps v N (i + 1) = _ from hsH]; assumption)
    · have : i = ps.length := by omega
      subst this
      have hk2 := hK _ _ hN
      clear hK
      repeat' (first | (simp (disch := first | omega | assumption | (simp only [List.length_set]; omega) | (simp [*] <;> fail) | assumption) [-Bool.decide_and, -Bool.decide_or, -Bool.not_and, -Bool.not_or, toNat_pred, toNat_succ, wrap64, wr_new, wr_new0, ok_if, ok_ifn, iadV_sl, makeV_int, decT, decF, over_at, *, hA1.len]) | (with_reducible refine Gd_split (fun hc => ?_) (fun hc => ?_) <;> (have hc2 := hc; try simp at hc2)) | (with_reducible refine Br_split (fun hc => ?_) (fun hc => ?_) <;> (have hc2 := hc; try simp at hc2)) | (with_reducible refine GdT_split (fun hc => ?_) (fun hc => ?_) <;> (have hc2 := hc; try simp at hc2)) | (with_reducible refine WT_alt ?_ ?_) | omega)
  · have hk2 := hK .nils _ (by unfold raR; rw [if_neg hok]; exact New.nil kb)
    rw [decide_eq_false hok] at hk2
    clear hK
    by_cases k1 : 0 ≤ k ∧ k ≤ 3
    · by_cases k2 : okEn e ps v
      · have k5 : ¬ (0 ≤ n ∧ n ≤ 256) := fun q => hok ⟨k1, k2, q⟩
        rw [decide_eq_true k2] at av
        clear hok k2
        refine CallT_of_body (F := L11) (HasRa.f11) rfl ?_; unfold L11; dsimp only []
        repeat' (first | (simp (disch := first | omega | assumption | (simp only [List.length_set]; omega) | (simp [*] <;> fail) | assumption) [-Bool.decide_and, -Bool.decide_or, -Bool.not_and, -Bool.not_or, toNat_pred, toNat_succ, wrap64, wr_new, wr_new0, ok_if, ok_ifn, iadV_sl, makeV_int, decT, decF, over_at, *]) | (with_reducible refine Gd_split (fun hc => ?_) (fun hc => ?_) <;> (have hc2 := hc; try simp at hc2)) | (with_reducible refine Br_split (fun hc => ?_) (fun hc => ?_) <;> (have hc2 := hc; try simp at hc2)) | (with_reducible refine GdT_split (fun hc => ?_) (fun hc => ?_) <;> (have hc2 := hc; try simp at hc2)) | (with_reducible refine WT_alt ?_ ?_) | omega)
      · rw [decide_eq_false k2] at av
        clear hok k2
        refine CallT_of_body (F := L11) (HasRa.f11) rfl ?_; unfold L11; dsimp only []
        repeat' (first | (simp (disch := first | omega | assumption | (simp only [List.length_set]; omega) | (simp [*] <;> fail) | assumption) [-Bool.decide_and, -Bool.decide_or, -Bool.not_and, -Bool.not_or, toNat_pred, toNat_succ, wrap64, wr_new, wr_new0, ok_if, ok_ifn, iadV_sl, makeV_int, decT, decF, over_at, *]) | (with_reducible refine Gd_split (fun hc => ?_) (fun hc => ?_) <;> (have hc2 := hc; try simp at hc2)) | (with_reducible refine Br_split (fun hc => ?_) (fun hc => ?_) <;> (have hc2 := hc; try simp at hc2)) | (with_reducible refine GdT_split (fun hc => ?_) (fun hc => ?_) <;> (have hc2 := hc; try simp at hc2)) | (with_reducible refine WT_alt ?_ ?_) | omega)
    · clear hok
      refine CallT_of_body (F := L11) (HasRa.f11) rfl ?_; unfold L11; dsimp only []
      repeat' (first | (simp (disch := first | omega | assumption | (simp only [List.length_set]; omega) | (simp [*] <;> fail) | assumption) [-Bool.decide_and, -Bool.decide_or, -Bool.not_and, -Bool.not_or, toNat_pred, toNat_succ, wrap64, wr_new, wr_new0, ok_if, ok_ifn, iadV_sl, makeV_int, decT, decF, over_at, *]) | (with_reducible refine Gd_split (fun hc => ?_) (fun hc => ?_) <;> (have hc2 := hc; try simp at hc2)) | (with_reducible refine Br_split (fun hc => ?_) (fun hc => ?_) <;> (have hc2 := hc; try simp at hc2)) | (with_reducible refine GdT_split (fun hc => ?_) (fun hc => ?_) <;> (have hc2 := hc; try simp at hc2)) | (with_reducible refine WT_alt ?_ ?_) | omega)
end
end Go.E
