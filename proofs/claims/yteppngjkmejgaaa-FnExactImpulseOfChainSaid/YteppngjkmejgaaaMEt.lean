/- The limiter that looks ahead, the reference's side. -/
import Derived.Test.YteppngjkmejgaaaMEs
set_option linter.unusedVariables false
set_option linter.unusedSimpArgs false
namespace Go.E
open Go
def L60 : LFn := ⟨2, (.seq (.reg [⟨(.some 2), (.box 91 (.t 0)), none⟩, ⟨(.some 4), (.mv (.c (.lf .nils))), none⟩, ⟨(.some 5), (.alloc 91 [(.flt .f32 0), (.flt .f32 0), (.flt .f32 0), .nils]), none⟩, ⟨(.some 6), (.mv (.c (.lf (.bool false)))), none⟩])
 (.seq (.seq (.reg [⟨(.some 14), (.mv (.t 1)), none⟩, ⟨(.some 15), (.call true 40 [(.t 14)]), none⟩, ⟨(.some 16), (.una .not (.t 15)), none⟩, ⟨(.some 17), (.mv (.t 16)), none⟩, ⟨(.some 18), (.faddr 0 (.t 2)), (.some (17, false))⟩, ⟨(.some 19), (.load false 1 (.t 18)), (.some (17, false))⟩, ⟨(.some 20), (.call true 53 [(.t 19)]), (.some (17, false))⟩, ⟨(.some 21), (.una .not (.t 20)), (.some (17, false))⟩, ⟨(.some 22), (.pick (.t 17) (.c (.lf (.bool true))) (.t 21)), none⟩, ⟨(.some 23), (.mv (.t 22)), none⟩, ⟨(.some 24), (.faddr 3 (.t 2)), (.some (23, false))⟩, ⟨(.some 25), (.load false 1 (.t 24)), (.some (23, false))⟩, ⟨(.some 26), (.len (.t 25)), (.some (23, false))⟩, ⟨(.some 27), (.bin .gtr (.t 26) (.c (.lf (.int .i64 64)))), (.some (23, false))⟩, ⟨(.some 28), (.pick (.t 23) (.c (.lf (.bool true))) (.t 27)), none⟩])
 (.cond (.t 28) (.seq (.reg [⟨(.some 29), (.build [(.flt .f32 0), (.flt .f32 0), (.flt .f32 0), .nils] []), none⟩, ⟨(.some 4), (.mv (.c (.lf .nils))), none⟩, ⟨none, (.store 4 (.t 5) (.t 29)), none⟩, ⟨(.some 6), (.mv (.c (.lf (.bool false)))), none⟩])
 .ret) .skip))
 (.seq (.reg [⟨(.some 30), (.lit 50 1 0 [] []), none⟩, ⟨(.some 31), (.faddr 3 (.t 2)), none⟩, ⟨(.some 32), (.load false 1 (.t 31)), none⟩, ⟨(.some 33), (.app 50 1 4 (.t 30) (.t 32)), none⟩, ⟨(.some 7), (.mv (.t 33)), none⟩])
 (.seq (.reg [⟨(.some 34), (.lit 50 1 0 [] []), none⟩, ⟨(.some 8), (.mv (.t 34)), none⟩])
 (.seq (.seq (.reg [⟨(.some 9), (.mv (.c (.lf (.int .i64 0)))), none⟩])
 (.block 0 (.loop (.seq (.seq (.reg [⟨(.some 35), (.mv (.t 9)), none⟩, ⟨(.some 36), (.mv (.t 1)), none⟩, ⟨(.some 37), (.len (.t 36)), none⟩, ⟨(.some 38), (.bin .lss (.t 35) (.t 37)), none⟩])
 (.cond (.t 38) .skip (.exit 0)))
 (.seq (.block 1 (.seq (.reg [⟨(.some 41), (.mv (.t 7)), none⟩, ⟨(.some 42), (.mv (.t 1)), none⟩, ⟨(.some 43), (.mv (.t 9)), none⟩, ⟨(.some 44), (.iaddr 1 (.t 42) (.t 43)), none⟩, ⟨(.some 45), (.load false 1 (.t 44)), none⟩, ⟨(.some 46), (.lit 50 1 1 [(.flt .f32 0)] [(0, (1, (.t 45)))]), none⟩, ⟨(.some 47), (.app 50 1 4 (.t 41) (.t 46)), none⟩, ⟨(.some 7), (.mv (.t 47)), none⟩])
 (.seq (.reg [⟨(.some 10), (.mv (.c (.lf (.flt .f32 0)))), none⟩])
 (.seq (.seq (.reg [⟨(.some 11), (.mv (.c (.lf (.int .i64 0)))), none⟩])
 (.block 2 (.loop (.seq (.seq (.reg [⟨(.some 48), (.mv (.t 11)), none⟩, ⟨(.some 49), (.mv (.t 7)), none⟩, ⟨(.some 50), (.len (.t 49)), none⟩, ⟨(.some 51), (.bin .lss (.t 48) (.t 50)), none⟩])
 (.cond (.t 51) .skip (.exit 2)))
 (.seq (.block 3 (.seq (.reg [⟨(.some 54), (.mv (.t 7)), none⟩, ⟨(.some 55), (.mv (.t 11)), none⟩, ⟨(.some 56), (.iaddr 1 (.t 54) (.t 55)), none⟩, ⟨(.some 57), (.load false 1 (.t 56)), none⟩, ⟨(.some 58), (.call true 78 [(.t 57)]), none⟩, ⟨(.some 59), (.mv (.t 10)), none⟩, ⟨(.some 60), (.bin .gtr (.t 58) (.t 59)), none⟩])
 (.cond (.t 60) (.reg [⟨(.some 61), (.mv (.t 7)), none⟩, ⟨(.some 62), (.mv (.t 11)), none⟩, ⟨(.some 63), (.iaddr 1 (.t 61) (.t 62)), none⟩, ⟨(.some 64), (.load false 1 (.t 63)), none⟩, ⟨(.some 65), (.call true 78 [(.t 64)]), none⟩, ⟨(.some 10), (.mv (.t 65)), none⟩]) .skip)))
 (.reg [⟨(.some 52), (.mv (.t 11)), none⟩, ⟨(.some 53), (.bin .add (.t 52) (.c (.lf (.int .i64 1)))), none⟩, ⟨(.some 11), (.mv (.t 53)), none⟩]))))))
 (.seq (.reg [⟨(.some 12), (.mv (.c (.lf (.flt .f32 1065353216)))), none⟩])
 (.seq (.seq (.reg [⟨(.some 66), (.mv (.t 10)), none⟩, ⟨(.some 67), (.faddr 0 (.t 2)), none⟩, ⟨(.some 68), (.load false 1 (.t 67)), none⟩, ⟨(.some 69), (.bin .gtr (.t 66) (.t 68)), none⟩])
 (.cond (.t 69) (.reg [⟨(.some 70), (.faddr 0 (.t 2)), none⟩, ⟨(.some 71), (.load false 1 (.t 70)), none⟩, ⟨(.some 72), (.mv (.t 10)), none⟩, ⟨(.some 73), (.bin .quo (.t 71) (.t 72)), none⟩, ⟨(.some 12), (.mv (.t 73)), none⟩]) .skip))
 (.seq (.reg [⟨(.some 74), (.faddr 2 (.t 2)), none⟩, ⟨(.some 75), (.load false 1 (.t 74)), none⟩, ⟨(.some 76), (.faddr 1 (.t 2)), none⟩, ⟨(.some 77), (.load false 1 (.t 76)), none⟩, ⟨(.some 78), (.bin .add (.t 75) (.t 77)), none⟩, ⟨(.some 13), (.mv (.t 78)), none⟩])
 (.seq (.seq (.reg [⟨(.some 79), (.mv (.t 12)), none⟩, ⟨(.some 80), (.mv (.t 13)), none⟩, ⟨(.some 81), (.bin .lss (.t 79) (.t 80)), none⟩, ⟨(.some 82), (.mv (.t 81)), none⟩, ⟨(.some 83), (.mv (.t 13)), (.some (82, false))⟩, ⟨(.some 84), (.mv (.t 13)), (.some (82, false))⟩, ⟨(.some 85), (.bin .neq (.t 83) (.t 84)), (.some (82, false))⟩, ⟨(.some 86), (.pick (.t 82) (.c (.lf (.bool true))) (.t 85)), none⟩])
 (.cond (.t 86) (.reg [⟨(.some 87), (.mv (.t 12)), none⟩, ⟨(.some 13), (.mv (.t 87)), none⟩]) .skip))
 (.seq (.reg [⟨(.some 88), (.mv (.t 13)), none⟩, ⟨(.some 89), (.faddr 2 (.t 2)), none⟩, ⟨none, (.store 1 (.t 89) (.t 88)), none⟩])
 (.seq (.reg [⟨(.some 90), (.mv (.t 8)), none⟩, ⟨(.some 91), (.mv (.t 7)), none⟩, ⟨(.some 92), (.iaddr 1 (.t 91) (.c (.lf (.int .i64 0)))), none⟩, ⟨(.some 93), (.load false 1 (.t 92)), none⟩, ⟨(.some 94), (.mv (.t 13)), none⟩, ⟨(.some 95), (.bin .mul (.t 93) (.t 94)), none⟩, ⟨(.some 96), (.faddr 0 (.t 2)), none⟩, ⟨(.some 97), (.load false 1 (.t 96)), none⟩, ⟨(.some 98), (.call true 77 [(.t 95), (.t 97)]), none⟩, ⟨(.some 99), (.lit 50 1 1 [(.flt .f32 0)] [(0, (1, (.t 98)))]), none⟩, ⟨(.some 100), (.app 50 1 4 (.t 90) (.t 99)), none⟩, ⟨(.some 8), (.mv (.t 100)), none⟩])
 (.reg [⟨(.some 101), (.lit 50 1 0 [] []), none⟩, ⟨(.some 102), (.mv (.t 7)), none⟩, ⟨(.some 103), (.slice 1 (.t 102) (.some (.c (.lf (.int .i64 1)))) none), none⟩, ⟨(.some 104), (.app 50 1 4 (.t 101) (.t 103)), none⟩, ⟨(.some 7), (.mv (.t 104)), none⟩])))))))))))
 (.reg [⟨(.some 39), (.mv (.t 9)), none⟩, ⟨(.some 40), (.bin .add (.t 39) (.c (.lf (.int .i64 1)))), none⟩, ⟨(.some 9), (.mv (.t 40)), none⟩]))))))
 (.seq (.reg [⟨(.some 105), (.mv (.t 7)), none⟩, ⟨(.some 106), (.faddr 3 (.t 2)), none⟩, ⟨none, (.store 1 (.t 106) (.t 105)), none⟩])
 (.seq (.reg [⟨(.some 107), (.mv (.t 8)), none⟩, ⟨(.some 108), (.load true 4 (.t 2)), none⟩, ⟨(.some 4), (.mv (.t 107)), none⟩, ⟨none, (.store 4 (.t 5) (.t 108)), none⟩, ⟨(.some 6), (.mv (.c (.lf (.bool true)))), none⟩])
 .ret))))))), [(.tmp 4), (.cell 5 true 4), (.tmp 6)]⟩
class HasZl (S : Sys) : Prop extends HasZs S, HasEf S where
  f60 : S.fs 60 = some L60
section
variable {S : Sys} {lim : Nat} {h : Hp} {K : CV → Hp → Prop} [HasZl S] {l l2 : Lf} {xs : List Nat}
set_option maxHeartbeats 8000000 in
theorem c_specLimiter {L rise gain : Nat} {ah : List Nat} (hL : limB L = true) (hS : Sm h l2 ah) (hah : ah.length ≤ 64) (hac : ∀ x ∈ ah, CF x) (hA : Arr h l 1 (xs.map fl)) (hx : ∀ x ∈ xs, CF x) (hn : xs.length ≤ 256) (hl : lim ≤ h.length)
    (hK : ∀ o s g, New h g o 50 1 ((scan (limS L rise) (gain, ah) xs).1.map fl) → New h g s 50 1 ((scan (limS L rise) (gain, ah) xs).2.2.map fl) → Far o s → K (.tup [.lf o, .agg [.flt .f32 L, .flt .f32 rise, .flt .f32 (scan (limS L rise) (gain, ah) xs).2.1, s], .lf (.bool true)]) g) :
    CallT S false 60 [.agg [.flt .f32 L, .flt .f32 rise, .flt .f32 gain, l2], .lf l] h lim K := by
  have hll := hS.arr.len
  have kb := Kept.app h [⟨[.flt .f32 L, .flt .f32 rise, .flt .f32 gain, l2], .own 91 1⟩, ⟨[.flt .f32 0, .flt .f32 0, .flt .f32 0, .nils], .own 91 1⟩]
  obtain ⟨c0, g0, i1, i2, i3⟩ := (New.litN (ty := 50) (sz := 1) (Kept.refl (h ++ [⟨[.flt .f32 L, .flt .f32 rise, .flt .f32 gain, l2], .own 91 1⟩, ⟨[.flt .f32 0, .flt .f32 0, .flt .f32 0, .nils], .own 91 1⟩]))).joined (ys := []) (lim := lim) (hS.kept (kb.trans (Kept.app _ _))) (by simp; omega) (by simp; omega)
  rw [List.nil_append] at i2
  simp only [List.append_assoc, List.cons_append, List.nil_append, List.length_append, List.length_cons, List.length_nil] at i1
  refine CallT_of_body (F := L60) (HasZl.f60) rfl ?_; unfold L60; dsimp only []
  repeat' (first | (simp (disch := first | omega | assumption | (simp only [List.length_set]; omega) | (simp [*] <;> fail) | assumption) [-Bool.decide_and, -Bool.decide_or, -Bool.not_and, -Bool.not_or, toNat_pred, toNat_succ, wrap64, wr_new, wr_new0, ok_if, ok_ifn, iadV_sl, makeV_int, decT, decF, over_at, *, c_l01Few hA.app, leavesAll, fillL]) | (with_reducible refine Gd_split (fun hc => ?_) (fun hc => ?_) <;> (have hc2 := hc; try simp at hc2)) | (with_reducible refine Br_split (fun hc => ?_) (fun hc => ?_) <;> (have hc2 := hc; try simp at hc2)) | (with_reducible refine GdT_split (fun hc => ?_) (fun hc => ?_) <;> (have hc2 := hc; try simp at hc2)) | (with_reducible refine WT_alt ?_ ?_) | omega)
  have hk0 := kb.trans i2.kept
  have hl0 := i2.lt
  have hg0l := i2.kept.1
  have hb0 : Cel g0 h.length 91 [.flt .f32 L, .flt .f32 rise, .flt .f32 gain, l2] := Cel.kept (by simp [Cel]) i2.kept
  have hb1 : Cel g0 (h.length + 1) 91 [.flt .f32 0, .flt .f32 0, .flt .f32 0, .nils] := Cel.kept (by simp [Cel]) i2.kept
  simp only [List.length_append, List.length_cons, List.length_nil] at hg0l hl0
  refine WL_forM 40564819207303340847860142849920 (by decide +kernel) (xs.length) (fun i b g => i ≤ xs.length ∧ b 9 = .lf (.int .i64 i) ∧ ∃ (o al : Lf), b 8 = .lf o ∧ b 7 = .lf al ∧ New h g o 50 1 ((outTo (limS L rise) (gain, ah) xs i).map fl) ∧ New h g al 50 1 ((stTo (limS L rise) (gain, ah) xs i).2.map fl) ∧ Cel g h.length 91 [.flt .f32 L, .flt .f32 rise, .flt .f32 (stTo (limS L rise) (gain, ah) xs i).1, l2] ∧ Cel g (h.length + 1) 91 [.flt .f32 0, .flt .f32 0, .flt .f32 0, .nils] ∧ Not o h.length ∧ Not o (h.length + 1) ∧ Not al h.length ∧ Not al (h.length + 1) ∧ Far o al) (fun _ _ _ hi => hi.1) ?_ ?_
  · refine ⟨by omega, by simp, .sl g0.length 0 0 1, c0, by simp, by simp, ?_, ?_, ?_, ?_, fun _ => by simp only [Lf.id_sl]; omega, fun _ => by simp only [Lf.id_sl]; omega, fun q => by have := (hl0 q).1; omega, fun q => by have := (hl0 q).1; omega, fun _ q => by have := (hl0 q).2; simp only [Lf.id_sl]; omega⟩
    · simpa using New.litN (ty := 50) (sz := 1) hk0
    · simpa using (i2.base kb).app
    · simpa using hb0.app
    · simpa using hb1.app
  rintro i b g ⟨hi, e9, o, al, e8, e7, hN, hM, hc2, hc5, no2, no5, na2, na5, hf⟩
  have hk := hN.kept
  have hk1 := hk.1
  have hA1 := hA.kept hk
  have hlt2 := hc2.lt
  have hlt5 := hc5.lt
  have hol := outTo_len (step := limS L rise) (s := (gain, ah)) hi
  have hsz : aheadOk (stTo (limS L rise) (gain, ah) xs i) ah.length := stTo_inv (I := fun st => aheadOk st ah.length) ⟨rfl, hac⟩ (fun t x ht hx' => limS_ok ht (hx x hx')) hi
  clear i1 i2 i3 hb0 hb1 hl0 hg0l hk0
  by_cases hlt : i < xs.length
  · have s1 := outTo_fl (step := limS L rise) (s := (gain, ah)) hlt
    have s2 := stTo_succ (step := limS L rise) (s := (gain, ah)) hlt
    generalize stTo (limS L rise) (gain, ah) xs i = st at *
    obtain ⟨gn, ahd⟩ := st
    simp only at hM hc2
    obtain ⟨hz1, hz2⟩ := hsz
    simp only at hz1 hz2
    have hxi := hx _ (List.getElem_mem hlt)
    have hg0 : (ahd ++ [xs[i]]).getD 0 0 = (ahd ++ [xs[i]])[0]'(by simp) := by simp
    obtain ⟨gv, hgv⟩ : ∃ gv, limG (limT L (pkTo (ahd ++ [xs[i]]) (ahd ++ [xs[i]]).length)) (fbin .add .f32 gn rise) = gv := ⟨_, rfl⟩
    unfold limS at s1 s2
    simp only [hg0, hgv] at s1 s2
    have s1H : Hid ((outTo (limS L rise) (gain, ah) xs (i + 1)).map fl = (outTo (limS L rise) (gain, ah) xs i).map fl ++ [[.flt .f32 (clipF L (fbin .mul .f32 ((ahd ++ [xs[i]])[0]'(by simp)) gv))]]) := s1
    have s2H : Hid (stTo (limS L rise) (gain, ah) xs (i + 1) = (gv, (ahd ++ [xs[i]]).drop 1)) := s2
    clear hK s1 s2 hg0
    repeat' (first | (simp (disch := first | omega | assumption | (simp only [List.length_set]; omega) | (simp [*] <;> fail) | assumption) [-Bool.decide_and, -Bool.decide_or, -Bool.not_and, -Bool.not_or, toNat_pred, toNat_succ, wrap64, wr_new, wr_new0, ok_if, ok_ifn, iadV_sl, makeV_int, decT, decF, over_at, *, hA1.len, hA1.at_, hA1.at_', hA1.rd, hA1.rdIn, hA1.rdIn0, hA1.rdA, hA1.rdInA, hA1.rdIn0A, hA1.rd1, fl, leavesAll, fillL]) | (with_reducible refine Gd_split (fun hc => ?_) (fun hc => ?_) <;> (have hc2 := hc; try simp at hc2)) | (with_reducible refine Br_split (fun hc => ?_) (fun hc => ?_) <;> (have hc2 := hc; try simp at hc2)) | (with_reducible refine GdT_split (fun hc => ?_) (fun hc => ?_) <;> (have hc2 := hc; try simp at hc2)) | (with_reducible refine WT_alt ?_ ?_) | omega)
    refine oc_push (bytes := 4) (r := [.flt .f32 xs[i]]) hM ?_ ?_ ?_ (by decide) rfl (by decide)
    · exact hl
    · simp; omega
    intro al2 g2 hA2 hB2
    have hA2' : New h g2 al2 50 1 ((ahd ++ [xs[i]]).map fl) := by rw [List.map_append]; exact hA2
    obtain ⟨hN2, hf2⟩ := hB2.other hM hN hf.symm
    have hfo := hf2.symm
    have hc2' := hc2.but hB2 fun q => (na2 q).symm
    have hc5' := hc5.but hB2 fun q => (na5 q).symm
    have nal2 := na2.but hB2 (by omega)
    have nal5 := na5.but hB2 (by omega)
    have hlt2' := hc2'.lt
    have hk21 := hA2'.kept.1
    have hall : ∀ y ∈ ahd ++ [xs[i]], CF y := fun y hy => by
      rcases List.mem_append.1 hy with q | q
      · exact hz2 y q
      · simp only [List.mem_singleton] at q; subst q; exact hxi
    have hYA := hA2'.arr
    have q0 : rdCells g2 h.length 0 1 = some [.flt .f32 L] := by have := hc2'.rd (off := 0) (n := 1) (by simp); simpa using this
    have q1 : rdCells g2 h.length 1 1 = some [.flt .f32 rise] := by have := hc2'.rd (off := 1) (n := 1) (by simp); simpa using this
    have q2 : rdCells g2 h.length 2 1 = some [.flt .f32 gn] := by have := hc2'.rd (off := 2) (n := 1) (by simp); simpa using this
    have w2 : ∀ q, wrCells lim g2 h.length 2 [.flt .f32 q] = some (g2.set h.length ⟨[.flt .f32 L, .flt .f32 rise, .flt .f32 q, l2], .own 91 1⟩) := fun q => by
      rw [wr_get1 hc2' hl (by simp)]; rfl
    have h0l : 0 < (ahd ++ [xs[i]]).length := by simp
    have h65 : (ahd ++ [xs[i]]).length ≤ 65 := by simp; omega
    clear hA2 hB2 hM hc2 hc5 hA1 hN na2 na5 hf hf2
    repeat' (first | (simp (disch := first | omega | assumption | (simp only [List.length_set]; omega) | (simp [*] <;> fail) | assumption) [-Bool.decide_and, -Bool.decide_or, -Bool.not_and, -Bool.not_or, toNat_pred, toNat_succ, wrap64, wr_new, wr_new0, ok_if, ok_ifn, iadV_sl, makeV_int, decT, decF, over_at, *]) | (with_reducible refine Gd_split (fun hc => ?_) (fun hc => ?_) <;> (have hc2 := hc; try simp at hc2)) | (with_reducible refine Br_split (fun hc => ?_) (fun hc => ?_) <;> (have hc2 := hc; try simp at hc2)) | (with_reducible refine GdT_split (fun hc => ?_) (fun hc => ?_) <;> (have hc2 := hc; try simp at hc2)) | (with_reducible refine WT_alt ?_ ?_) | omega)
    refine WL_forM 73786694819861498880 (by decide +kernel) ((ahd ++ [xs[i]]).length) (fun k b g => k ≤ (ahd ++ [xs[i]]).length ∧ b 11 = .lf (.int .i64 k) ∧ b 10 = .lf (.flt .f32 (pkTo (ahd ++ [xs[i]]) k)) ∧ g2 = g) (fun _ _ _ hi => hi.1) ⟨by omega, by simp, by simp [pkTo_zero], rfl⟩ ?_
    rintro k b3 g3 ⟨hk3, e11, e10, rfl⟩
    have hYl := hYA.len
    by_cases hkl : k < (ahd ++ [xs[i]]).length
    · have hkl2 : k < ahd.length + 1 := by simpa using hkl
      have hp := pkTo_succ hkl
      have hyk := hall _ (List.getElem_mem hkl)
      have hyr := hYA.rd1 hkl
      have hya := hYA.at_ (k := .i64) hkl
      rw [Nat.mul_one] at hya
      have hsz2 := fun h lim K => c_l04Size (S := S) (h := h) (lim := lim) (K := K) hyk
      generalize (ahd ++ [xs[i]])[k] = yk at *
      generalize pkTo (ahd ++ [xs[i]]) k = p at *
      unfold pkS at hp
      simp only [fl] at hyr
      cases hc : fcmp .gtr .f32 (fabs yk) p
      · rw [hc] at hp
        simp only [Bool.false_eq_true, if_false] at hp
        clear hYA w2 hgv
        have hpH : Hid (pkTo (ahd ++ [xs[i]]) (k + 1) = _) := hp
        clear hp
        repeat' (first | (simp (disch := first | omega | assumption | (simp only [List.length_set]; omega) | (simp [*] <;> fail) | assumption) [-Bool.decide_and, -Bool.decide_or, -Bool.not_and, -Bool.not_or, toNat_pred, toNat_succ, wrap64, wr_new, wr_new0, ok_if, ok_ifn, iadV_sl, makeV_int, decT, decF, over_at, *]) | (with_reducible refine Gd_split (fun hc => ?_) (fun hc => ?_) <;> (have hc2 := hc; try simp at hc2)) | (with_reducible refine Br_split (fun hc => ?_) (fun hc => ?_) <;> (have hc2 := hc; try simp at hc2)) | (with_reducible refine GdT_split (fun hc => ?_) (fun hc => ?_) <;> (have hc2 := hc; try simp at hc2)) | (with_reducible refine WT_alt ?_ ?_) | omega)
        exact ⟨by omega, Eq.symm hpH⟩
      · rw [hc] at hp
        simp only [if_true] at hp
        clear hYA w2 hgv
        have hpH : Hid (pkTo (ahd ++ [xs[i]]) (k + 1) = _) := hp
        clear hp
        repeat' (first | (simp (disch := first | omega | assumption | (simp only [List.length_set]; omega) | (simp [*] <;> fail) | assumption) [-Bool.decide_and, -Bool.decide_or, -Bool.not_and, -Bool.not_or, toNat_pred, toNat_succ, wrap64, wr_new, wr_new0, ok_if, ok_ifn, iadV_sl, makeV_int, decT, decF, over_at, *]) | (with_reducible refine Gd_split (fun hc => ?_) (fun hc => ?_) <;> (have hc2 := hc; try simp at hc2)) | (with_reducible refine Br_split (fun hc => ?_) (fun hc => ?_) <;> (have hc2 := hc; try simp at hc2)) | (with_reducible refine GdT_split (fun hc => ?_) (fun hc => ?_) <;> (have hc2 := hc; try simp at hc2)) | (with_reducible refine WT_alt ?_ ?_) | omega)
        exact ⟨by omega, Eq.symm hpH⟩
    · have : k = (ahd ++ [xs[i]]).length := by omega
      subst this
      generalize pkTo (ahd ++ [xs[i]]) (ahd ++ [xs[i]]).length = pk at *
      unfold limG limT at hgv
      cases hT0 : fcmp .gtr .f32 pk L
      · rw [hT0] at hgv
        simp only [Bool.false_eq_true, if_false] at hgv
        cases hG0 : fcmp .lss .f32 1065353216 (fbin .add .f32 gn rise)
        · cases hG1 : fcmp .neq .f32 (fbin .add .f32 gn rise) (fbin .add .f32 gn rise)
          · rw [hG0, hG1] at hgv
            simp only [Bool.or_self, Bool.false_eq_true, if_false] at hgv
            subst hgv
            repeat' (first | (simp (disch := first | omega | assumption | (simp only [List.length_set]; omega) | (simp [*] <;> fail) | assumption) [-Bool.decide_and, -Bool.decide_or, -Bool.not_and, -Bool.not_or, toNat_pred, toNat_succ, wrap64, wr_new, wr_new0, ok_if, ok_ifn, iadV_sl, makeV_int, decT, decF, over_at, *]) | (with_reducible refine Gd_split (fun hc => ?_) (fun hc => ?_) <;> (have hc2 := hc; try simp at hc2)) | (with_reducible refine Br_split (fun hc => ?_) (fun hc => ?_) <;> (have hc2 := hc; try simp at hc2)) | (with_reducible refine GdT_split (fun hc => ?_) (fun hc => ?_) <;> (have hc2 := hc; try simp at hc2)) | (with_reducible refine WT_alt ?_ ?_) | omega)
            have hP := Cel.put (ty := 91) (new := [.flt .f32 L, .flt .f32 rise, .flt .f32 (fbin .add .f32 gn rise), l2]) hlt2'
            have p0 : rdCells (g2.set h.length ⟨[.flt .f32 L, .flt .f32 rise, .flt .f32 (fbin .add .f32 gn rise), l2], .own 91 1⟩) h.length 0 1 = some [.flt .f32 L] := by have := hP.rd (off := 0) (n := 1) (by simp); simpa using this
            have hA3 := hA2'.set_other (o := ⟨[.flt .f32 L, .flt .f32 rise, .flt .f32 (fbin .add .f32 gn rise), l2], .own 91 1⟩) (Nat.le_refl _) nal2
            have hN3 := hN2.set_other (o := ⟨[.flt .f32 L, .flt .f32 rise, .flt .f32 (fbin .add .f32 gn rise), l2], .own 91 1⟩) (Nat.le_refl _) no2
            have hc53 := hc5'.set (o := ⟨[.flt .f32 L, .flt .f32 rise, .flt .f32 (fbin .add .f32 gn rise), l2], .own 91 1⟩) (id2 := h.length) (by omega)
            have hR := hA3.arr
            have hcl := fun h lim K => c_l04Clip (S := S) (h := h) (lim := lim) (K := K) (y := L) (show CF (fbin .mul .f32 (ahd ++ [xs[i]])[0] (fbin .add .f32 gn rise)) from CF_bin)
            generalize clipF L (fbin .mul .f32 (ahd ++ [xs[i]])[0] (fbin .add .f32 gn rise)) = ov at *
            clear hT0 hG0
            repeat' (first | (simp (disch := first | omega | assumption | (simp only [List.length_set]; omega) | (simp [*] <;> fail) | assumption) [-Bool.decide_and, -Bool.decide_or, -Bool.not_and, -Bool.not_or, toNat_pred, toNat_succ, wrap64, wr_new, wr_new0, ok_if, ok_ifn, iadV_sl, makeV_int, decT, decF, over_at, *, hR.at0, hR.rd0, hR.rd0j, hR.rd0A, hR.rd0jA, fl, leavesAll, fillL]) | (with_reducible refine Gd_split (fun hc => ?_) (fun hc => ?_) <;> (have hc2 := hc; try simp at hc2)) | (with_reducible refine Br_split (fun hc => ?_) (fun hc => ?_) <;> (have hc2 := hc; try simp at hc2)) | (with_reducible refine GdT_split (fun hc => ?_) (fun hc => ?_) <;> (have hc2 := hc; try simp at hc2)) | (with_reducible refine WT_alt ?_ ?_) | omega)
            refine oc_pushS (hN3.app (t := [⟨[.flt .f32 ov], .own 50 1⟩])) (r := [.flt .f32 ov]) (by simp [rdCells, List.getElem?_append_right, Ob.live]) hl (by simp; omega) fun o2 g5 hN5 hB5 => ?_
            obtain ⟨hA5, hf5⟩ := hB5.other (hN3.app (t := [⟨[.flt .f32 ov], .own 50 1⟩])) (hA3.app (t := [⟨[.flt .f32 ov], .own 50 1⟩])) hfo
            have d2 := (hP.app (t := [⟨[.flt .f32 ov], .own 50 1⟩])).but hB5 fun q => (no2 q).symm
            have d5 := (hc53.app (t := [⟨[.flt .f32 ov], .own 50 1⟩])).but hB5 fun q => (no5 q).symm
            have n2 := no2.but hB5 (by simp; omega)
            have n5 := no5.but hB5 (by simp; omega)
            rw [← show (outTo (limS L rise) (gain, ah) xs (i + 1)).map fl = _ from s1H] at hN5
            have hg5 := hN5.kept.1
            obtain ⟨al3, g6, j1, j2, j3⟩ := (New.litN (ty := 50) (sz := 1) (Kept.refl g5)).joined (ys := []) (lim := lim) (((Sm.new hA5).drop (j := 1) (by simp)).kept (Kept.app g5 _)) (by omega) (by simp; omega)
            rw [List.nil_append] at j2
            have hN6 := hN5.later j2.kept
            have hA6 := j2.base hN5.kept
            have d26 := d2.kept j2.kept
            have d56 := d5.kept j2.kept
            have hf6 : Far o2 al3 := fun q1 q2 => by have := (hN5.lt q1).2; have := (j2.lt q2).1; omega
            have m2 : Not al3 h.length := fun q => by have := (j2.lt q).1; have := d2.lt; omega
            have m5 : Not al3 (h.length + 1) := fun q => by have := (j2.lt q).1; have := d5.lt; omega
            have e1 : slcV 1 (.lf al2) (some (.lf (.int .i64 1))) none = some (.lf (al2.from_ 1 1)) := slcV_from (j := 1) hA5.arr (by decide) (by simp)
            clear hB5 hP p0 hA3 hN3 hc53 hR hcl hN5 hA5 d2 d5 j2 j3
            repeat' (first | (simp (disch := first | omega | assumption | (simp only [List.length_set]; omega) | (simp [*] <;> fail) | assumption) [-Bool.decide_and, -Bool.decide_or, -Bool.not_and, -Bool.not_or, toNat_pred, toNat_succ, wrap64, wr_new, wr_new0, ok_if, ok_ifn, iadV_sl, makeV_int, decT, decF, over_at, *, leavesAll, fillL]) | (with_reducible refine Gd_split (fun hc => ?_) (fun hc => ?_) <;> (have hc2 := hc; try simp at hc2)) | (with_reducible refine Br_split (fun hc => ?_) (fun hc => ?_) <;> (have hc2 := hc; try simp at hc2)) | (with_reducible refine GdT_split (fun hc => ?_) (fun hc => ?_) <;> (have hc2 := hc; try simp at hc2)) | (with_reducible refine WT_alt ?_ ?_) | omega)
            rw [show stTo (limS L rise) (gain, ah) xs (i + 1) = _ from s2H]
            exact ⟨hlt, hA6, d26⟩
          · rw [hG0, hG1] at hgv
            simp only [Bool.or_true, if_true] at hgv
            subst hgv
            repeat' (first | (simp (disch := first | omega | assumption | (simp only [List.length_set]; omega) | (simp [*] <;> fail) | assumption) [-Bool.decide_and, -Bool.decide_or, -Bool.not_and, -Bool.not_or, toNat_pred, toNat_succ, wrap64, wr_new, wr_new0, ok_if, ok_ifn, iadV_sl, makeV_int, decT, decF, over_at, *]) | (with_reducible refine Gd_split (fun hc => ?_) (fun hc => ?_) <;> (have hc2 := hc; try simp at hc2)) | (with_reducible refine Br_split (fun hc => ?_) (fun hc => ?_) <;> (have hc2 := hc; try simp at hc2)) | (with_reducible refine GdT_split (fun hc => ?_) (fun hc => ?_) <;> (have hc2 := hc; try simp at hc2)) | (with_reducible refine WT_alt ?_ ?_) | omega)
            have hP := Cel.put (ty := 91) (new := [.flt .f32 L, .flt .f32 rise, .flt .f32 1065353216, l2]) hlt2'
            have p0 : rdCells (g2.set h.length ⟨[.flt .f32 L, .flt .f32 rise, .flt .f32 1065353216, l2], .own 91 1⟩) h.length 0 1 = some [.flt .f32 L] := by have := hP.rd (off := 0) (n := 1) (by simp); simpa using this
            have hA3 := hA2'.set_other (o := ⟨[.flt .f32 L, .flt .f32 rise, .flt .f32 1065353216, l2], .own 91 1⟩) (Nat.le_refl _) nal2
            have hN3 := hN2.set_other (o := ⟨[.flt .f32 L, .flt .f32 rise, .flt .f32 1065353216, l2], .own 91 1⟩) (Nat.le_refl _) no2
            have hc53 := hc5'.set (o := ⟨[.flt .f32 L, .flt .f32 rise, .flt .f32 1065353216, l2], .own 91 1⟩) (id2 := h.length) (by omega)
            have hR := hA3.arr
            have hcl := fun h lim K => c_l04Clip (S := S) (h := h) (lim := lim) (K := K) (y := L) (show CF (fbin .mul .f32 (ahd ++ [xs[i]])[0] 1065353216) from CF_bin)
            generalize clipF L (fbin .mul .f32 (ahd ++ [xs[i]])[0] 1065353216) = ov at *
            clear hT0 hG0
            repeat' (first | (simp (disch := first | omega | assumption | (simp only [List.length_set]; omega) | (simp [*] <;> fail) | assumption) [-Bool.decide_and, -Bool.decide_or, -Bool.not_and, -Bool.not_or, toNat_pred, toNat_succ, wrap64, wr_new, wr_new0, ok_if, ok_ifn, iadV_sl, makeV_int, decT, decF, over_at, *, hR.at0, hR.rd0, hR.rd0j, hR.rd0A, hR.rd0jA, fl, leavesAll, fillL]) | (with_reducible refine Gd_split (fun hc => ?_) (fun hc => ?_) <;> (have hc2 := hc; try simp at hc2)) | (with_reducible refine Br_split (fun hc => ?_) (fun hc => ?_) <;> (have hc2 := hc; try simp at hc2)) | (with_reducible refine GdT_split (fun hc => ?_) (fun hc => ?_) <;> (have hc2 := hc; try simp at hc2)) | (with_reducible refine WT_alt ?_ ?_) | omega)
            refine oc_pushS (hN3.app (t := [⟨[.flt .f32 ov], .own 50 1⟩])) (r := [.flt .f32 ov]) (by simp [rdCells, List.getElem?_append_right, Ob.live]) hl (by simp; omega) fun o2 g5 hN5 hB5 => ?_
            obtain ⟨hA5, hf5⟩ := hB5.other (hN3.app (t := [⟨[.flt .f32 ov], .own 50 1⟩])) (hA3.app (t := [⟨[.flt .f32 ov], .own 50 1⟩])) hfo
            have d2 := (hP.app (t := [⟨[.flt .f32 ov], .own 50 1⟩])).but hB5 fun q => (no2 q).symm
            have d5 := (hc53.app (t := [⟨[.flt .f32 ov], .own 50 1⟩])).but hB5 fun q => (no5 q).symm
            have n2 := no2.but hB5 (by simp; omega)
            have n5 := no5.but hB5 (by simp; omega)
            rw [← show (outTo (limS L rise) (gain, ah) xs (i + 1)).map fl = _ from s1H] at hN5
            have hg5 := hN5.kept.1
            obtain ⟨al3, g6, j1, j2, j3⟩ := (New.litN (ty := 50) (sz := 1) (Kept.refl g5)).joined (ys := []) (lim := lim) (((Sm.new hA5).drop (j := 1) (by simp)).kept (Kept.app g5 _)) (by omega) (by simp; omega)
            rw [List.nil_append] at j2
            have hN6 := hN5.later j2.kept
            have hA6 := j2.base hN5.kept
            have d26 := d2.kept j2.kept
            have d56 := d5.kept j2.kept
            have hf6 : Far o2 al3 := fun q1 q2 => by have := (hN5.lt q1).2; have := (j2.lt q2).1; omega
            have m2 : Not al3 h.length := fun q => by have := (j2.lt q).1; have := d2.lt; omega
            have m5 : Not al3 (h.length + 1) := fun q => by have := (j2.lt q).1; have := d5.lt; omega
            have e1 : slcV 1 (.lf al2) (some (.lf (.int .i64 1))) none = some (.lf (al2.from_ 1 1)) := slcV_from (j := 1) hA5.arr (by decide) (by simp)
            clear hB5 hP p0 hA3 hN3 hc53 hR hcl hN5 hA5 d2 d5 j2 j3
            repeat' (first | (simp (disch := first | omega | assumption | (simp only [List.length_set]; omega) | (simp [*] <;> fail) | assumption) [-Bool.decide_and, -Bool.decide_or, -Bool.not_and, -Bool.not_or, toNat_pred, toNat_succ, wrap64, wr_new, wr_new0, ok_if, ok_ifn, iadV_sl, makeV_int, decT, decF, over_at, *, leavesAll, fillL]) | (with_reducible refine Gd_split (fun hc => ?_) (fun hc => ?_) <;> (have hc2 := hc; try simp at hc2)) | (with_reducible refine Br_split (fun hc => ?_) (fun hc => ?_) <;> (have hc2 := hc; try simp at hc2)) | (with_reducible refine GdT_split (fun hc => ?_) (fun hc => ?_) <;> (have hc2 := hc; try simp at hc2)) | (with_reducible refine WT_alt ?_ ?_) | omega)
            rw [show stTo (limS L rise) (gain, ah) xs (i + 1) = _ from s2H]
            exact ⟨hlt, hA6, d26⟩
        · rw [hG0] at hgv
          simp only [Bool.true_or, if_true] at hgv
          subst hgv
          repeat' (first | (simp (disch := first | omega | assumption | (simp only [List.length_set]; omega) | (simp [*] <;> fail) | assumption) [-Bool.decide_and, -Bool.decide_or, -Bool.not_and, -Bool.not_or, toNat_pred, toNat_succ, wrap64, wr_new, wr_new0, ok_if, ok_ifn, iadV_sl, makeV_int, decT, decF, over_at, *]) | (with_reducible refine Gd_split (fun hc => ?_) (fun hc => ?_) <;> (have hc2 := hc; try simp at hc2)) | (with_reducible refine Br_split (fun hc => ?_) (fun hc => ?_) <;> (have hc2 := hc; try simp at hc2)) | (with_reducible refine GdT_split (fun hc => ?_) (fun hc => ?_) <;> (have hc2 := hc; try simp at hc2)) | (with_reducible refine WT_alt ?_ ?_) | omega)
          have hP := Cel.put (ty := 91) (new := [.flt .f32 L, .flt .f32 rise, .flt .f32 1065353216, l2]) hlt2'
          have p0 : rdCells (g2.set h.length ⟨[.flt .f32 L, .flt .f32 rise, .flt .f32 1065353216, l2], .own 91 1⟩) h.length 0 1 = some [.flt .f32 L] := by have := hP.rd (off := 0) (n := 1) (by simp); simpa using this
          have hA3 := hA2'.set_other (o := ⟨[.flt .f32 L, .flt .f32 rise, .flt .f32 1065353216, l2], .own 91 1⟩) (Nat.le_refl _) nal2
          have hN3 := hN2.set_other (o := ⟨[.flt .f32 L, .flt .f32 rise, .flt .f32 1065353216, l2], .own 91 1⟩) (Nat.le_refl _) no2
          have hc53 := hc5'.set (o := ⟨[.flt .f32 L, .flt .f32 rise, .flt .f32 1065353216, l2], .own 91 1⟩) (id2 := h.length) (by omega)
          have hR := hA3.arr
          have hcl := fun h lim K => c_l04Clip (S := S) (h := h) (lim := lim) (K := K) (y := L) (show CF (fbin .mul .f32 (ahd ++ [xs[i]])[0] 1065353216) from CF_bin)
          generalize clipF L (fbin .mul .f32 (ahd ++ [xs[i]])[0] 1065353216) = ov at *
          clear hT0 hG0
          repeat' (first | (simp (disch := first | omega | assumption | (simp only [List.length_set]; omega) | (simp [*] <;> fail) | assumption) [-Bool.decide_and, -Bool.decide_or, -Bool.not_and, -Bool.not_or, toNat_pred, toNat_succ, wrap64, wr_new, wr_new0, ok_if, ok_ifn, iadV_sl, makeV_int, decT, decF, over_at, *, hR.at0, hR.rd0, hR.rd0j, hR.rd0A, hR.rd0jA, fl, leavesAll, fillL]) | (with_reducible refine Gd_split (fun hc => ?_) (fun hc => ?_) <;> (have hc2 := hc; try simp at hc2)) | (with_reducible refine Br_split (fun hc => ?_) (fun hc => ?_) <;> (have hc2 := hc; try simp at hc2)) | (with_reducible refine GdT_split (fun hc => ?_) (fun hc => ?_) <;> (have hc2 := hc; try simp at hc2)) | (with_reducible refine WT_alt ?_ ?_) | omega)
          refine oc_pushS (hN3.app (t := [⟨[.flt .f32 ov], .own 50 1⟩])) (r := [.flt .f32 ov]) (by simp [rdCells, List.getElem?_append_right, Ob.live]) hl (by simp; omega) fun o2 g5 hN5 hB5 => ?_
          obtain ⟨hA5, hf5⟩ := hB5.other (hN3.app (t := [⟨[.flt .f32 ov], .own 50 1⟩])) (hA3.app (t := [⟨[.flt .f32 ov], .own 50 1⟩])) hfo
          have d2 := (hP.app (t := [⟨[.flt .f32 ov], .own 50 1⟩])).but hB5 fun q => (no2 q).symm
          have d5 := (hc53.app (t := [⟨[.flt .f32 ov], .own 50 1⟩])).but hB5 fun q => (no5 q).symm
          have n2 := no2.but hB5 (by simp; omega)
          have n5 := no5.but hB5 (by simp; omega)
          rw [← show (outTo (limS L rise) (gain, ah) xs (i + 1)).map fl = _ from s1H] at hN5
          have hg5 := hN5.kept.1
          obtain ⟨al3, g6, j1, j2, j3⟩ := (New.litN (ty := 50) (sz := 1) (Kept.refl g5)).joined (ys := []) (lim := lim) (((Sm.new hA5).drop (j := 1) (by simp)).kept (Kept.app g5 _)) (by omega) (by simp; omega)
          rw [List.nil_append] at j2
          have hN6 := hN5.later j2.kept
          have hA6 := j2.base hN5.kept
          have d26 := d2.kept j2.kept
          have d56 := d5.kept j2.kept
          have hf6 : Far o2 al3 := fun q1 q2 => by have := (hN5.lt q1).2; have := (j2.lt q2).1; omega
          have m2 : Not al3 h.length := fun q => by have := (j2.lt q).1; have := d2.lt; omega
          have m5 : Not al3 (h.length + 1) := fun q => by have := (j2.lt q).1; have := d5.lt; omega
          have e1 : slcV 1 (.lf al2) (some (.lf (.int .i64 1))) none = some (.lf (al2.from_ 1 1)) := slcV_from (j := 1) hA5.arr (by decide) (by simp)
          clear hB5 hP p0 hA3 hN3 hc53 hR hcl hN5 hA5 d2 d5 j2 j3
          repeat' (first | (simp (disch := first | omega | assumption | (simp only [List.length_set]; omega) | (simp [*] <;> fail) | assumption) [-Bool.decide_and, -Bool.decide_or, -Bool.not_and, -Bool.not_or, toNat_pred, toNat_succ, wrap64, wr_new, wr_new0, ok_if, ok_ifn, iadV_sl, makeV_int, decT, decF, over_at, *, leavesAll, fillL]) | (with_reducible refine Gd_split (fun hc => ?_) (fun hc => ?_) <;> (have hc2 := hc; try simp at hc2)) | (with_reducible refine Br_split (fun hc => ?_) (fun hc => ?_) <;> (have hc2 := hc; try simp at hc2)) | (with_reducible refine GdT_split (fun hc => ?_) (fun hc => ?_) <;> (have hc2 := hc; try simp at hc2)) | (with_reducible refine WT_alt ?_ ?_) | omega)
          rw [show stTo (limS L rise) (gain, ah) xs (i + 1) = _ from s2H]
          exact ⟨hlt, hA6, d26⟩
      · rw [hT0] at hgv
        simp only [if_true] at hgv
        cases hG0 : fcmp .lss .f32 (fbin .quo .f32 L pk) (fbin .add .f32 gn rise)
        · cases hG1 : fcmp .neq .f32 (fbin .add .f32 gn rise) (fbin .add .f32 gn rise)
          · rw [hG0, hG1] at hgv
            simp only [Bool.or_self, Bool.false_eq_true, if_false] at hgv
            subst hgv
            repeat' (first | (simp (disch := first | omega | assumption | (simp only [List.length_set]; omega) | (simp [*] <;> fail) | assumption) [-Bool.decide_and, -Bool.decide_or, -Bool.not_and, -Bool.not_or, toNat_pred, toNat_succ, wrap64, wr_new, wr_new0, ok_if, ok_ifn, iadV_sl, makeV_int, decT, decF, over_at, *]) | (with_reducible refine Gd_split (fun hc => ?_) (fun hc => ?_) <;> (have hc2 := hc; try simp at hc2)) | (with_reducible refine Br_split (fun hc => ?_) (fun hc => ?_) <;> (have hc2 := hc; try simp at hc2)) | (with_reducible refine GdT_split (fun hc => ?_) (fun hc => ?_) <;> (have hc2 := hc; try simp at hc2)) | (with_reducible refine WT_alt ?_ ?_) | omega)
            have hP := Cel.put (ty := 91) (new := [.flt .f32 L, .flt .f32 rise, .flt .f32 (fbin .add .f32 gn rise), l2]) hlt2'
            have p0 : rdCells (g2.set h.length ⟨[.flt .f32 L, .flt .f32 rise, .flt .f32 (fbin .add .f32 gn rise), l2], .own 91 1⟩) h.length 0 1 = some [.flt .f32 L] := by have := hP.rd (off := 0) (n := 1) (by simp); simpa using this
            have hA3 := hA2'.set_other (o := ⟨[.flt .f32 L, .flt .f32 rise, .flt .f32 (fbin .add .f32 gn rise), l2], .own 91 1⟩) (Nat.le_refl _) nal2
            have hN3 := hN2.set_other (o := ⟨[.flt .f32 L, .flt .f32 rise, .flt .f32 (fbin .add .f32 gn rise), l2], .own 91 1⟩) (Nat.le_refl _) no2
            have hc53 := hc5'.set (o := ⟨[.flt .f32 L, .flt .f32 rise, .flt .f32 (fbin .add .f32 gn rise), l2], .own 91 1⟩) (id2 := h.length) (by omega)
            have hR := hA3.arr
            have hcl := fun h lim K => c_l04Clip (S := S) (h := h) (lim := lim) (K := K) (y := L) (show CF (fbin .mul .f32 (ahd ++ [xs[i]])[0] (fbin .add .f32 gn rise)) from CF_bin)
            generalize clipF L (fbin .mul .f32 (ahd ++ [xs[i]])[0] (fbin .add .f32 gn rise)) = ov at *
            clear hT0 hG0
            repeat' (first | (simp (disch := first | omega | assumption | (simp only [List.length_set]; omega) | (simp [*] <;> fail) | assumption) [-Bool.decide_and, -Bool.decide_or, -Bool.not_and, -Bool.not_or, toNat_pred, toNat_succ, wrap64, wr_new, wr_new0, ok_if, ok_ifn, iadV_sl, makeV_int, decT, decF, over_at, *, hR.at0, hR.rd0, hR.rd0j, hR.rd0A, hR.rd0jA, fl, leavesAll, fillL]) | (with_reducible refine Gd_split (fun hc => ?_) (fun hc => ?_) <;> (have hc2 := hc; try simp at hc2)) | (with_reducible refine Br_split (fun hc => ?_) (fun hc => ?_) <;> (have hc2 := hc; try simp at hc2)) | (with_reducible refine GdT_split (fun hc => ?_) (fun hc => ?_) <;> (have hc2 := hc; try simp at hc2)) | (with_reducible refine WT_alt ?_ ?_) | omega)
            refine oc_pushS (hN3.app (t := [⟨[.flt .f32 ov], .own 50 1⟩])) (r := [.flt .f32 ov]) (by simp [rdCells, List.getElem?_append_right, Ob.live]) hl (by simp; omega) fun o2 g5 hN5 hB5 => ?_
            obtain ⟨hA5, hf5⟩ := hB5.other (hN3.app (t := [⟨[.flt .f32 ov], .own 50 1⟩])) (hA3.app (t := [⟨[.flt .f32 ov], .own 50 1⟩])) hfo
            have d2 := (hP.app (t := [⟨[.flt .f32 ov], .own 50 1⟩])).but hB5 fun q => (no2 q).symm
            have d5 := (hc53.app (t := [⟨[.flt .f32 ov], .own 50 1⟩])).but hB5 fun q => (no5 q).symm
            have n2 := no2.but hB5 (by simp; omega)
            have n5 := no5.but hB5 (by simp; omega)
            rw [← show (outTo (limS L rise) (gain, ah) xs (i + 1)).map fl = _ from s1H] at hN5
            have hg5 := hN5.kept.1
            obtain ⟨al3, g6, j1, j2, j3⟩ := (New.litN (ty := 50) (sz := 1) (Kept.refl g5)).joined (ys := []) (lim := lim) (((Sm.new hA5).drop (j := 1) (by simp)).kept (Kept.app g5 _)) (by omega) (by simp; omega)
            rw [List.nil_append] at j2
            have hN6 := hN5.later j2.kept
            have hA6 := j2.base hN5.kept
            have d26 := d2.kept j2.kept
            have d56 := d5.kept j2.kept
            have hf6 : Far o2 al3 := fun q1 q2 => by have := (hN5.lt q1).2; have := (j2.lt q2).1; omega
            have m2 : Not al3 h.length := fun q => by have := (j2.lt q).1; have := d2.lt; omega
            have m5 : Not al3 (h.length + 1) := fun q => by have := (j2.lt q).1; have := d5.lt; omega
            have e1 : slcV 1 (.lf al2) (some (.lf (.int .i64 1))) none = some (.lf (al2.from_ 1 1)) := slcV_from (j := 1) hA5.arr (by decide) (by simp)
            clear hB5 hP p0 hA3 hN3 hc53 hR hcl hN5 hA5 d2 d5 j2 j3
            repeat' (first | (simp (disch := first | omega | assumption | (simp only [List.length_set]; omega) | (simp [*] <;> fail) | assumption) [-Bool.decide_and, -Bool.decide_or, -Bool.not_and, -Bool.not_or, toNat_pred, toNat_succ, wrap64, wr_new, wr_new0, ok_if, ok_ifn, iadV_sl, makeV_int, decT, decF, over_at, *, leavesAll, fillL]) | (with_reducible refine Gd_split (fun hc => ?_) (fun hc => ?_) <;> (have hc2 := hc; try simp at hc2)) | (with_reducible refine Br_split (fun hc => ?_) (fun hc => ?_) <;> (have hc2 := hc; try simp at hc2)) | (with_reducible refine GdT_split (fun hc => ?_) (fun hc => ?_) <;> (have hc2 := hc; try simp at hc2)) | (with_reducible refine WT_alt ?_ ?_) | omega)
            rw [show stTo (limS L rise) (gain, ah) xs (i + 1) = _ from s2H]
            exact ⟨hlt, hA6, d26⟩
          · rw [hG0, hG1] at hgv
            simp only [Bool.or_true, if_true] at hgv
            subst hgv
            repeat' (first | (simp (disch := first | omega | assumption | (simp only [List.length_set]; omega) | (simp [*] <;> fail) | assumption) [-Bool.decide_and, -Bool.decide_or, -Bool.not_and, -Bool.not_or, toNat_pred, toNat_succ, wrap64, wr_new, wr_new0, ok_if, ok_ifn, iadV_sl, makeV_int, decT, decF, over_at, *]) | (with_reducible refine Gd_split (fun hc => ?_) (fun hc => ?_) <;> (have hc2 := hc; try simp at hc2)) | (with_reducible refine Br_split (fun hc => ?_) (fun hc => ?_) <;> (have hc2 := hc; try simp at hc2)) | (with_reducible refine GdT_split (fun hc => ?_) (fun hc => ?_) <;> (have hc2 := hc; try simp at hc2)) | (with_reducible refine WT_alt ?_ ?_) | omega)
            have hP := Cel.put (ty := 91) (new := [.flt .f32 L, .flt .f32 rise, .flt .f32 (fbin .quo .f32 L pk), l2]) hlt2'
            have p0 : rdCells (g2.set h.length ⟨[.flt .f32 L, .flt .f32 rise, .flt .f32 (fbin .quo .f32 L pk), l2], .own 91 1⟩) h.length 0 1 = some [.flt .f32 L] := by have := hP.rd (off := 0) (n := 1) (by simp); simpa using this
            have hA3 := hA2'.set_other (o := ⟨[.flt .f32 L, .flt .f32 rise, .flt .f32 (fbin .quo .f32 L pk), l2], .own 91 1⟩) (Nat.le_refl _) nal2
            have hN3 := hN2.set_other (o := ⟨[.flt .f32 L, .flt .f32 rise, .flt .f32 (fbin .quo .f32 L pk), l2], .own 91 1⟩) (Nat.le_refl _) no2
            have hc53 := hc5'.set (o := ⟨[.flt .f32 L, .flt .f32 rise, .flt .f32 (fbin .quo .f32 L pk), l2], .own 91 1⟩) (id2 := h.length) (by omega)
            have hR := hA3.arr
            have hcl := fun h lim K => c_l04Clip (S := S) (h := h) (lim := lim) (K := K) (y := L) (show CF (fbin .mul .f32 (ahd ++ [xs[i]])[0] (fbin .quo .f32 L pk)) from CF_bin)
            generalize clipF L (fbin .mul .f32 (ahd ++ [xs[i]])[0] (fbin .quo .f32 L pk)) = ov at *
            clear hT0 hG0
            repeat' (first | (simp (disch := first | omega | assumption | (simp only [List.length_set]; omega) | (simp [*] <;> fail) | assumption) [-Bool.decide_and, -Bool.decide_or, -Bool.not_and, -Bool.not_or, toNat_pred, toNat_succ, wrap64, wr_new, wr_new0, ok_if, ok_ifn, iadV_sl, makeV_int, decT, decF, over_at, *, hR.at0, hR.rd0, hR.rd0j, hR.rd0A, hR.rd0jA, fl, leavesAll, fillL]) | (with_reducible refine Gd_split (fun hc => ?_) (fun hc => ?_) <;> (have hc2 := hc; try simp at hc2)) | (with_reducible refine Br_split (fun hc => ?_) (fun hc => ?_) <;> (have hc2 := hc; try simp at hc2)) | (with_reducible refine GdT_split (fun hc => ?_) (fun hc => ?_) <;> (have hc2 := hc; try simp at hc2)) | (with_reducible refine WT_alt ?_ ?_) | omega)
            refine oc_pushS (hN3.app (t := [⟨[.flt .f32 ov], .own 50 1⟩])) (r := [.flt .f32 ov]) (by simp [rdCells, List.getElem?_append_right, Ob.live]) hl (by simp; omega) fun o2 g5 hN5 hB5 => ?_
            obtain ⟨hA5, hf5⟩ := hB5.other (hN3.app (t := [⟨[.flt .f32 ov], .own 50 1⟩])) (hA3.app (t := [⟨[.flt .f32 ov], .own 50 1⟩])) hfo
            have d2 := (hP.app (t := [⟨[.flt .f32 ov], .own 50 1⟩])).but hB5 fun q => (no2 q).symm
            have d5 := (hc53.app (t := [⟨[.flt .f32 ov], .own 50 1⟩])).but hB5 fun q => (no5 q).symm
            have n2 := no2.but hB5 (by simp; omega)
            have n5 := no5.but hB5 (by simp; omega)
            rw [← show (outTo (limS L rise) (gain, ah) xs (i + 1)).map fl = _ from s1H] at hN5
            have hg5 := hN5.kept.1
            obtain ⟨al3, g6, j1, j2, j3⟩ := (New.litN (ty := 50) (sz := 1) (Kept.refl g5)).joined (ys := []) (lim := lim) (((Sm.new hA5).drop (j := 1) (by simp)).kept (Kept.app g5 _)) (by omega) (by simp; omega)
            rw [List.nil_append] at j2
            have hN6 := hN5.later j2.kept
            have hA6 := j2.base hN5.kept
            have d26 := d2.kept j2.kept
            have d56 := d5.kept j2.kept
            have hf6 : Far o2 al3 := fun q1 q2 => by have := (hN5.lt q1).2; have := (j2.lt q2).1; omega
            have m2 : Not al3 h.length := fun q => by have := (j2.lt q).1; have := d2.lt; omega
            have m5 : Not al3 (h.length + 1) := fun q => by have := (j2.lt q).1; have := d5.lt; omega
            have e1 : slcV 1 (.lf al2) (some (.lf (.int .i64 1))) none = some (.lf (al2.from_ 1 1)) := slcV_from (j := 1) hA5.arr (by decide) (by simp)
            clear hB5 hP p0 hA3 hN3 hc53 hR hcl hN5 hA5 d2 d5 j2 j3
            repeat' (first | (simp (disch := first | omega | assumption | (simp only [List.length_set]; omega) | (simp [*] <;> fail) | assumption) [-Bool.decide_and, -Bool.decide_or, -Bool.not_and, -Bool.not_or, toNat_pred, toNat_succ, wrap64, wr_new, wr_new0, ok_if, ok_ifn, iadV_sl, makeV_int, decT, decF, over_at, *, leavesAll, fillL]) | (with_reducible refine Gd_split (fun hc => ?_) (fun hc => ?_) <;> (have hc2 := hc; try simp at hc2)) | (with_reducible refine Br_split (fun hc => ?_) (fun hc => ?_) <;> (have hc2 := hc; try simp at hc2)) | (with_reducible refine GdT_split (fun hc => ?_) (fun hc => ?_) <;> (have hc2 := hc; try simp at hc2)) | (with_reducible refine WT_alt ?_ ?_) | omega)
            rw [show stTo (limS L rise) (gain, ah) xs (i + 1) = _ from s2H]
            exact ⟨hlt, hA6, d26⟩
        · rw [hG0] at hgv
          simp only [Bool.true_or, if_true] at hgv
          subst hgv
          repeat' (first | (simp (disch := first | omega | assumption | (simp only [List.length_set]; omega) | (simp [*] <;> fail) | assumption) [-Bool.decide_and, -Bool.decide_or, -Bool.not_and, -Bool.not_or, toNat_pred, toNat_succ, wrap64, wr_new, wr_new0, ok_if, ok_ifn, iadV_sl, makeV_int, decT, decF, over_at, *]) | (with_reducible refine Gd_split (fun hc => ?_) (fun hc => ?_) <;> (have hc2 := hc; try simp at hc2)) | (with_reducible refine Br_split (fun hc => ?_) (fun hc => ?_) <;> (have hc2 := hc; try simp at hc2)) | (with_reducible refine GdT_split (fun hc => ?_) (fun hc => ?_) <;> (have hc2 := hc; try simp at hc2)) | (with_reducible refine WT_alt ?_ ?_) | omega)
          have hP := Cel.put (ty := 91) (new := [.flt .f32 L, .flt .f32 rise, .flt .f32 (fbin .quo .f32 L pk), l2]) hlt2'
          have p0 : rdCells (g2.set h.length ⟨[.flt .f32 L, .flt .f32 rise, .flt .f32 (fbin .quo .f32 L pk), l2], .own 91 1⟩) h.length 0 1 = some [.flt .f32 L] := by have := hP.rd (off := 0) (n := 1) (by simp); simpa using this
          have hA3 := hA2'.set_other (o := ⟨[.flt .f32 L, .flt .f32 rise, .flt .f32 (fbin .quo .f32 L pk), l2], .own 91 1⟩) (Nat.le_refl _) nal2
          have hN3 := hN2.set_other (o := ⟨[.flt .f32 L, .flt .f32 rise, .flt .f32 (fbin .quo .f32 L pk), l2], .own 91 1⟩) (Nat.le_refl _) no2
          have hc53 := hc5'.set (o := ⟨[.flt .f32 L, .flt .f32 rise, .flt .f32 (fbin .quo .f32 L pk), l2], .own 91 1⟩) (id2 := h.length) (by omega)
          have hR := hA3.arr
          have hcl := fun h lim K => c_l04Clip (S := S) (h := h) (lim := lim) (K := K) (y := L) (show CF (fbin .mul .f32 (ahd ++ [xs[i]])[0] (fbin .quo .f32 L pk)) from CF_bin)
          generalize clipF L (fbin .mul .f32 (ahd ++ [xs[i]])[0] (fbin .quo .f32 L pk)) = ov at *
          clear hT0 hG0
          repeat' (first | (simp (disch := first | omega | assumption | (simp only [List.length_set]; omega) | (simp [*] <;> fail) | assumption) [-Bool.decide_and, -Bool.decide_or, -Bool.not_and, -Bool.not_or, toNat_pred, toNat_succ, wrap64, wr_new, wr_new0, ok_if, ok_ifn, iadV_sl, makeV_int, decT, decF, over_at, *, hR.at0, hR.rd0, hR.rd0j, hR.rd0A, hR.rd0jA, fl, leavesAll, fillL]) | (with_reducible refine Gd_split (fun hc => ?_) (fun hc => ?_) <;> (have hc2 := hc; try simp at hc2)) | (with_reducible refine Br_split (fun hc => ?_) (fun hc => ?_) <;> (have hc2 := hc; try simp at hc2)) | (with_reducible refine GdT_split (fun hc => ?_) (fun hc => ?_) <;> (have hc2 := hc; try simp at hc2)) | (with_reducible refine WT_alt ?_ ?_) | omega)
          refine oc_pushS (hN3.app (t := [⟨[.flt .f32 ov], .own 50 1⟩])) (r := [.flt .f32 ov]) (by simp [rdCells, List.getElem?_append_right, Ob.live]) hl (by simp; omega) fun o2 g5 hN5 hB5 => ?_
          obtain ⟨hA5, hf5⟩ := hB5.other (hN3.app (t := [⟨[.flt .f32 ov], .own 50 1⟩])) (hA3.app (t := [⟨[.flt .f32 ov], .own 50 1⟩])) hfo
          have d2 := (hP.app (t := [⟨[.flt .f32 ov], .own 50 1⟩])).but hB5 fun q => (no2 q).symm
          have d5 := (hc53.app (t := [⟨[.flt .f32 ov], .own 50 1⟩])).but hB5 fun q => (no5 q).symm
          have n2 := no2.but hB5 (by simp; omega)
          have n5 := no5.but hB5 (by simp; omega)
          rw [← show (outTo (limS L rise) (gain, ah) xs (i + 1)).map fl = _ from s1H] at hN5
          have hg5 := hN5.kept.1
          obtain ⟨al3, g6, j1, j2, j3⟩ := (New.litN (ty := 50) (sz := 1) (Kept.refl g5)).joined (ys := []) (lim := lim) (((Sm.new hA5).drop (j := 1) (by simp)).kept (Kept.app g5 _)) (by omega) (by simp; omega)
          rw [List.nil_append] at j2
          have hN6 := hN5.later j2.kept
          have hA6 := j2.base hN5.kept
          have d26 := d2.kept j2.kept
          have d56 := d5.kept j2.kept
          have hf6 : Far o2 al3 := fun q1 q2 => by have := (hN5.lt q1).2; have := (j2.lt q2).1; omega
          have m2 : Not al3 h.length := fun q => by have := (j2.lt q).1; have := d2.lt; omega
          have m5 : Not al3 (h.length + 1) := fun q => by have := (j2.lt q).1; have := d5.lt; omega
          have e1 : slcV 1 (.lf al2) (some (.lf (.int .i64 1))) none = some (.lf (al2.from_ 1 1)) := slcV_from (j := 1) hA5.arr (by decide) (by simp)
          clear hB5 hP p0 hA3 hN3 hc53 hR hcl hN5 hA5 d2 d5 j2 j3
          repeat' (first | (simp (disch := first | omega | assumption | (simp only [List.length_set]; omega) | (simp [*] <;> fail) | assumption) [-Bool.decide_and, -Bool.decide_or, -Bool.not_and, -Bool.not_or, toNat_pred, toNat_succ, wrap64, wr_new, wr_new0, ok_if, ok_ifn, iadV_sl, makeV_int, decT, decF, over_at, *, leavesAll, fillL]) | (with_reducible refine Gd_split (fun hc => ?_) (fun hc => ?_) <;> (have hc2 := hc; try simp at hc2)) | (with_reducible refine Br_split (fun hc => ?_) (fun hc => ?_) <;> (have hc2 := hc; try simp at hc2)) | (with_reducible refine GdT_split (fun hc => ?_) (fun hc => ?_) <;> (have hc2 := hc; try simp at hc2)) | (with_reducible refine WT_alt ?_ ?_) | omega)
          rw [show stTo (limS L rise) (gain, ah) xs (i + 1) = _ from s2H]
          exact ⟨hlt, hA6, d26⟩
  · have : i = xs.length := by omega
    subst this
    rw [outTo_all] at hN
    rw [stTo_all] at hc2 hM
    generalize (scan (limS L rise) (gain, ah) xs).2 = st at *
    obtain ⟨gn, ahd⟩ := st
    simp only at hc2 hM
    have w3 : wrCells lim g h.length 3 [al] = some (g.set h.length ⟨[.flt .f32 L, .flt .f32 rise, .flt .f32 gn, al], .own 91 1⟩) := by
      rw [wr_get1 hc2 hl (by simp)]; rfl
    have hP := Cel.put (ty := 91) (new := [.flt .f32 L, .flt .f32 rise, .flt .f32 gn, al]) hlt2
    have p0 : rdCells (g.set h.length ⟨[.flt .f32 L, .flt .f32 rise, .flt .f32 gn, al], .own 91 1⟩) h.length 0 4 = some [.flt .f32 L, .flt .f32 rise, .flt .f32 gn, al] := hP.rd (by simp)
    have hc52 := hc5.set (o := ⟨[.flt .f32 L, .flt .f32 rise, .flt .f32 gn, al], .own 91 1⟩) (id2 := h.length) (by omega)
    have w5 : wrCells lim (g.set h.length ⟨[.flt .f32 L, .flt .f32 rise, .flt .f32 gn, al], .own 91 1⟩) (h.length + 1) 0 [.flt .f32 L, .flt .f32 rise, .flt .f32 gn, al] = some ((g.set h.length ⟨[.flt .f32 L, .flt .f32 rise, .flt .f32 gn, al], .own 91 1⟩).set (h.length + 1) ⟨[.flt .f32 L, .flt .f32 rise, .flt .f32 gn, al], .own 91 1⟩) := hc52.wr (by omega) rfl
    have p5 : rdCells ((g.set h.length ⟨[.flt .f32 L, .flt .f32 rise, .flt .f32 gn, al], .own 91 1⟩).set (h.length + 1) ⟨[.flt .f32 L, .flt .f32 rise, .flt .f32 gn, al], .own 91 1⟩) (h.length + 1) 0 4 = some [.flt .f32 L, .flt .f32 rise, .flt .f32 gn, al] := (Cel.put hc52.lt).rd (by simp)
    have hX := (hN.set_other (o := ⟨[.flt .f32 L, .flt .f32 rise, .flt .f32 gn, al], .own 91 1⟩) (Nat.le_refl _) no2).set_other (id := h.length + 1) (o := ⟨[.flt .f32 L, .flt .f32 rise, .flt .f32 gn, al], .own 91 1⟩) (by omega) no5
    have hY := (hM.set_other (o := ⟨[.flt .f32 L, .flt .f32 rise, .flt .f32 gn, al], .own 91 1⟩) (Nat.le_refl _) na2).set_other (id := h.length + 1) (o := ⟨[.flt .f32 L, .flt .f32 rise, .flt .f32 gn, al], .own 91 1⟩) (by omega) na5
    clear hc2 hc5 hM hN
    repeat' (first | (simp (disch := first | omega | assumption | (simp only [List.length_set]; omega) | (simp [*] <;> fail) | assumption) [-Bool.decide_and, -Bool.decide_or, -Bool.not_and, -Bool.not_or, toNat_pred, toNat_succ, wrap64, wr_new, wr_new0, ok_if, ok_ifn, iadV_sl, makeV_int, decT, decF, over_at, *, hA1.len]) | (with_reducible refine Gd_split (fun hc => ?_) (fun hc => ?_) <;> (have hc2 := hc; try simp at hc2)) | (with_reducible refine Br_split (fun hc => ?_) (fun hc => ?_) <;> (have hc2 := hc; try simp at hc2)) | (with_reducible refine GdT_split (fun hc => ?_) (fun hc => ?_) <;> (have hc2 := hc; try simp at hc2)) | (with_reducible refine WT_alt ?_ ?_) | omega)
    all_goals exact hK _ _ _ hX hY hf
end
end Go.E
