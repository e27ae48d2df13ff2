/- The impulse of a chain of one echo, the program's side. -/
import Derived.Test.YtpakemggfjmfcaaMEc
import Derived.Test.YtpakemggfjmfcaaMNs
import Derived.Test.YtpakemggfjmfcaaMMx
import Derived.Test.YtpakemggfjmfcaaMOs
set_option linter.unusedVariables false
set_option linter.unusedSimpArgs false
namespace Go.E
open Go
def L141 : LFn := ⟨3, (.seq (.reg [⟨(.some 6), (.mv (.c (.lf .nils))), none⟩, ⟨(.some 7), (.mv (.c (.lf .nils))), none⟩])
 (.seq (.reg [⟨(.some 14), (.mv (.t 2)), none⟩, ⟨(.some 15), (.call false 145 [(.t 14)]), none⟩, ⟨(.some 8), (.mv (.t 15)), none⟩])
 (.seq (.reg [⟨(.some 9), (.mv (.c (.lf .nils))), none⟩])
 (.seq (.seq (.reg [⟨(.some 16), (.mv (.t 0)), none⟩, ⟨(.some 17), (.len (.t 16)), none⟩, ⟨(.some 18), (.mv (.c (.lf (.int .i64 0)))), none⟩])
 (.block 0 (.loop (.seq (.reg [⟨(.some 19), (.bin .lss (.t 18) (.t 17)), none⟩])
 (.seq (.cond (.t 19) .skip (.exit 0))
 (.seq (.block 1 (.seq (.reg [⟨(.some 20), (.mv (.t 18)), none⟩, ⟨(.some 21), (.iaddr 3 (.t 16) (.t 18)), none⟩, ⟨(.some 22), (.load true 3 (.t 21)), none⟩, ⟨(.some 11), (.alloc 104 [(.int .i64 0), (.int .i64 0), .nils]), none⟩, ⟨(.some 10), (.mv (.t 20)), none⟩, ⟨none, (.store 3 (.t 11) (.t 22)), none⟩])
 (.seq (.reg [⟨(.some 24), (.load true 3 (.t 11)), none⟩, ⟨(.some 25), (.mv (.t 1)), none⟩, ⟨(.some 26), (.mv (.t 10)), none⟩, ⟨(.some 27), (.iaddr 1 (.t 25) (.t 26)), none⟩, ⟨(.some 28), (.load false 1 (.t 27)), none⟩, ⟨(.some 29), (.mv (.t 8)), none⟩, ⟨(.some 30), (.call false 175 [(.t 24), (.t 28), (.t 29)]), none⟩, ⟨(.some 23), (.mv (.t 30)), none⟩, ⟨(.some 31), (.ext (.t 23) 0), none⟩, ⟨(.some 32), (.ext (.t 23) 1), none⟩, ⟨(.some 12), (.mv (.t 31)), none⟩, ⟨(.some 13), (.mv (.t 32)), none⟩])
 (.seq (.reg [⟨(.some 33), (.mv (.t 12)), none⟩, ⟨(.some 8), (.mv (.t 33)), none⟩])
 (.reg [⟨(.some 34), (.mv (.t 9)), none⟩, ⟨(.some 35), (.mv (.t 13)), none⟩, ⟨(.some 36), (.lit 27 1 1 [.nils] [(0, (1, (.t 35)))]), none⟩, ⟨(.some 37), (.app 27 1 24 (.t 34) (.t 36)), none⟩, ⟨(.some 9), (.mv (.t 37)), none⟩])))))
 (.reg [⟨(.some 38), (.bin .add (.t 18) (.c (.lf (.int .i64 1)))), none⟩, ⟨(.some 18), (.mv (.t 38)), none⟩])))))))
 (.seq (.reg [⟨(.some 39), (.mv (.t 8)), none⟩, ⟨(.some 40), (.mv (.t 9)), none⟩, ⟨(.some 6), (.mv (.t 39)), none⟩, ⟨(.some 7), (.mv (.t 40)), none⟩])
 .ret))))), [(.tmp 6), (.tmp 7)]⟩
class HasRc (S : Sys) : Prop extends HasEc S where
  f141 : S.fs 141 = some L141
def L70 : LFn := ⟨2, (.seq (.reg [⟨(.some 4), (.mv (.c (.lf .nils))), none⟩, ⟨(.some 5), (.mv (.c (.lf (.bool false)))), none⟩])
 (.seq (.seq (.reg [⟨(.some 8), (.mv (.t 0)), none⟩, ⟨(.some 9), (.call true 120 [(.t 8)]), none⟩, ⟨(.some 10), (.una .not (.t 9)), none⟩, ⟨(.some 11), (.mv (.t 10)), none⟩, ⟨(.some 12), (.mv (.t 1)), (.some (11, false))⟩, ⟨(.some 13), (.call true 97 [(.t 12)]), (.some (11, false))⟩, ⟨(.some 14), (.una .not (.t 13)), (.some (11, false))⟩, ⟨(.some 15), (.pick (.t 11) (.c (.lf (.bool true))) (.t 14)), none⟩])
 (.cond (.t 15) (.seq (.reg [⟨(.some 4), (.mv (.c (.lf .nils))), none⟩, ⟨(.some 5), (.mv (.c (.lf (.bool false)))), none⟩])
 .ret) .skip))
 (.seq (.reg [⟨(.some 17), (.mv (.t 0)), none⟩, ⟨(.some 18), (.mv (.t 0)), none⟩, ⟨(.some 19), (.call false 140 [(.t 18)]), none⟩, ⟨(.some 20), (.mv (.t 1)), none⟩, ⟨(.some 21), (.call false 142 [(.t 20)]), none⟩, ⟨(.some 22), (.call false 141 [(.t 17), (.t 19), (.t 21)]), none⟩, ⟨(.some 16), (.mv (.t 22)), none⟩, ⟨(.some 23), (.ext (.t 16) 0), none⟩, ⟨(.some 24), (.ext (.t 16) 1), none⟩, ⟨(.some 6), (.mv (.t 23)), none⟩, ⟨(.some 7), (.mv (.t 24)), none⟩])
 (.seq (.reg [⟨(.some 25), (.mv (.t 6)), none⟩, ⟨(.some 4), (.mv (.t 25)), none⟩, ⟨(.some 5), (.mv (.c (.lf (.bool true)))), none⟩])
 .ret)))), [(.tmp 4), (.tmp 5)]⟩
class HasIc (S : Sys) : Prop extends HasRc S, HasIe S, HasNs S, HasOs S where
  f70 : S.fs 70 = some L70
def imp (n : Nat) : List Nat := (List.replicate n 0).set 0 1065353216
theorem imp_len {n : Nat} : (imp n).length = n := by simp [imp]
/-- What an echo makes of an impulse. -/
def echoOut (n0 n1 len n : Nat) : List Nat := (scan (echoS n0 n1) (List.replicate len 0) (imp n)).1
section
variable {S : Sys} {lim : Nat} {h : Hp} {K : CV → Hp → Prop} {l l2 l3 lf : Lf} {xs : List Nat}
section
variable [HasIe S]
theorem c_impulse {n : Nat} (h0 : 0 < n) (hn : n ≤ 256) (hl : lim ≤ h.length) (hK : ∀ l' g, New h g l' 22 1 ((imp n).map fl) → K (.lf l') g) : CallT S false 142 [.lf (.int .i64 n)] h lim K := by
  refine CallT_of_body (F := L142) (HasIe.f142) rfl ?_; unfold L142; dsimp only []
  repeat' (first | (simp (disch := first | omega | assumption | (simp only [List.length_set]; omega) | (simp [*] <;> fail) | assumption) [-Bool.decide_and, -Bool.decide_or, -Bool.not_and, -Bool.not_or, toNat_pred, toNat_succ, wrap64, wr_new, wr_new0, ok_if, ok_ifn, iadV_sl, makeV_int, decT, decF, over_at, *]) | (with_reducible refine Gd_split (fun hc => ?_) (fun hc => ?_) <;> (have hc2 := hc; try simp at hc2)) | (with_reducible refine Br_split (fun hc => ?_) (fun hc => ?_) <;> (have hc2 := hc; try simp at hc2)) | (with_reducible refine GdT_split (fun hc => ?_) (fun hc => ?_) <;> (have hc2 := hc; try simp at hc2)) | (with_reducible refine WT_alt ?_ ?_) | omega)
  refine c_zeros (by omega) hl fun l g hN => ?_
  have hC := hN.arr
  repeat' (first | (simp (disch := first | omega | assumption | (simp only [List.length_set]; omega) | (simp [*] <;> fail) | assumption) [-Bool.decide_and, -Bool.decide_or, -Bool.not_and, -Bool.not_or, toNat_pred, toNat_succ, wrap64, wr_new, wr_new0, ok_if, ok_ifn, iadV_sl, makeV_int, decT, decF, over_at, *, hC.at0, hC.rd0, hC.rd0j, hC.rd0A, hC.rd0jA]) | (with_reducible refine Gd_split (fun hc => ?_) (fun hc => ?_) <;> (have hc2 := hc; try simp at hc2)) | (with_reducible refine Br_split (fun hc => ?_) (fun hc => ?_) <;> (have hc2 := hc; try simp at hc2)) | (with_reducible refine GdT_split (fun hc => ?_) (fun hc => ?_) <;> (have hc2 := hc; try simp at hc2)) | (with_reducible refine WT_alt ?_ ?_) | omega)
  refine oc_wr (i := 0) hN (by simp; omega) hl fun g' hN' hB => ?_
  repeat' (first | (simp (disch := first | omega | assumption | (simp only [List.length_set]; omega) | (simp [*] <;> fail) | assumption) [-Bool.decide_and, -Bool.decide_or, -Bool.not_and, -Bool.not_or, toNat_pred, toNat_succ, wrap64, wr_new, wr_new0, ok_if, ok_ifn, iadV_sl, makeV_int, decT, decF, over_at, *]) | (with_reducible refine Gd_split (fun hc => ?_) (fun hc => ?_) <;> (have hc2 := hc; try simp at hc2)) | (with_reducible refine Br_split (fun hc => ?_) (fun hc => ?_) <;> (have hc2 := hc; try simp at hc2)) | (with_reducible refine GdT_split (fun hc => ?_) (fun hc => ?_) <;> (have hc2 := hc; try simp at hc2)) | (with_reducible refine WT_alt ?_ ?_) | omega)
  rw [fl_set] at hN'
  exact hK _ _ hN'
end
section
variable [HasRc S]
set_option maxHeartbeats 4000000 in
theorem c_runChain1 {len n0 n1 : Nat} {st : Lf} (hL : Arr h l 3 [[.int .i64 2, .int .i64 len, lf]]) (hA : Arr h lf 1 ([n0, n1].map fl)) (hS : Arr h l2 1 [[st]]) (hT : Sm h st (List.replicate len 0)) (h0 : 0 < len) (h1 : len ≤ 32) (hX : Sm h l3 xs) (hn : xs.length ≤ 256) (hl : lim ≤ h.length)
    (hK : ∀ o s g, New h g o 22 1 ((scan (echoS n0 n1) (List.replicate len 0) xs).1.map fl) → K (.tup [.lf o, .lf s]) g) : CallT S false 141 [.lf l, .lf l2, .lf l3] h lim K := by
  have hLa : Arr h l 3 ([()].map fun _ => [.int .i64 2, .int .i64 len, lf]) := hL
  have hSa : Arr h l2 1 ([()].map fun _ => [st]) := hS
  refine CallT_of_body (F := L141) (HasRc.f141) rfl ?_; unfold L141; dsimp only []
  repeat' (first | (simp (disch := first | omega | assumption | (simp only [List.length_set]; omega) | (simp [*] <;> fail) | assumption) [-Bool.decide_and, -Bool.decide_or, -Bool.not_and, -Bool.not_or, toNat_pred, toNat_succ, wrap64, wr_new, wr_new0, ok_if, ok_ifn, iadV_sl, makeV_int, decT, decF, over_at, *]) | (with_reducible refine Gd_split (fun hc => ?_) (fun hc => ?_) <;> (have hc2 := hc; try simp at hc2)) | (with_reducible refine Br_split (fun hc => ?_) (fun hc => ?_) <;> (have hc2 := hc; try simp at hc2)) | (with_reducible refine GdT_split (fun hc => ?_) (fun hc => ?_) <;> (have hc2 := hc; try simp at hc2)) | (with_reducible refine WT_alt ?_ ?_) | omega)
  refine c_copyNumbers hX (by omega) hl fun x0 g0 hC => ?_
  have hk0 := hC.kept
  have hk1 := hk0.1
  have hL0 := hLa.kept hk0
  have hS0 := hSa.kept hk0
  repeat' (first | (simp (disch := first | omega | assumption | (simp only [List.length_set]; omega) | (simp [*] <;> fail) | assumption) [-Bool.decide_and, -Bool.decide_or, -Bool.not_and, -Bool.not_or, toNat_pred, toNat_succ, wrap64, wr_new, wr_new0, ok_if, ok_ifn, iadV_sl, makeV_int, decT, decF, over_at, *, hL0.len]) | (with_reducible refine Gd_split (fun hc => ?_) (fun hc => ?_) <;> (have hc2 := hc; try simp at hc2)) | (with_reducible refine Br_split (fun hc => ?_) (fun hc => ?_) <;> (have hc2 := hc; try simp at hc2)) | (with_reducible refine GdT_split (fun hc => ?_) (fun hc => ?_) <;> (have hc2 := hc; try simp at hc2)) | (with_reducible refine WT_alt ?_ ?_) | omega)
  refine WL_forM 549755567872 (by decide +kernel) (1) (fun i b g => i ≤ 1 ∧ b 18 = .lf (.int .i64 i) ∧ ((i = 0 ∧ b 8 = .lf x0 ∧ b 9 = .lf .nils ∧ g = g0) ∨ (i = 1 ∧ ∃ o s, b 8 = .lf o ∧ b 9 = .lf s ∧ New h g o 22 1 ((scan (echoS n0 n1) (List.replicate len 0) xs).1.map fl)))) (fun _ _ _ hi => hi.1) ⟨by omega, by simp, .inl ⟨rfl, by simp, by simp, rfl⟩⟩ ?_
  rintro i b g ⟨hi, e18, ⟨rfl, e8, e9, rfl⟩ | ⟨rfl, o, s, e8, e9, hO⟩⟩
  · have r1 := hL0.rd0 (m := 3) (by decide) (by omega)
    have r2 := hS0.rd0 (m := 1) (by decide) (by omega)
    have a1 := hL0.at0 (k := .i64) (by decide)
    have a2 := hS0.at0 (k := .i64) (by decide)
    simp only [List.getElem_cons_zero, List.take_succ_cons, List.take_zero] at r1 r2
    have r2' := fun t => rd_app' (t := t) r2
    clear hK
    repeat' (first | (simp (disch := first | omega | assumption | (simp only [List.length_set]; omega) | (simp [*] <;> fail) | assumption) [-Bool.decide_and, -Bool.decide_or, -Bool.not_and, -Bool.not_or, toNat_pred, toNat_succ, wrap64, wr_new, wr_new0, ok_if, ok_ifn, iadV_sl, makeV_int, decT, decF, over_at, *]) | (with_reducible refine Gd_split (fun hc => ?_) (fun hc => ?_) <;> (have hc2 := hc; try simp at hc2)) | (with_reducible refine Br_split (fun hc => ?_) (fun hc => ?_) <;> (have hc2 := hc; try simp at hc2)) | (with_reducible refine GdT_split (fun hc => ?_) (fun hc => ?_) <;> (have hc2 := hc; try simp at hc2)) | (with_reducible refine WT_alt ?_ ?_) | omega)
    have kx := Kept.app g [⟨[.int .i64 2, .int .i64 len, lf], .own 104 1⟩]
    refine c_runEcho (xs := xs) (hA.kept (hk0.trans kx)) (hT.kept (hk0.trans kx)) (by simpa using h0) (by simp; omega) (hC.arr.kept kx) hn (by simp; omega) fun o s g2 hO hS2 hf => ?_
    have hO1 := hO.base (hk0.trans kx)
    generalize (scan (echoS n0 n1) (List.replicate len 0) xs).1 = y at *
    repeat' (first | (simp (disch := first | omega | assumption | (simp only [List.length_set]; omega) | (simp [*] <;> fail) | assumption) [-Bool.decide_and, -Bool.decide_or, -Bool.not_and, -Bool.not_or, toNat_pred, toNat_succ, wrap64, wr_new, wr_new0, ok_if, ok_ifn, iadV_sl, makeV_int, decT, decF, over_at, *, leavesAll, fillL]) | (with_reducible refine Gd_split (fun hc => ?_) (fun hc => ?_) <;> (have hc2 := hc; try simp at hc2)) | (with_reducible refine Br_split (fun hc => ?_) (fun hc => ?_) <;> (have hc2 := hc; try simp at hc2)) | (with_reducible refine GdT_split (fun hc => ?_) (fun hc => ?_) <;> (have hc2 := hc; try simp at hc2)) | (with_reducible refine WT_alt ?_ ?_) | omega)
    refine oc_push (bytes := 24) (r := [s]) (New.nil (ty := 27) (sz := 1) (Kept.refl g2)) ?_ ?_ ?_ (by decide) rfl (by decide)
    · have := hO1.kept.1; omega
    · simp
    intro o2 g5 hN5 hB5
    have hO2 := hO1.later hN5.kept
    repeat' (first | (simp (disch := first | omega | assumption | (simp only [List.length_set]; omega) | (simp [*] <;> fail) | assumption) [-Bool.decide_and, -Bool.decide_or, -Bool.not_and, -Bool.not_or, toNat_pred, toNat_succ, wrap64, wr_new, wr_new0, ok_if, ok_ifn, iadV_sl, makeV_int, decT, decF, over_at, *]) | (with_reducible refine Gd_split (fun hc => ?_) (fun hc => ?_) <;> (have hc2 := hc; try simp at hc2)) | (with_reducible refine Br_split (fun hc => ?_) (fun hc => ?_) <;> (have hc2 := hc; try simp at hc2)) | (with_reducible refine GdT_split (fun hc => ?_) (fun hc => ?_) <;> (have hc2 := hc; try simp at hc2)) | (with_reducible refine WT_alt ?_ ?_) | omega)
  · have hL1 := hLa.kept hO.kept
    repeat' (first | (simp (disch := first | omega | assumption | (simp only [List.length_set]; omega) | (simp [*] <;> fail) | assumption) [-Bool.decide_and, -Bool.decide_or, -Bool.not_and, -Bool.not_or, toNat_pred, toNat_succ, wrap64, wr_new, wr_new0, ok_if, ok_ifn, iadV_sl, makeV_int, decT, decF, over_at, *, hL1.len]) | (with_reducible refine Gd_split (fun hc => ?_) (fun hc => ?_) <;> (have hc2 := hc; try simp at hc2)) | (with_reducible refine Br_split (fun hc => ?_) (fun hc => ?_) <;> (have hc2 := hc; try simp at hc2)) | (with_reducible refine GdT_split (fun hc => ?_) (fun hc => ?_) <;> (have hc2 := hc; try simp at hc2)) | (with_reducible refine WT_alt ?_ ?_) | omega)
    all_goals exact hK _ _ _ hO
end
section
variable [HasIc S]
set_option maxHeartbeats 4000000 in
theorem c_ImpulseEcho {len n0 n1 n : Nat} (hL : Arr h l 3 ([((⟨2, len, [n0, n1]⟩ : Eff), lf)].map Eff.cells)) (hA : Arr h lf 1 ([n0, n1].map fl)) (h0 : 0 < len) (h1 : len ≤ 32) (hn0 : 0 < n) (hn : n ≤ 256) (hl : lim ≤ h.length)
    (hK : ∀ o g, New h g o 22 1 ((echoOut n0 n1 len n).map fl) → K (.tup [.lf o, .lf (.bool true)]) g) : CallT S false 70 [.lf l, .lf (.int .i64 n)] h lim K := by
  have hok : effOk ⟨2, len, [n0, n1]⟩ := ⟨by simp; omega, by simp [cntE], by simp⟩
  have hch : isCh ([((⟨2, len, [n0, n1]⟩ : Eff), lf)].map (·.1)) := ⟨by simp, fun e he => by simp at he; subst he; exact hok⟩
  have hI : In h Eff.nums [((⟨2, len, [n0, n1]⟩ : Eff), lf)] := .of fun p hp => by simp at hp; subst hp; exact hA
  have hv := fun lim K => c_implValidChain (S := S) (lim := lim) (K := K) hL hI
  rw [decide_eq_true hch] at hv
  refine CallT_of_body (F := L70) (HasIc.f70) rfl ?_; unfold L70; dsimp only []
  repeat' (first | (simp (disch := first | omega | assumption | (simp only [List.length_set]; omega) | (simp [*] <;> fail) | assumption) [-Bool.decide_and, -Bool.decide_or, -Bool.not_and, -Bool.not_or, toNat_pred, toNat_succ, wrap64, wr_new, wr_new0, ok_if, ok_ifn, iadV_sl, makeV_int, decT, decF, over_at, *]) | (with_reducible refine Gd_split (fun hc => ?_) (fun hc => ?_) <;> (have hc2 := hc; try simp at hc2)) | (with_reducible refine Br_split (fun hc => ?_) (fun hc => ?_) <;> (have hc2 := hc; try simp at hc2)) | (with_reducible refine GdT_split (fun hc => ?_) (fun hc => ?_) <;> (have hc2 := hc; try simp at hc2)) | (with_reducible refine WT_alt ?_ ?_) | omega)
  refine c_newState hL hch hl fun o1 g1 qs hD hq => ?_
  have hk := hD.kept
  have hk1 := hk.1
  repeat' (first | (simp (disch := first | omega | assumption | (simp only [List.length_set]; omega) | (simp [*] <;> fail) | assumption) [-Bool.decide_and, -Bool.decide_or, -Bool.not_and, -Bool.not_or, toNat_pred, toNat_succ, wrap64, wr_new, wr_new0, ok_if, ok_ifn, iadV_sl, makeV_int, decT, decF, over_at, *]) | (with_reducible refine Gd_split (fun hc => ?_) (fun hc => ?_) <;> (have hc2 := hc; try simp at hc2)) | (with_reducible refine Br_split (fun hc => ?_) (fun hc => ?_) <;> (have hc2 := hc; try simp at hc2)) | (with_reducible refine GdT_split (fun hc => ?_) (fun hc => ?_) <;> (have hc2 := hc; try simp at hc2)) | (with_reducible refine WT_alt ?_ ?_) | omega)
  refine c_impulse hn0 hn (by omega) fun o2 g2 hX => ?_
  have hk2 := hk.trans hX.kept
  have hq1 : qs.length = 1 := by have := congrArg List.length hq; simpa using this
  obtain ⟨⟨z, st⟩, rfl⟩ : ∃ p, qs = [p] := List.length_eq_one_iff.1 hq1
  have hz : z = List.replicate len 0 := by
    have e : [z] = [stL ⟨2, len, [n0, n1]⟩] := hq
    have e2 : z = stL ⟨2, len, [n0, n1]⟩ := by injection e
    rw [e2]; unfold stL; simp
  subst hz
  have hD2 := hD.later hX.kept
  have hT := Sm.new (hD2.inn (List.replicate len 0, st) (by simp))
  repeat' (first | (simp (disch := first | omega | assumption | (simp only [List.length_set]; omega) | (simp [*] <;> fail) | assumption) [-Bool.decide_and, -Bool.decide_or, -Bool.not_and, -Bool.not_or, toNat_pred, toNat_succ, wrap64, wr_new, wr_new0, ok_if, ok_ifn, iadV_sl, makeV_int, decT, decF, over_at, *]) | (with_reducible refine Gd_split (fun hc => ?_) (fun hc => ?_) <;> (have hc2 := hc; try simp at hc2)) | (with_reducible refine Br_split (fun hc => ?_) (fun hc => ?_) <;> (have hc2 := hc; try simp at hc2)) | (with_reducible refine GdT_split (fun hc => ?_) (fun hc => ?_) <;> (have hc2 := hc; try simp at hc2)) | (with_reducible refine WT_alt ?_ ?_) | omega)
  refine c_runChain1 (xs := imp n) (hL.kept hk2) (hA.kept hk2) hD2.arr hT h0 h1 (Sm.new hX) (by rw [imp_len]; exact hn) (Nat.le_trans hl hk2.1) fun o s g3 hO => ?_
  have hk3 := hK _ _ (hO.base hk2)
  repeat' (first | (simp (disch := first | omega | assumption | (simp only [List.length_set]; omega) | (simp [*] <;> fail) | assumption) [-Bool.decide_and, -Bool.decide_or, -Bool.not_and, -Bool.not_or, toNat_pred, toNat_succ, wrap64, wr_new, wr_new0, ok_if, ok_ifn, iadV_sl, makeV_int, decT, decF, over_at, *]) | (with_reducible refine Gd_split (fun hc => ?_) (fun hc => ?_) <;> (have hc2 := hc; try simp at hc2)) | (with_reducible refine Br_split (fun hc => ?_) (fun hc => ?_) <;> (have hc2 := hc; try simp at hc2)) | (with_reducible refine GdT_split (fun hc => ?_) (fun hc => ?_) <;> (have hc2 := hc; try simp at hc2)) | (with_reducible refine WT_alt ?_ ?_) | omega)
end
end
end Go.E
