/- The law of GainBetween: what the evaluator finds. -/
import Derived.Test.YtpjgmichaeiifaaMGb
import Derived.Test.YtpjgmichaeiifaaEE
import Derived.Test.YtpjgmichaeiifaaProg
set_option linter.unusedVariables false
set_option linter.unusedSimpArgs false
namespace Go.E
open Go
def L13 : LFn := ⟨4, (.seq (.reg [⟨(.some 8), (.mv (.c (.lf (.bool false)))), none⟩])
 (.seq (.reg [⟨(.some 9), (.mv (.c (.lf (.int .i64 1048576)))), none⟩])
 (.seq (.reg [⟨(.some 15), (.mv (.t 1)), none⟩, ⟨(.some 16), (.mv (.t 9)), none⟩, ⟨(.some 17), (.call true 56 [(.t 15), (.t 16)]), none⟩, ⟨(.some 9), (.mv (.t 17)), none⟩])
 (.seq (.seq (.reg [⟨(.some 18), (.mv (.t 9)), none⟩, ⟨(.some 19), (.bin .lss (.t 18) (.c (.lf (.int .i64 0)))), none⟩])
 (.cond (.t 19) (.seq (.reg [⟨(.some 8), (.mv (.c (.lf (.bool true)))), none⟩])
 .ret) .skip))
 (.seq (.reg [⟨(.some 21), (.mv (.t 0)), none⟩, ⟨(.some 22), (.mv (.t 1)), none⟩, ⟨(.some 23), (.call false 58 [(.t 22)]), none⟩, ⟨(.some 24), (.mv (.t 2)), none⟩, ⟨(.some 25), (.mv (.t 3)), none⟩, ⟨(.some 26), (.call true 57 [(.t 21), (.t 23), (.t 24), (.t 25)]), none⟩, ⟨(.some 20), (.mv (.t 26)), none⟩, ⟨(.some 27), (.ext (.t 20) 0), none⟩, ⟨(.some 28), (.ext (.t 20) 1), none⟩, ⟨(.some 10), (.mv (.t 27)), none⟩, ⟨(.some 11), (.mv (.t 28)), none⟩])
 (.seq (.reg [⟨(.some 29), (.mv (.t 1)), none⟩, ⟨(.some 30), (.call false 58 [(.t 29)]), none⟩, ⟨(.some 12), (.mv (.t 30)), none⟩])
 (.seq (.reg [⟨(.some 32), (.mv (.t 0)), none⟩, ⟨(.some 33), (.mv (.t 12)), none⟩, ⟨(.some 34), (.mv (.t 2)), none⟩, ⟨(.some 35), (.mv (.t 3)), none⟩, ⟨(.some 36), (.call true 59 [(.t 32), (.t 33), (.t 34), (.t 35)]), none⟩, ⟨(.some 31), (.mv (.t 36)), none⟩, ⟨(.some 37), (.ext (.t 31) 0), none⟩, ⟨(.some 38), (.ext (.t 31) 1), none⟩, ⟨(.some 13), (.mv (.t 37)), none⟩, ⟨(.some 14), (.mv (.t 38)), none⟩])
 (.seq (.seq (.reg [⟨(.some 39), (.mv (.t 13)), none⟩, ⟨(.some 40), (.toflt .f64 (.t 39)), none⟩, ⟨(.some 41), (.mv (.t 10)), none⟩, ⟨(.some 42), (.toflt .f64 (.t 41)), none⟩, ⟨(.some 43), (.call true 37 [(.t 40), (.t 42)]), none⟩, ⟨(.some 44), (.una .not (.t 43)), none⟩, ⟨(.some 45), (.mv (.t 44)), none⟩, ⟨(.some 46), (.mv (.t 14)), (.some (45, false))⟩, ⟨(.some 47), (.mv (.t 11)), (.some (45, false))⟩, ⟨(.some 48), (.beq true (.t 46) (.t 47)), (.some (45, false))⟩, ⟨(.some 49), (.pick (.t 45) (.c (.lf (.bool true))) (.t 48)), none⟩])
 (.cond (.t 49) (.seq (.reg [⟨(.some 8), (.mv (.c (.lf (.bool false)))), none⟩])
 .ret) .skip))
 (.seq (.seq (.reg [⟨(.some 50), (.mv (.t 12)), none⟩, ⟨(.some 51), (.mv (.t 1)), none⟩, ⟨(.some 52), (.call false 58 [(.t 51)]), none⟩, ⟨(.some 53), (.call true 60 [(.t 50), (.t 52)]), none⟩, ⟨(.some 54), (.una .not (.t 53)), none⟩])
 (.cond (.t 54) (.seq (.reg [⟨(.some 8), (.mv (.c (.lf (.bool false)))), none⟩])
 .ret) .skip))
 (.seq (.reg [⟨(.some 8), (.mv (.c (.lf (.bool true)))), none⟩])
 .ret)))))))))), [(.tmp 8)]⟩
class HasLGainBetween (S : Sys) : Prop extends HasGb S, HasSH S where
  f13 : S.fs 13 = some L13
def sndSh : Sh := .cat 1 (.int .i64) (.cat 1 (.int .i64) (.cat 1 (.flt .f32) .emp))
theorem snd_of {h : Hp} {r : List Lf} (t : Ty h sndSh r) : ∃ p : Snd, r = p.cells ∧ True := by
  obtain ⟨l1, l2, rfl, _, ⟨x, rfl, _⟩, l3, l4, rfl, _, ⟨y, rfl, _⟩, l5, l6, rfl, _, ⟨z, rfl, _, _⟩, rfl⟩ := t
  exact ⟨⟨x, y, z⟩, rfl, trivial⟩
theorem lawGainBetween {S : Sys} [HasLGainBetween S] : LawHolds S 13 [(false, .int .i64), (false, .sl 3 sndSh), (false, .int .i64), (false, .int .i64)] := by
  intro h cs hcs
  obtain ⟨c, _, rfl, ⟨ls, rfl, n, rfl, _⟩, c2, _, rfl, ⟨ls2, rfl, l, rows, rfl, hA, hrows⟩, c3, _, rfl, ⟨ls3, rfl, f, rfl, _⟩, c4, _, rfl, ⟨ls4, rfl, t, rfl, _⟩, rfl⟩ := hcs
  obtain ⟨ps, rfl, _⟩ := rows_map (Q := fun _ => True) fun r hr => snd_of (hrows r hr)
  clear hrows
  obtain ⟨r, ok, hr⟩ : ∃ r ok, gbT n ps f t = .tup [.lf (.flt .f32 r), .lf (.bool ok)] := by
    unfold gbT; split
    · exact ⟨_, _, rfl⟩
    · exact ⟨_, _, rfl⟩
  refine law_of (F := L13) HasLGainBetween.f13 rfl ?_
  unfold L13
  dsimp only []
  repeat' (first | (simp (disch := first | omega | assumption | (simp only [List.length_set]; omega) | (simp [*] <;> fail) | assumption) [-Bool.decide_and, -Bool.decide_or, -Bool.not_and, -Bool.not_or, toNat_pred, toNat_succ, wrap64, wr_new, wr_new0, ok_if, ok_ifn, iadV_sl, makeV_int, decT, decF, over_at, *, c_szSendS hA]) | (with_reducible refine Gd_split (fun hc => ?_) (fun hc => ?_) <;> (have hc2 := hc; try simp at hc2)) | (with_reducible refine Br_split (fun hc => ?_) (fun hc => ?_) <;> (have hc2 := hc; try simp at hc2)) | (with_reducible refine GdT_split (fun hc => ?_) (fun hc => ?_) <;> (have hc2 := hc; try simp at hc2)) | (with_reducible refine WT_alt ?_ ?_) | omega)
  have hn : ps.length ≤ 16777216 := by split at hc2 <;> omega
  refine c_toSendS hA hn (Nat.le_refl _) fun l1 g1 hN1 => ?_
  have c1 := fun K lim => c_specGainBetween (S := S) (K := K) (lim := lim) (n := n) (f := f) (t := t) hN1.arr
  rw [hr] at c1
  repeat' (first | (simp (disch := first | omega | assumption | (simp only [List.length_set]; omega) | (simp [*] <;> fail) | assumption) [-Bool.decide_and, -Bool.decide_or, -Bool.not_and, -Bool.not_or, toNat_pred, toNat_succ, wrap64, wr_new, wr_new0, ok_if, ok_ifn, iadV_sl, makeV_int, decT, decF, over_at, *]) | (with_reducible refine Gd_split (fun hc => ?_) (fun hc => ?_) <;> (have hc2 := hc; try simp at hc2)) | (with_reducible refine Br_split (fun hc => ?_) (fun hc => ?_) <;> (have hc2 := hc; try simp at hc2)) | (with_reducible refine GdT_split (fun hc => ?_) (fun hc => ?_) <;> (have hc2 := hc; try simp at hc2)) | (with_reducible refine WT_alt ?_ ?_) | omega)
  replace hA := hA.kept hN1.kept
  have k1 := hN1.kept.1
  refine c_toSendS hA hn k1 fun l2 g2 hN2 => ?_
  have c2 := fun K lim => c_implGainBetween (S := S) (K := K) (lim := lim) (n := n) (f := f) (t := t) hN2.arr
  rw [hr] at c2
  repeat' (first | (simp (disch := first | omega | assumption | (simp only [List.length_set]; omega) | (simp [*] <;> fail) | assumption) [-Bool.decide_and, -Bool.decide_or, -Bool.not_and, -Bool.not_or, toNat_pred, toNat_succ, wrap64, wr_new, wr_new0, ok_if, ok_ifn, iadV_sl, makeV_int, decT, decF, over_at, *]) | (with_reducible refine Gd_split (fun hc => ?_) (fun hc => ?_) <;> (have hc2 := hc; try simp at hc2)) | (with_reducible refine Br_split (fun hc => ?_) (fun hc => ?_) <;> (have hc2 := hc; try simp at hc2)) | (with_reducible refine GdT_split (fun hc => ?_) (fun hc => ?_) <;> (have hc2 := hc; try simp at hc2)) | (with_reducible refine WT_alt ?_ ?_) | omega)
  replace hA := hA.kept hN2.kept
  have k2 := hN2.kept.1
  refine c_toSendS hA hn (by omega) fun l3 g3 hN3 => ?_
  repeat' (first | (simp (disch := first | omega | assumption | (simp only [List.length_set]; omega) | (simp [*] <;> fail) | assumption) [-Bool.decide_and, -Bool.decide_or, -Bool.not_and, -Bool.not_or, toNat_pred, toNat_succ, wrap64, wr_new, wr_new0, ok_if, ok_ifn, iadV_sl, makeV_int, decT, decF, over_at, *, c_eqSendS (hN2.arr.kept hN3.kept) hN3.arr]) | (with_reducible refine Gd_split (fun hc => ?_) (fun hc => ?_) <;> (have hc2 := hc; try simp at hc2)) | (with_reducible refine Br_split (fun hc => ?_) (fun hc => ?_) <;> (have hc2 := hc; try simp at hc2)) | (with_reducible refine GdT_split (fun hc => ?_) (fun hc => ?_) <;> (have hc2 := hc; try simp at hc2)) | (with_reducible refine WT_alt ?_ ?_) | omega)
end Go.E
namespace Go.E.GainBetween
open Go Go.E
def pure : FuncId → Bool := fun f => List.elem f [3, 4, 5, 6, 7, 8, 9, 10, 11, 12, 13, 14, 15, 16, 19, 23, 25, 29, 33, 34, 36, 37, 38, 39, 40, 42, 43, 44, 45, 47, 48, 51, 52, 55, 56, 57, 59, 60, 65, 66, 68, 69, 70, 73, 76, 78, 79, 80, 81, 82, 85, 86, 87, 88, 89, 90, 91, 92, 93, 94, 95, 96, 97, 98, 100, 101, 102, 103, 104, 105, 106, 107, 109, 110, 111, 112, 113, 114, 115, 116, 117, 118, 120, 121, 123, 124, 125, 127, 128, 130, 131, 132, 133, 134, 135, 136, 137, 138, 139, 140, 142, 143, 144, 145, 146, 147, 148, 149, 150, 151, 152, 153, 154, 155, 156, 158, 160, 162, 169, 171, 172]
def funs : List (Nat × LFn) := [(76, L76), (86, L86), (90, L90), (127, L127), (75, L75), (107, L107), (118, L118), (121, L121), (142, L142), (37, L37), (56, L56), (58, L58), (60, L60), (120, L120), (123, L123), (129, L129), (119, L119), (122, L122), (141, L141), (57, L57), (59, L59), (13, L13)]
def Sy : Sys := sysOf funs
theorem lfn76 : lFn Go.Proofs.Try.prog pure Go.Proofs.Try.f76 = some L76 := by kernel_rfl
theorem lfn86 : lFn Go.Proofs.Try.prog pure Go.Proofs.Try.f86 = some L86 := by kernel_rfl
theorem lfn90 : lFn Go.Proofs.Try.prog pure Go.Proofs.Try.f90 = some L90 := by kernel_rfl
theorem lfn127 : lFn Go.Proofs.Try.prog pure Go.Proofs.Try.f127 = some L127 := by kernel_rfl
theorem lfn75 : lFn Go.Proofs.Try.prog pure Go.Proofs.Try.f75 = some L75 := by kernel_rfl
theorem lfn107 : lFn Go.Proofs.Try.prog pure Go.Proofs.Try.f107 = some L107 := by kernel_rfl
theorem lfn118 : lFn Go.Proofs.Try.prog pure Go.Proofs.Try.f118 = some L118 := by kernel_rfl
theorem lfn121 : lFn Go.Proofs.Try.prog pure Go.Proofs.Try.f121 = some L121 := by kernel_rfl
theorem lfn142 : lFn Go.Proofs.Try.prog pure Go.Proofs.Try.f142 = some L142 := by kernel_rfl
theorem lfn37 : lFn Go.Proofs.Try.prog pure Go.Proofs.Try.f37 = some L37 := by kernel_rfl
theorem lfn56 : lFn Go.Proofs.Try.prog pure Go.Proofs.Try.f56 = some L56 := by kernel_rfl
theorem lfn58 : lFn Go.Proofs.Try.prog pure Go.Proofs.Try.f58 = some L58 := by kernel_rfl
theorem lfn60 : lFn Go.Proofs.Try.prog pure Go.Proofs.Try.f60 = some L60 := by kernel_rfl
theorem lfn120 : lFn Go.Proofs.Try.prog pure Go.Proofs.Try.f120 = some L120 := by kernel_rfl
theorem lfn123 : lFn Go.Proofs.Try.prog pure Go.Proofs.Try.f123 = some L123 := by kernel_rfl
theorem lfn129 : lFn Go.Proofs.Try.prog pure Go.Proofs.Try.f129 = some L129 := by kernel_rfl
theorem lfn119 : lFn Go.Proofs.Try.prog pure Go.Proofs.Try.f119 = some L119 := by kernel_rfl
theorem lfn122 : lFn Go.Proofs.Try.prog pure Go.Proofs.Try.f122 = some L122 := by kernel_rfl
theorem lfn141 : lFn Go.Proofs.Try.prog pure Go.Proofs.Try.f141 = some L141 := by kernel_rfl
theorem lfn57 : lFn Go.Proofs.Try.prog pure Go.Proofs.Try.f57 = some L57 := by kernel_rfl
theorem lfn59 : lFn Go.Proofs.Try.prog pure Go.Proofs.Try.f59 = some L59 := by kernel_rfl
theorem lfn13 : lFn Go.Proofs.Try.prog pure Go.Proofs.Try.f13 = some L13 := by kernel_rfl
instance : HasA Sy := { f76 := rfl, f86 := rfl, f90 := rfl, f127 := rfl }
instance : HasN Sy := { f75 := rfl }
instance : HasS Sy := { f107 := rfl, f118 := rfl, f121 := rfl, f142 := rfl }
instance : HasSame Sy := { f37 := rfl }
instance : HasSH Sy := { f56 := rfl, f58 := rfl, f60 := rfl, f120 := rfl, f123 := rfl }
instance : HasCn Sy := { f129 := rfl }
instance : HasMx Sy := { f119 := rfl, f122 := rfl, f141 := rfl }
instance : HasGb Sy := { f57 := rfl, f59 := rfl }
instance : HasLGainBetween Sy := { f13 := rfl }
theorem sysOK {B : Nat} {w0 : World} : SysOK Go.Proofs.Try.prog pure Sy B w0 := SysOK.of (by
  intro p hp
  simp only [funs, List.mem_cons, List.not_mem_nil, or_false] at hp
  rcases hp with rfl | rfl | rfl | rfl | rfl | rfl | rfl | rfl | rfl | rfl | rfl | rfl | rfl | rfl | rfl | rfl | rfl | rfl | rfl | rfl | rfl | rfl
  · exact ⟨_, Go.Proofs.Try.func76, lfn76⟩
  · exact ⟨_, Go.Proofs.Try.func86, lfn86⟩
  · exact ⟨_, Go.Proofs.Try.func90, lfn90⟩
  · exact ⟨_, Go.Proofs.Try.func127, lfn127⟩
  · exact ⟨_, Go.Proofs.Try.func75, lfn75⟩
  · exact ⟨_, Go.Proofs.Try.func107, lfn107⟩
  · exact ⟨_, Go.Proofs.Try.func118, lfn118⟩
  · exact ⟨_, Go.Proofs.Try.func121, lfn121⟩
  · exact ⟨_, Go.Proofs.Try.func142, lfn142⟩
  · exact ⟨_, Go.Proofs.Try.func37, lfn37⟩
  · exact ⟨_, Go.Proofs.Try.func56, lfn56⟩
  · exact ⟨_, Go.Proofs.Try.func58, lfn58⟩
  · exact ⟨_, Go.Proofs.Try.func60, lfn60⟩
  · exact ⟨_, Go.Proofs.Try.func120, lfn120⟩
  · exact ⟨_, Go.Proofs.Try.func123, lfn123⟩
  · exact ⟨_, Go.Proofs.Try.func129, lfn129⟩
  · exact ⟨_, Go.Proofs.Try.func119, lfn119⟩
  · exact ⟨_, Go.Proofs.Try.func122, lfn122⟩
  · exact ⟨_, Go.Proofs.Try.func141, lfn141⟩
  · exact ⟨_, Go.Proofs.Try.func57, lfn57⟩
  · exact ⟨_, Go.Proofs.Try.func59, lfn59⟩
  · exact ⟨_, Go.Proofs.Try.func13, lfn13⟩)

end Go.E.GainBetween
