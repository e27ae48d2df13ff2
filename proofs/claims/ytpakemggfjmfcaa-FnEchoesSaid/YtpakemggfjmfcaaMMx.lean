/- What nodes make of their inputs, both sides. -/
import Derived.Test.YtpakemggfjmfcaaMDe
import Derived.Test.YtpakemggfjmfcaaMH
import Derived.Test.YtpakemggfjmfcaaMS
import Derived.Test.YtpakemggfjmfcaaMSm
set_option linter.unusedVariables false
set_option linter.unusedSimpArgs false
namespace Go.E
open Go
def L167 : LFn := ⟨1, (.seq (.reg [⟨(.some 2), (.mv (.c (.lf .nils))), none⟩])
 (.seq (.reg [⟨(.some 3), (.lit 22 1 0 [] []), none⟩, ⟨(.some 4), (.mv (.t 0)), none⟩, ⟨(.some 5), (.app 22 1 4 (.t 3) (.t 4)), none⟩, ⟨(.some 2), (.mv (.t 5)), none⟩])
 .ret)), [(.tmp 2)]⟩
def L127 : LFn := ⟨2, (.seq (.reg [⟨(.some 4), (.mv (.c (.lf .nils))), none⟩])
 (.seq (.reg [⟨(.some 11), (.lit 27 1 0 [] []), none⟩, ⟨(.some 5), (.mv (.t 11)), none⟩])
 (.seq (.seq (.reg [⟨(.some 12), (.mv (.t 0)), none⟩, ⟨(.some 13), (.len (.t 12)), none⟩, ⟨(.some 14), (.mv (.c (.lf (.int .i64 0)))), none⟩])
 (.block 0 (.loop (.seq (.reg [⟨(.some 15), (.bin .lss (.t 14) (.t 13)), none⟩])
 (.seq (.cond (.t 15) .skip (.exit 0))
 (.seq (.block 1 (.seq (.reg [⟨(.some 16), (.mv (.t 14)), none⟩, ⟨(.some 6), (.mv (.t 16)), none⟩])
 (.seq (.reg [⟨(.some 17), (.mv (.t 0)), none⟩, ⟨(.some 18), (.mv (.t 6)), none⟩, ⟨(.some 19), (.iaddr 1 (.t 17) (.t 18)), none⟩, ⟨(.some 20), (.load false 1 (.t 19)), none⟩, ⟨(.some 21), (.call false 167 [(.t 20)]), none⟩, ⟨(.some 7), (.mv (.t 21)), none⟩])
 (.seq (.seq (.reg [⟨(.some 22), (.mv (.t 1)), none⟩, ⟨(.some 23), (.len (.t 22)), none⟩, ⟨(.some 24), (.mv (.c (.lf (.int .i64 0)))), none⟩])
 (.block 2 (.loop (.seq (.reg [⟨(.some 25), (.bin .lss (.t 24) (.t 23)), none⟩])
 (.seq (.cond (.t 25) .skip (.exit 2))
 (.seq (.block 3 (.seq (.reg [⟨(.some 26), (.mv (.t 24)), none⟩, ⟨(.some 8), (.mv (.t 26)), none⟩])
 (.seq (.seq (.reg [⟨(.some 27), (.mv (.t 1)), none⟩, ⟨(.some 28), (.mv (.t 8)), none⟩, ⟨(.some 29), (.iaddr 3 (.t 27) (.t 28)), none⟩, ⟨(.some 30), (.faddr 1 (.t 29)), none⟩, ⟨(.some 31), (.load false 1 (.t 30)), none⟩, ⟨(.some 32), (.mv (.t 6)), none⟩, ⟨(.some 33), (.bin .neq (.t 31) (.t 32)), none⟩])
 (.cond (.t 33) (.exit 3) .skip))
 (.seq (.reg [⟨(.some 34), (.mv (.t 5)), none⟩, ⟨(.some 35), (.mv (.t 1)), none⟩, ⟨(.some 36), (.mv (.t 8)), none⟩, ⟨(.some 37), (.iaddr 3 (.t 35) (.t 36)), none⟩, ⟨(.some 38), (.faddr 0 (.t 37)), none⟩, ⟨(.some 39), (.load false 1 (.t 38)), none⟩, ⟨(.some 40), (.iaddr 1 (.t 34) (.t 39)), none⟩, ⟨(.some 41), (.load false 1 (.t 40)), none⟩, ⟨(.some 9), (.mv (.t 41)), none⟩])
 (.seq (.reg [⟨(.some 42), (.mv (.t 7)), none⟩, ⟨(.some 43), (.len (.t 42)), none⟩, ⟨(.some 44), (.mv (.c (.lf (.int .i64 0)))), none⟩])
 (.block 4 (.loop (.seq (.reg [⟨(.some 45), (.bin .lss (.t 44) (.t 43)), none⟩])
 (.seq (.cond (.t 45) .skip (.exit 4))
 (.seq (.block 5 (.seq (.reg [⟨(.some 46), (.mv (.t 44)), none⟩, ⟨(.some 10), (.mv (.t 46)), none⟩])
 (.reg [⟨(.some 47), (.mv (.t 7)), none⟩, ⟨(.some 48), (.mv (.t 10)), none⟩, ⟨(.some 49), (.iaddr 1 (.t 47) (.t 48)), none⟩, ⟨(.some 50), (.load false 1 (.t 49)), none⟩, ⟨(.some 51), (.mv (.t 1)), none⟩, ⟨(.some 52), (.mv (.t 8)), none⟩, ⟨(.some 53), (.iaddr 3 (.t 51) (.t 52)), none⟩, ⟨(.some 54), (.faddr 2 (.t 53)), none⟩, ⟨(.some 55), (.load false 1 (.t 54)), none⟩, ⟨(.some 56), (.mv (.t 9)), none⟩, ⟨(.some 57), (.mv (.t 10)), none⟩, ⟨(.some 58), (.iaddr 1 (.t 56) (.t 57)), none⟩, ⟨(.some 59), (.load false 1 (.t 58)), none⟩, ⟨(.some 60), (.bin .mul (.t 55) (.t 59)), none⟩, ⟨(.some 61), (.bin .add (.t 50) (.t 60)), none⟩, ⟨(.some 62), (.iaddr 1 (.t 47) (.t 48)), none⟩, ⟨none, (.store 1 (.t 62) (.t 61)), none⟩])))
 (.reg [⟨(.some 63), (.bin .add (.t 44) (.c (.lf (.int .i64 1)))), none⟩, ⟨(.some 44), (.mv (.t 63)), none⟩])))))))))))
 (.reg [⟨(.some 64), (.bin .add (.t 24) (.c (.lf (.int .i64 1)))), none⟩, ⟨(.some 24), (.mv (.t 64)), none⟩])))))))
 (.reg [⟨(.some 65), (.mv (.t 5)), none⟩, ⟨(.some 66), (.mv (.t 7)), none⟩, ⟨(.some 67), (.lit 27 1 1 [.nils] [(0, (1, (.t 66)))]), none⟩, ⟨(.some 68), (.app 27 1 24 (.t 65) (.t 67)), none⟩, ⟨(.some 5), (.mv (.t 68)), none⟩])))))
 (.reg [⟨(.some 69), (.bin .add (.t 14) (.c (.lf (.int .i64 1)))), none⟩, ⟨(.some 14), (.mv (.t 69)), none⟩])))))))
 (.seq (.reg [⟨(.some 70), (.mv (.t 5)), none⟩, ⟨(.some 4), (.mv (.t 70)), none⟩])
 .ret)))), [(.tmp 4)]⟩
def L131 : LFn := ⟨2, (.seq (.reg [⟨(.some 4), (.mv (.c (.lf .nils))), none⟩])
 (.seq (.reg [⟨(.some 5), (.mv (.c (.lf .nils))), none⟩])
 (.seq (.seq (.reg [⟨(.some 12), (.mv (.t 0)), none⟩, ⟨(.some 13), (.len (.t 12)), none⟩, ⟨(.some 14), (.mv (.c (.lf (.int .i64 0)))), none⟩])
 (.block 0 (.loop (.seq (.reg [⟨(.some 15), (.bin .lss (.t 14) (.t 13)), none⟩])
 (.seq (.cond (.t 15) .skip (.exit 0))
 (.seq (.block 1 (.seq (.reg [⟨(.some 16), (.mv (.t 14)), none⟩, ⟨(.some 17), (.iaddr 1 (.t 12) (.t 14)), none⟩, ⟨(.some 18), (.load false 1 (.t 17)), none⟩, ⟨(.some 6), (.mv (.t 16)), none⟩, ⟨(.some 7), (.mv (.t 18)), none⟩])
 (.seq (.reg [⟨(.some 19), (.mv (.t 7)), none⟩, ⟨(.some 20), (.call false 145 [(.t 19)]), none⟩, ⟨(.some 8), (.mv (.t 20)), none⟩])
 (.seq (.seq (.reg [⟨(.some 21), (.mv (.t 1)), none⟩, ⟨(.some 22), (.len (.t 21)), none⟩, ⟨(.some 23), (.mv (.c (.lf (.int .i64 0)))), none⟩])
 (.block 2 (.loop (.seq (.reg [⟨(.some 24), (.bin .lss (.t 23) (.t 22)), none⟩])
 (.seq (.cond (.t 24) .skip (.exit 2))
 (.seq (.block 3 (.seq (.reg [⟨(.some 25), (.iaddr 3 (.t 21) (.t 23)), none⟩, ⟨(.some 26), (.load true 3 (.t 25)), none⟩, ⟨(.some 10), (.alloc 165 [(.int .i64 0), (.int .i64 0), (.flt .f32 0)]), none⟩, ⟨none, (.store 3 (.t 10) (.t 26)), none⟩])
 (.seq (.seq (.reg [⟨(.some 27), (.faddr 1 (.t 10)), none⟩, ⟨(.some 28), (.load false 1 (.t 27)), none⟩, ⟨(.some 29), (.mv (.t 6)), none⟩, ⟨(.some 30), (.bin .neq (.t 28) (.t 29)), none⟩])
 (.cond (.t 30) (.exit 3) .skip))
 (.seq (.reg [⟨(.some 31), (.mv (.t 8)), none⟩, ⟨(.some 32), (.len (.t 31)), none⟩, ⟨(.some 33), (.mv (.c (.lf (.int .i64 0)))), none⟩])
 (.block 4 (.loop (.seq (.reg [⟨(.some 34), (.bin .lss (.t 33) (.t 32)), none⟩])
 (.seq (.cond (.t 34) .skip (.exit 4))
 (.seq (.block 5 (.seq (.reg [⟨(.some 35), (.mv (.t 33)), none⟩, ⟨(.some 11), (.mv (.t 35)), none⟩])
 (.reg [⟨(.some 36), (.mv (.t 8)), none⟩, ⟨(.some 37), (.mv (.t 11)), none⟩, ⟨(.some 38), (.iaddr 1 (.t 36) (.t 37)), none⟩, ⟨(.some 39), (.load false 1 (.t 38)), none⟩, ⟨(.some 40), (.faddr 2 (.t 10)), none⟩, ⟨(.some 41), (.load false 1 (.t 40)), none⟩, ⟨(.some 42), (.mv (.t 5)), none⟩, ⟨(.some 43), (.faddr 0 (.t 10)), none⟩, ⟨(.some 44), (.load false 1 (.t 43)), none⟩, ⟨(.some 45), (.iaddr 1 (.t 42) (.t 44)), none⟩, ⟨(.some 46), (.load false 1 (.t 45)), none⟩, ⟨(.some 47), (.mv (.t 11)), none⟩, ⟨(.some 48), (.iaddr 1 (.t 46) (.t 47)), none⟩, ⟨(.some 49), (.load false 1 (.t 48)), none⟩, ⟨(.some 50), (.bin .mul (.t 41) (.t 49)), none⟩, ⟨(.some 51), (.bin .add (.t 39) (.t 50)), none⟩, ⟨(.some 52), (.iaddr 1 (.t 36) (.t 37)), none⟩, ⟨none, (.store 1 (.t 52) (.t 51)), none⟩])))
 (.reg [⟨(.some 53), (.bin .add (.t 33) (.c (.lf (.int .i64 1)))), none⟩, ⟨(.some 33), (.mv (.t 53)), none⟩]))))))))))
 (.reg [⟨(.some 54), (.bin .add (.t 23) (.c (.lf (.int .i64 1)))), none⟩, ⟨(.some 23), (.mv (.t 54)), none⟩])))))))
 (.reg [⟨(.some 55), (.mv (.t 5)), none⟩, ⟨(.some 56), (.mv (.t 8)), none⟩, ⟨(.some 57), (.lit 27 1 1 [.nils] [(0, (1, (.t 56)))]), none⟩, ⟨(.some 58), (.app 27 1 24 (.t 55) (.t 57)), none⟩, ⟨(.some 5), (.mv (.t 58)), none⟩])))))
 (.reg [⟨(.some 59), (.bin .add (.t 14) (.c (.lf (.int .i64 1)))), none⟩, ⟨(.some 14), (.mv (.t 59)), none⟩])))))))
 (.seq (.reg [⟨(.some 60), (.mv (.t 5)), none⟩, ⟨(.some 4), (.mv (.t 60)), none⟩])
 .ret)))), [(.tmp 4)]⟩
class HasMx (S : Sys) : Prop extends HasCn S where
  f167 : S.fs 167 = some L167
  f127 : S.fs 127 = some L127
  f131 : S.fs 131 = some L131
def addF (gn : Nat) (xs ys : List Nat) (t : Nat) : Nat := fbin .add .f32 (xs.getD t 0) (fbin .mul .f32 gn (ys.getD t 0))
def addS (gn : Nat) (xs ys : List Nat) : List Nat := tabTo (addF gn xs ys) xs.length
theorem addS_len {gn : Nat} {xs ys : List Nat} : (addS gn xs ys).length = xs.length := tabTo_len
def sigS (out : List (List Nat)) (k : Nat) (x : List Nat) (s : Snd) : List Nat := if s.to_ = (k : Int) then addS s.gain x (out.getD s.frm.toNat []) else x
def sigTo (out : List (List Nat)) (k : Nat) (x : List Nat) (ss : List Snd) (j : Nat) : List Nat := (ss.take j).foldl (sigS out k) x
theorem sigS_len {out : List (List Nat)} {k : Nat} {x : List Nat} {s : Snd} : (sigS out k x s).length = x.length := by unfold sigS; split; exact addS_len; rfl
theorem sigTo_zero {out : List (List Nat)} {k : Nat} {x : List Nat} {ss : List Snd} : sigTo out k x ss 0 = x := by simp [sigTo]
theorem sigTo_succ {out : List (List Nat)} {k : Nat} {x : List Nat} {ss : List Snd} {j : Nat} (hj : j < ss.length) : sigTo out k x ss (j + 1) = sigS out k (sigTo out k x ss j) ss[j] := by
  unfold sigTo; rw [List.take_succ_eq_append_getElem hj, List.foldl_append]; rfl
theorem sigTo_len {out : List (List Nat)} {k : Nat} {x : List Nat} {ss : List Snd} : ∀ {j : Nat}, j ≤ ss.length → (sigTo out k x ss j).length = x.length
  | 0, _ => by rw [sigTo_zero]
  | j + 1, hj => by rw [sigTo_succ (by omega), sigS_len]; exact sigTo_len (by omega)
def mixS (ss : List Snd) (out : List (List Nat)) (x : List Nat) : List (List Nat) := out ++ [sigTo out out.length x ss ss.length]
def mixTo (ss : List Snd) (xss : List (List Nat)) (i : Nat) : List (List Nat) := (xss.take i).foldl (mixS ss) []
def mixL (ss : List Snd) (xss : List (List Nat)) : List (List Nat) := mixTo ss xss xss.length
theorem mixTo_zero {ss : List Snd} {xss : List (List Nat)} : mixTo ss xss 0 = [] := by simp [mixTo]
theorem mixTo_succ' {ss : List Snd} {xss : List (List Nat)} {i : Nat} (hi : i < xss.length) : mixTo ss xss (i + 1) = mixS ss (mixTo ss xss i) xss[i] := by
  unfold mixTo; rw [List.take_succ_eq_append_getElem hi, List.foldl_append]; rfl
theorem mixTo_len {ss : List Snd} {xss : List (List Nat)} : ∀ {i : Nat}, i ≤ xss.length → (mixTo ss xss i).length = i
  | 0, _ => by rw [mixTo_zero]; rfl
  | i + 1, hi => by
    rw [mixTo_succ' (by omega), mixS, List.length_append, mixTo_len (by omega)]; rfl
theorem mixTo_succ {ss : List Snd} {xss : List (List Nat)} {i : Nat} (hi : i < xss.length) : mixTo ss xss (i + 1) = mixTo ss xss i ++ [sigTo (mixTo ss xss i) i xss[i] ss ss.length] := by
  rw [mixTo_succ' hi, mixS, mixTo_len (by omega)]
theorem mixTo_each {ss : List Snd} {xss : List (List Nat)} {m : Nat} (hm : ∀ x ∈ xss, x.length = m) : ∀ {i : Nat}, i ≤ xss.length → ∀ y ∈ mixTo ss xss i, y.length = m
  | 0, _, y, hy => by rw [mixTo_zero] at hy; simp at hy
  | i + 1, hi, y, hy => by
    rw [mixTo_succ (by omega)] at hy
    rcases List.mem_append.1 hy with hy | hy
    · exact mixTo_each hm (by omega) y hy
    · simp only [List.mem_singleton] at hy
      rw [hy, sigTo_len (Nat.le_refl _)]
      exact hm _ (List.getElem_mem _)
def Sms {α : Type} (h : Hp) (ro : α → List Nat) (ps : List (α × Lf)) : Prop := ∀ i (hi : i < ps.length), Sm h ps[i].2 (ro ps[i].1)
theorem Sms.kept {α : Type} {h g : Hp} {ro : α → List Nat} {ps : List (α × Lf)} (s : Sms h ro ps) (k : Kept h g) : Sms g ro ps := fun i hi => (s i hi).kept k
theorem Sms.new {α : Type} {h g : Hp} {l : Lf} {ty sz : Nat} {ce : α × Lf → List Lf} {ro : α → List Nat} {ps : List (α × Lf)} (hD : NewD h g l ty sz ce ro 22 ps) : Sms g ro ps := fun i hi => Sm.new (hD.inn _ (List.getElem_mem hi))
section
variable {S : Sys} {lim : Nat} {h : Hp} {K : CV → Hp → Prop} [HasMx S] {l l2 : Lf}
theorem c_l03Own {xs : List Nat} (s : Sm h l xs) (hn : xs.length ≤ 1000000) (hl : lim ≤ h.length) (hK : ∀ l' g, New h g l' 22 1 (xs.map fl) → K (.lf l') g) : CallT S false 167 [.lf l] h lim K := by
  obtain ⟨l', g', h1, h2, h3⟩ := (New.lit0 (h := h) (ty := 22) (sz := 1)).joined (ys := []) (lim := lim) (s.kept (Kept.app h _)) hl (by simp; omega)
  rw [List.nil_append] at h2
  refine CallT_of_body (F := L167) (HasMx.f167) rfl ?_; unfold L167; dsimp only []
  repeat' (first | (simp (disch := first | omega | assumption | (simp only [List.length_set]; omega) | (simp [*] <;> fail) | assumption) [-Bool.decide_and, -Bool.decide_or, -Bool.not_and, -Bool.not_or, toNat_pred, toNat_succ, wrap64, wr_new, wr_new0, ok_if, ok_ifn, iadV_sl, makeV_int, decT, decF, over_at, *, leavesAll, fillL]) | (with_reducible refine Gd_split (fun hc => ?_) (fun hc => ?_) <;> (have hc2 := hc; try simp at hc2)) | (with_reducible refine Br_split (fun hc => ?_) (fun hc => ?_) <;> (have hc2 := hc; try simp at hc2)) | (with_reducible refine GdT_split (fun hc => ?_) (fun hc => ?_) <;> (have hc2 := hc; try simp at hc2)) | (with_reducible refine WT_alt ?_ ?_) | omega)
variable {ps : List (List Nat × Lf)} {ss : List Snd} {m : Nat}
set_option maxHeartbeats 2000000 in
theorem c_l07Mix (hA : Arr h l 1 (ps.map ssCells)) (hI : Sms h ssRows ps) (hB : Arr h l2 3 (ss.map Snd.cells)) (hs : areSends ps.length ss) (hm : ∀ x ∈ ps.map (·.1), x.length = m) (hm2 : m ≤ 256) (hl : lim ≤ h.length)
    (hK : ∀ o g qs, NewD h g o 27 1 ssCells ssRows 22 qs → qs.map (·.1) = mixL ss (ps.map (·.1)) → K (.lf o) g) : CallT S false 127 [.lf l, .lf l2] h lim K := by
  have hp8 : (ps.length : Int) ≤ 8 := hs.1.2
  have hs20 := hs.2.1
  have hsu := hs.2.2
  clear hs
  refine CallT_of_body (F := L127) (HasMx.f127) rfl ?_; unfold L127; dsimp only []
  repeat' (first | (simp (disch := first | omega | assumption | (simp only [List.length_set]; omega) | (simp [*] <;> fail) | assumption) [-Bool.decide_and, -Bool.decide_or, -Bool.not_and, -Bool.not_or, toNat_pred, toNat_succ, wrap64, wr_new, wr_new0, ok_if, ok_ifn, iadV_sl, makeV_int, decT, decF, over_at, *, hA.len, leavesAll, fillL]) | (with_reducible refine Gd_split (fun hc => ?_) (fun hc => ?_) <;> (have hc2 := hc; try simp at hc2)) | (with_reducible refine Br_split (fun hc => ?_) (fun hc => ?_) <;> (have hc2 := hc; try simp at hc2)) | (with_reducible refine GdT_split (fun hc => ?_) (fun hc => ?_) <;> (have hc2 := hc; try simp at hc2)) | (with_reducible refine WT_alt ?_ ?_) | omega)
  refine WL_forM 1180591620717411289056 (by decide +kernel) (ps.length) (fun i b g => i ≤ ps.length ∧ b 14 = .lf (.int .i64 i) ∧ ∃ o qs, b 5 = .lf o ∧ NewD h g o 27 1 ssCells ssRows 22 qs ∧ qs.map (·.1) = mixTo ss (ps.map (·.1)) i) (fun _ _ _ hi => hi.1) ⟨by omega, by simp, _, [], by simp, NewD.lit (Kept.refl _), by rw [mixTo_zero]; rfl⟩ ?_
  rintro i b g ⟨hi, e14, o, qs, e5, hD, hq⟩
  have hk := hD.kept
  have hk1 := hk.1
  have hA1 := hA.kept hk
  have hI1 := hI.kept hk
  by_cases hlt : i < ps.length
  · have hxm : ps[i].1.length = m := hm _ (List.mem_map.2 ⟨ps[i], List.getElem_mem hlt, rfl⟩)
    have hql : qs.length = i := by have := congrArg List.length hq; rw [mixTo_len (by simpa using hi)] at this; simpa using this
    have hqe := mixTo_each (ss := ss) hm (i := i) (by simpa using hi)
    have hqs := mixTo_succ (ss := ss) (xss := ps.map (·.1)) (i := i) (by simpa using hlt)
    rw [← hq] at hqe hqs
    rw [List.getElem_map] at hqs
    have hqH : Hid (mixTo ss (ps.map (·.1)) (i + 1) = qs.map (·.1) ++ [sigTo (qs.map (·.1)) i ps[i].1 ss ss.length]) := hqs
    clear hqs hq
    repeat' (first | (simp (disch := first | omega | assumption | (simp only [List.length_set]; omega) | (simp [*] <;> fail) | assumption) [-Bool.decide_and, -Bool.decide_or, -Bool.not_and, -Bool.not_or, toNat_pred, toNat_succ, wrap64, wr_new, wr_new0, ok_if, ok_ifn, iadV_sl, makeV_int, decT, decF, over_at, *, hA1.len, hA1.at_, hA1.at_', hA1.rd, hA1.rdIn, hA1.rdIn0, hA1.rdA, hA1.rdInA, hA1.rdIn0A, hA1.rd1, ssCells]) | (with_reducible refine Gd_split (fun hc => ?_) (fun hc => ?_) <;> (have hc2 := hc; try simp at hc2)) | (with_reducible refine Br_split (fun hc => ?_) (fun hc => ?_) <;> (have hc2 := hc; try simp at hc2)) | (with_reducible refine GdT_split (fun hc => ?_) (fun hc => ?_) <;> (have hc2 := hc; try simp at hc2)) | (with_reducible refine WT_alt ?_ ?_) | omega)
    refine c_l03Own (hI1 i hlt) (by simp only [ssRows]; omega) (by omega) fun sg g1 hS => ?_
    obtain ⟨hf0, hf⟩ := hD.fresh hS
    have k1 := hS.kept
    have hS1 := hS.base hk
    have hsg : sg ≠ .nils → h.length ≤ sg.id := fun q => (hS1.lt q).1
    replace hD := hD.later k1
    have hB1 := hB.kept hD.kept
    repeat' (first | (simp (disch := first | omega | assumption | (simp only [List.length_set]; omega) | (simp [*] <;> fail) | assumption) [-Bool.decide_and, -Bool.decide_or, -Bool.not_and, -Bool.not_or, toNat_pred, toNat_succ, wrap64, wr_new, wr_new0, ok_if, ok_ifn, iadV_sl, makeV_int, decT, decF, over_at, *, hB1.len]) | (with_reducible refine Gd_split (fun hc => ?_) (fun hc => ?_) <;> (have hc2 := hc; try simp at hc2)) | (with_reducible refine Br_split (fun hc => ?_) (fun hc => ?_) <;> (have hc2 := hc; try simp at hc2)) | (with_reducible refine GdT_split (fun hc => ?_) (fun hc => ?_) <;> (have hc2 := hc; try simp at hc2)) | (with_reducible refine WT_alt ?_ ?_) | omega)
    refine WL_forM 36893488147402327808 (by decide +kernel) (ss.length) (fun j b g => j ≤ ss.length ∧ b 24 = .lf (.int .i64 j) ∧ New h g sg 22 1 ((sigTo (qs.map (·.1)) i ps[i].1 ss j).map fl) ∧ NewD h g o 27 1 ssCells ssRows 22 qs) (fun _ _ _ hi => hi.1) ⟨by omega, by simp, by rw [sigTo_zero]; exact hS1, hD⟩ ?_
    rintro j b2 g2 ⟨hj, e24, hT, hE⟩
    have hB2 := hB.kept hT.kept
    clear hS hS1 k1 hA1 hI1 hB1 hD hk hk1
    have hk1 := hT.kept.1
    by_cases hjlt : j < ss.length
    · have hso := hsu j hjlt hjlt
      have hss := sigTo_succ (out := qs.map (·.1)) (k := i) (x := ps[i].1) hjlt
      have hXl := sigTo_len (out := qs.map (·.1)) (k := i) (x := ps[i].1) hj
      by_cases hto : ss[j].to_ = i
      · have hfi : ss[j].frm.toNat < qs.length := by unfold sendOk at hso; omega
        have hfz : ss[j].frm = (ss[j].frm.toNat : Int) := by unfold sendOk at hso; omega
        unfold sigS at hss
        rw [if_pos hto] at hss
        generalize ss[j].frm.toNat = fN at *
        have hYl : qs[fN].1.length = m := hqe _ (List.mem_map.2 ⟨qs[fN], List.getElem_mem hfi, rfl⟩)
        have hYg : (qs.map (·.1)).getD fN [] = qs[fN].1 := by simp [hfi]
        rw [hYg] at hss
        have hYA0 := hE.ins fN hfi
        simp only [ssRows] at hYA0
        have hEA := hE.arr
        have hTl := hT.arr.len
        generalize sigTo (qs.map (·.1)) i ps[i].1 ss j = X at *
        rw [hXl, hxm] at hTl
        repeat' (first | (simp (disch := first | omega | assumption | (simp only [List.length_set]; omega) | (simp [*] <;> fail) | assumption) [-Bool.decide_and, -Bool.decide_or, -Bool.not_and, -Bool.not_or, toNat_pred, toNat_succ, wrap64, wr_new, wr_new0, ok_if, ok_ifn, iadV_sl, makeV_int, decT, decF, over_at, *, hB2.len, hB2.at_, hB2.at_', hB2.rd, hB2.rdIn, hB2.rdIn0, hB2.rdA, hB2.rdInA, hB2.rdIn0A, Snd.cells, hEA.len, hEA.at_, hEA.at_', hEA.rd, hEA.rdIn, hEA.rdIn0, hEA.rdA, hEA.rdInA, hEA.rdIn0A, hEA.rd1, ssCells]) | (with_reducible refine Gd_split (fun hc => ?_) (fun hc => ?_) <;> (have hc2 := hc; try simp at hc2)) | (with_reducible refine Br_split (fun hc => ?_) (fun hc => ?_) <;> (have hc2 := hc; try simp at hc2)) | (with_reducible refine GdT_split (fun hc => ?_) (fun hc => ?_) <;> (have hc2 := hc; try simp at hc2)) | (with_reducible refine WT_alt ?_ ?_) | omega)
        refine WL_forM 18446726481523508224 (by decide +kernel) (m) (fun t b g => t ≤ m ∧ b 44 = .lf (.int .i64 t) ∧ New h g sg 22 1 ((updTo (addF ss[j].gain X qs[fN].1) X t).map fl) ∧ NewD h g o 27 1 ssCells ssRows 22 qs) (fun _ _ _ hi => hi.1) ⟨by omega, by simp, by rw [updTo_zero]; exact hT, hE⟩ ?_
        rintro t b3 g3 ⟨ht, e44, hM, hF⟩
        by_cases htl : t < m
        · have hz2 := updTo_get (f := addF ss[j].gain X qs[fN].1) (ls := X) (i := t) (j := t) (by omega) (Nat.le_refl _)
          have hB3 := hB.kept hM.kept
          have hMA := hM.arr
          have hYA := hF.ins fN hfi
          simp only [ssRows] at hYA
          have hk3 := hM.kept.1
          clear hB2 hEA hYA0 hTl hE hT
          repeat' (first | (simp (disch := first | omega | assumption | (simp only [List.length_set]; omega) | (simp [*] <;> fail) | assumption) [-Bool.decide_and, -Bool.decide_or, -Bool.not_and, -Bool.not_or, toNat_pred, toNat_succ, wrap64, wr_new, wr_new0, ok_if, ok_ifn, iadV_sl, makeV_int, decT, decF, over_at, *, hB3.len, hB3.at_, hB3.at_', hB3.rd, hB3.rdIn, hB3.rdIn0, hB3.rdA, hB3.rdInA, hB3.rdIn0A, Snd.cells, hMA.len, hMA.at_, hMA.at_', hMA.rd, hMA.rdIn, hMA.rdIn0, hMA.rdA, hMA.rdInA, hMA.rdIn0A, hMA.rd1, hYA.len, hYA.at_, hYA.at_', hYA.rd, hYA.rdIn, hYA.rdIn0, hYA.rdA, hYA.rdInA, hYA.rdIn0A, hYA.rd1, fl]) | (with_reducible refine Gd_split (fun hc => ?_) (fun hc => ?_) <;> (have hc2 := hc; try simp at hc2)) | (with_reducible refine Br_split (fun hc => ?_) (fun hc => ?_) <;> (have hc2 := hc; try simp at hc2)) | (with_reducible refine GdT_split (fun hc => ?_) (fun hc => ?_) <;> (have hc2 := hc; try simp at hc2)) | (with_reducible refine WT_alt ?_ ?_) | omega)
          refine oc_wr hM (by simp; omega) (by omega) fun g4 hM4 hB4 => ?_
          rw [fl_set, updTo_set (by simp [addF, htl, hXl, hxm, hYl])] at hM4
          have hF4 := hF.but hB4 hsg hf0 hf
          clear hB3 hMA hYA
          repeat' (first | (simp (disch := first | omega | assumption | (simp only [List.length_set]; omega) | (simp [*] <;> fail) | assumption) [-Bool.decide_and, -Bool.decide_or, -Bool.not_and, -Bool.not_or, toNat_pred, toNat_succ, wrap64, wr_new, wr_new0, ok_if, ok_ifn, iadV_sl, makeV_int, decT, decF, over_at, *]) | (with_reducible refine Gd_split (fun hc => ?_) (fun hc => ?_) <;> (have hc2 := hc; try simp at hc2)) | (with_reducible refine Br_split (fun hc => ?_) (fun hc => ?_) <;> (have hc2 := hc; try simp at hc2)) | (with_reducible refine GdT_split (fun hc => ?_) (fun hc => ?_) <;> (have hc2 := hc; try simp at hc2)) | (with_reducible refine WT_alt ?_ ?_) | omega)
        · have : t = m := by omega
          subst this
          rw [updTo_all (by omega)] at hM
          have e2 : addS ss[j].gain X qs[fN].1 = tabTo (addF ss[j].gain X qs[fN].1) t := by unfold addS; rw [hXl, hxm]
          rw [e2] at hss
          rw [← hss] at hM
          have hMl := hM.arr.len
          clear hss hE hT e2
          repeat' (first | (simp (disch := first | omega | assumption | (simp only [List.length_set]; omega) | (simp [*] <;> fail) | assumption) [-Bool.decide_and, -Bool.decide_or, -Bool.not_and, -Bool.not_or, toNat_pred, toNat_succ, wrap64, wr_new, wr_new0, ok_if, ok_ifn, iadV_sl, makeV_int, decT, decF, over_at, *]) | (with_reducible refine Gd_split (fun hc => ?_) (fun hc => ?_) <;> (have hc2 := hc; try simp at hc2)) | (with_reducible refine Br_split (fun hc => ?_) (fun hc => ?_) <;> (have hc2 := hc; try simp at hc2)) | (with_reducible refine GdT_split (fun hc => ?_) (fun hc => ?_) <;> (have hc2 := hc; try simp at hc2)) | (with_reducible refine WT_alt ?_ ?_) | omega)
      · unfold sigS at hss
        rw [if_neg hto] at hss
        rw [← hss] at hT
        clear hss hXl
        repeat' (first | (simp (disch := first | omega | assumption | (simp only [List.length_set]; omega) | (simp [*] <;> fail) | assumption) [-Bool.decide_and, -Bool.decide_or, -Bool.not_and, -Bool.not_or, toNat_pred, toNat_succ, wrap64, wr_new, wr_new0, ok_if, ok_ifn, iadV_sl, makeV_int, decT, decF, over_at, *, hB2.len, hB2.at_, hB2.at_', hB2.rd, hB2.rdIn, hB2.rdIn0, hB2.rdA, hB2.rdInA, hB2.rdIn0A, Snd.cells]) | (with_reducible refine Gd_split (fun hc => ?_) (fun hc => ?_) <;> (have hc2 := hc; try simp at hc2)) | (with_reducible refine Br_split (fun hc => ?_) (fun hc => ?_) <;> (have hc2 := hc; try simp at hc2)) | (with_reducible refine GdT_split (fun hc => ?_) (fun hc => ?_) <;> (have hc2 := hc; try simp at hc2)) | (with_reducible refine WT_alt ?_ ?_) | omega)
    · have : j = ss.length := by omega
      subst this
      repeat' (first | (simp (disch := first | omega | assumption | (simp only [List.length_set]; omega) | (simp [*] <;> fail) | assumption) [-Bool.decide_and, -Bool.decide_or, -Bool.not_and, -Bool.not_or, toNat_pred, toNat_succ, wrap64, wr_new, wr_new0, ok_if, ok_ifn, iadV_sl, makeV_int, decT, decF, over_at, *, leavesAll, fillL]) | (with_reducible refine Gd_split (fun hc => ?_) (fun hc => ?_) <;> (have hc2 := hc; try simp at hc2)) | (with_reducible refine Br_split (fun hc => ?_) (fun hc => ?_) <;> (have hc2 := hc; try simp at hc2)) | (with_reducible refine GdT_split (fun hc => ?_) (fun hc => ?_) <;> (have hc2 := hc; try simp at hc2)) | (with_reducible refine WT_alt ?_ ?_) | omega)
      refine oc_push (bytes := 24) (r := [sg]) hE.out ?_ ?_ ?_ (by decide) rfl (by decide)
      · exact hl
      · simp; omega
      intro o2 g5 hN5 hB5
      generalize hy : sigTo (qs.map (·.1)) i ps[i].1 ss ss.length = y at *
      have hP := hE.push (a := y) hT hf0 hf (Kept.refl _) hN5 hB5 rfl
      repeat' (first | (simp (disch := first | omega | assumption | (simp only [List.length_set]; omega) | (simp [*] <;> fail) | assumption) [-Bool.decide_and, -Bool.decide_or, -Bool.not_and, -Bool.not_or, toNat_pred, toNat_succ, wrap64, wr_new, wr_new0, ok_if, ok_ifn, iadV_sl, makeV_int, decT, decF, over_at, *]) | (with_reducible refine Gd_split (fun hc => ?_) (fun hc => ?_) <;> (have hc2 := hc; try simp at hc2)) | (with_reducible refine Br_split (fun hc => ?_) (fun hc => ?_) <;> (have hc2 := hc; try simp at hc2)) | (with_reducible refine GdT_split (fun hc => ?_) (fun hc => ?_) <;> (have hc2 := hc; try simp at hc2)) | (with_reducible refine WT_alt ?_ ?_) | omega)
      exact ⟨hlt, _, hP, by rw [show mixTo ss (ps.map (·.1)) (i + 1) = _ from hqH]; simp⟩
  · have : i = ps.length := by omega
    subst this
    repeat' (first | (simp (disch := first | omega | assumption | (simp only [List.length_set]; omega) | (simp [*] <;> fail) | assumption) [-Bool.decide_and, -Bool.decide_or, -Bool.not_and, -Bool.not_or, toNat_pred, toNat_succ, wrap64, wr_new, wr_new0, ok_if, ok_ifn, iadV_sl, makeV_int, decT, decF, over_at, *]) | (with_reducible refine Gd_split (fun hc => ?_) (fun hc => ?_) <;> (have hc2 := hc; try simp at hc2)) | (with_reducible refine Br_split (fun hc => ?_) (fun hc => ?_) <;> (have hc2 := hc; try simp at hc2)) | (with_reducible refine GdT_split (fun hc => ?_) (fun hc => ?_) <;> (have hc2 := hc; try simp at hc2)) | (with_reducible refine WT_alt ?_ ?_) | omega)
    exact hK _ _ _ hD (by rw [hq]; unfold mixL; simp)
set_option maxHeartbeats 2000000 in
theorem c_mixNodes (hA : Arr h l 1 (ps.map ssCells)) (hI : Sms h ssRows ps) (hB : Arr h l2 3 (ss.map Snd.cells)) (hs : areSends ps.length ss) (hm : ∀ x ∈ ps.map (·.1), x.length = m) (hm2 : m ≤ 256) (hl : lim ≤ h.length)
    (hK : ∀ o g qs, NewD h g o 27 1 ssCells ssRows 22 qs → qs.map (·.1) = mixL ss (ps.map (·.1)) → K (.lf o) g) : CallT S false 131 [.lf l, .lf l2] h lim K := by
  have hp8 : (ps.length : Int) ≤ 8 := hs.1.2
  have hs20 := hs.2.1
  have hsu := hs.2.2
  clear hs
  refine CallT_of_body (F := L131) (HasMx.f131) rfl ?_; unfold L131; dsimp only []
  repeat' (first | (simp (disch := first | omega | assumption | (simp only [List.length_set]; omega) | (simp [*] <;> fail) | assumption) [-Bool.decide_and, -Bool.decide_or, -Bool.not_and, -Bool.not_or, toNat_pred, toNat_succ, wrap64, wr_new, wr_new0, ok_if, ok_ifn, iadV_sl, makeV_int, decT, decF, over_at, *, hA.len, leavesAll, fillL]) | (with_reducible refine Gd_split (fun hc => ?_) (fun hc => ?_) <;> (have hc2 := hc; try simp at hc2)) | (with_reducible refine Br_split (fun hc => ?_) (fun hc => ?_) <;> (have hc2 := hc; try simp at hc2)) | (with_reducible refine GdT_split (fun hc => ?_) (fun hc => ?_) <;> (have hc2 := hc; try simp at hc2)) | (with_reducible refine WT_alt ?_ ?_) | omega)
  refine WL_forM 1152921504606834144 (by decide +kernel) (ps.length) (fun i b g => i ≤ ps.length ∧ b 14 = .lf (.int .i64 i) ∧ ∃ o qs, b 5 = .lf o ∧ NewD h g o 27 1 ssCells ssRows 22 qs ∧ qs.map (·.1) = mixTo ss (ps.map (·.1)) i) (fun _ _ _ hi => hi.1) ⟨by omega, by simp, .nils, [], by simp, NewD.start (Kept.refl _), by rw [mixTo_zero]; rfl⟩ ?_
  rintro i b g ⟨hi, e14, o, qs, e5, hD, hq⟩
  have hk := hD.kept
  have hk1 := hk.1
  have hA1 := hA.kept hk
  have hI1 := hI.kept hk
  by_cases hlt : i < ps.length
  · have hxm : ps[i].1.length = m := hm _ (List.mem_map.2 ⟨ps[i], List.getElem_mem hlt, rfl⟩)
    have hql : qs.length = i := by have := congrArg List.length hq; rw [mixTo_len (by simpa using hi)] at this; simpa using this
    have hqe := mixTo_each (ss := ss) hm (i := i) (by simpa using hi)
    have hqs := mixTo_succ (ss := ss) (xss := ps.map (·.1)) (i := i) (by simpa using hlt)
    rw [← hq] at hqe hqs
    rw [List.getElem_map] at hqs
    have hqH : Hid (mixTo ss (ps.map (·.1)) (i + 1) = qs.map (·.1) ++ [sigTo (qs.map (·.1)) i ps[i].1 ss ss.length]) := hqs
    clear hqs hq
    repeat' (first | (simp (disch := first | omega | assumption | (simp only [List.length_set]; omega) | (simp [*] <;> fail) | assumption) [-Bool.decide_and, -Bool.decide_or, -Bool.not_and, -Bool.not_or, toNat_pred, toNat_succ, wrap64, wr_new, wr_new0, ok_if, ok_ifn, iadV_sl, makeV_int, decT, decF, over_at, *, hA1.len, hA1.at_, hA1.at_', hA1.rd, hA1.rdIn, hA1.rdIn0, hA1.rdA, hA1.rdInA, hA1.rdIn0A, hA1.rd1, ssCells]) | (with_reducible refine Gd_split (fun hc => ?_) (fun hc => ?_) <;> (have hc2 := hc; try simp at hc2)) | (with_reducible refine Br_split (fun hc => ?_) (fun hc => ?_) <;> (have hc2 := hc; try simp at hc2)) | (with_reducible refine GdT_split (fun hc => ?_) (fun hc => ?_) <;> (have hc2 := hc; try simp at hc2)) | (with_reducible refine WT_alt ?_ ?_) | omega)
    refine c_copyNumbers (hI1 i hlt) (by simp only [ssRows]; omega) (by omega) fun sg g1 hS => ?_
    obtain ⟨hf0, hf⟩ := hD.fresh hS
    have k1 := hS.kept
    have hS1 := hS.base hk
    have hsg : sg ≠ .nils → h.length ≤ sg.id := fun q => (hS1.lt q).1
    replace hD := hD.later k1
    have hB1 := hB.kept hD.kept
    repeat' (first | (simp (disch := first | omega | assumption | (simp only [List.length_set]; omega) | (simp [*] <;> fail) | assumption) [-Bool.decide_and, -Bool.decide_or, -Bool.not_and, -Bool.not_or, toNat_pred, toNat_succ, wrap64, wr_new, wr_new0, ok_if, ok_ifn, iadV_sl, makeV_int, decT, decF, over_at, *, hB1.len]) | (with_reducible refine Gd_split (fun hc => ?_) (fun hc => ?_) <;> (have hc2 := hc; try simp at hc2)) | (with_reducible refine Br_split (fun hc => ?_) (fun hc => ?_) <;> (have hc2 := hc; try simp at hc2)) | (with_reducible refine GdT_split (fun hc => ?_) (fun hc => ?_) <;> (have hc2 := hc; try simp at hc2)) | (with_reducible refine WT_alt ?_ ?_) | omega)
    refine WL_forM 36028797010578432 (by decide +kernel) (ss.length) (fun j b g => j ≤ ss.length ∧ b 23 = .lf (.int .i64 j) ∧ New h g sg 22 1 ((sigTo (qs.map (·.1)) i ps[i].1 ss j).map fl) ∧ NewD h g o 27 1 ssCells ssRows 22 qs) (fun _ _ _ hi => hi.1) ⟨by omega, by simp, by rw [sigTo_zero]; exact hS1, hD⟩ ?_
    rintro j b2 g2 ⟨hj, e24, hT, hE⟩
    have hB2 := hB.kept hT.kept
    clear hS hS1 k1 hA1 hI1 hB1 hD hk hk1
    have hk1 := hT.kept.1
    by_cases hjlt : j < ss.length
    · have hso := hsu j hjlt hjlt
      have hss := sigTo_succ (out := qs.map (·.1)) (k := i) (x := ps[i].1) hjlt
      have hXl := sigTo_len (out := qs.map (·.1)) (k := i) (x := ps[i].1) hj
      by_cases hto : ss[j].to_ = i
      · have hfi : ss[j].frm.toNat < qs.length := by unfold sendOk at hso; omega
        have hfz : ss[j].frm = (ss[j].frm.toNat : Int) := by unfold sendOk at hso; omega
        unfold sigS at hss
        rw [if_pos hto] at hss
        generalize ss[j].frm.toNat = fN at *
        have hYl : qs[fN].1.length = m := hqe _ (List.mem_map.2 ⟨qs[fN], List.getElem_mem hfi, rfl⟩)
        have hYg : (qs.map (·.1)).getD fN [] = qs[fN].1 := by simp [hfi]
        rw [hYg] at hss
        have hYA0 := hE.ins fN hfi
        simp only [ssRows] at hYA0
        have hEA := hE.arr
        have hTl := hT.arr.len
        generalize sigTo (qs.map (·.1)) i ps[i].1 ss j = X at *
        rw [hXl, hxm] at hTl
        have hC0 : Cel (g2 ++ [⟨[.int .i64 fN, .int .i64 i, .flt .f32 ss[j].gain], .own 165 1⟩]) g2.length 165 [.int .i64 fN, .int .i64 i, .flt .f32 ss[j].gain] := Cel.new
        have hns : sg ≠ .nils → g2.length ≠ sg.id := fun q => by have := (hT.lt q).2; omega
        have hT1 := hT.later (Kept.app g2 [⟨[.int .i64 fN, .int .i64 i, .flt .f32 ss[j].gain], .own 165 1⟩])
        have hE1 := hE.later (Kept.app g2 [⟨[.int .i64 fN, .int .i64 i, .flt .f32 ss[j].gain], .own 165 1⟩])
        repeat' (first | (simp (disch := first | omega | assumption | (simp only [List.length_set]; omega) | (simp [*] <;> fail) | assumption) [-Bool.decide_and, -Bool.decide_or, -Bool.not_and, -Bool.not_or, toNat_pred, toNat_succ, wrap64, wr_new, wr_new0, ok_if, ok_ifn, iadV_sl, makeV_int, decT, decF, over_at, *, hB2.len, hB2.at_, hB2.at_', hB2.rd, hB2.rdIn, hB2.rdIn0, hB2.rdA, hB2.rdInA, hB2.rdIn0A, Snd.cells]) | (with_reducible refine Gd_split (fun hc => ?_) (fun hc => ?_) <;> (have hc2 := hc; try simp at hc2)) | (with_reducible refine Br_split (fun hc => ?_) (fun hc => ?_) <;> (have hc2 := hc; try simp at hc2)) | (with_reducible refine GdT_split (fun hc => ?_) (fun hc => ?_) <;> (have hc2 := hc; try simp at hc2)) | (with_reducible refine WT_alt ?_ ?_) | omega)
        refine WL_forM 18014389919549440 (by decide +kernel) (m) (fun t b g => t ≤ m ∧ b 33 = .lf (.int .i64 t) ∧ New h g sg 22 1 ((updTo (addF ss[j].gain X qs[fN].1) X t).map fl) ∧ NewD h g o 27 1 ssCells ssRows 22 qs ∧ Cel g g2.length 165 [.int .i64 fN, .int .i64 i, .flt .f32 ss[j].gain]) (fun _ _ _ hi => hi.1) ⟨by omega, by simp, by rw [updTo_zero]; exact hT1, hE1, hC0⟩ ?_
        rintro t b3 g3 ⟨ht, e44, hM, hF, hC⟩
        by_cases htl : t < m
        · have hz2 := updTo_get (f := addF ss[j].gain X qs[fN].1) (ls := X) (i := t) (j := t) (by omega) (Nat.le_refl _)
          have hB3 := hB.kept hM.kept
          have hMA := hM.arr
          have hYA := hF.ins fN hfi
          simp only [ssRows] at hYA
          have hk3 := hM.kept.1
          have hFA := hF.arr
          have c0 : rdCells g3 g2.length 0 1 = some [.int .i64 fN] := by have := hC.rd (off := 0) (n := 1) (by simp); simpa using this
          have c2 : rdCells g3 g2.length 2 1 = some [.flt .f32 ss[j].gain] := by have := hC.rd (off := 2) (n := 1) (by simp); simpa using this
          clear hB2 hEA hYA0 hTl hE hT hC0 hE1 hT1
          repeat' (first | (simp (disch := first | omega | assumption | (simp only [List.length_set]; omega) | (simp [*] <;> fail) | assumption) [-Bool.decide_and, -Bool.decide_or, -Bool.not_and, -Bool.not_or, toNat_pred, toNat_succ, wrap64, wr_new, wr_new0, ok_if, ok_ifn, iadV_sl, makeV_int, decT, decF, over_at, *, hFA.len, hFA.at_, hFA.at_', hFA.rd, hFA.rdIn, hFA.rdIn0, hFA.rdA, hFA.rdInA, hFA.rdIn0A, hFA.rd1, ssCells, hMA.len, hMA.at_, hMA.at_', hMA.rd, hMA.rdIn, hMA.rdIn0, hMA.rdA, hMA.rdInA, hMA.rdIn0A, hMA.rd1, hYA.len, hYA.at_, hYA.at_', hYA.rd, hYA.rdIn, hYA.rdIn0, hYA.rdA, hYA.rdInA, hYA.rdIn0A, hYA.rd1, fl]) | (with_reducible refine Gd_split (fun hc => ?_) (fun hc => ?_) <;> (have hc2 := hc; try simp at hc2)) | (with_reducible refine Br_split (fun hc => ?_) (fun hc => ?_) <;> (have hc2 := hc; try simp at hc2)) | (with_reducible refine GdT_split (fun hc => ?_) (fun hc => ?_) <;> (have hc2 := hc; try simp at hc2)) | (with_reducible refine WT_alt ?_ ?_) | omega)
          refine oc_wr hM (by simp; omega) (by omega) fun g4 hM4 hB4 => ?_
          rw [fl_set, updTo_set (by simp [addF, htl, hXl, hxm, hYl])] at hM4
          have hF4 := hF.but hB4 hsg hf0 hf
          have hC4 := hC.but hB4 hns
          clear hB3 hMA hYA hFA c0 c2
          repeat' (first | (simp (disch := first | omega | assumption | (simp only [List.length_set]; omega) | (simp [*] <;> fail) | assumption) [-Bool.decide_and, -Bool.decide_or, -Bool.not_and, -Bool.not_or, toNat_pred, toNat_succ, wrap64, wr_new, wr_new0, ok_if, ok_ifn, iadV_sl, makeV_int, decT, decF, over_at, *]) | (with_reducible refine Gd_split (fun hc => ?_) (fun hc => ?_) <;> (have hc2 := hc; try simp at hc2)) | (with_reducible refine Br_split (fun hc => ?_) (fun hc => ?_) <;> (have hc2 := hc; try simp at hc2)) | (with_reducible refine GdT_split (fun hc => ?_) (fun hc => ?_) <;> (have hc2 := hc; try simp at hc2)) | (with_reducible refine WT_alt ?_ ?_) | omega)
        · have : t = m := by omega
          subst this
          rw [updTo_all (by omega)] at hM
          have e2 : addS ss[j].gain X qs[fN].1 = tabTo (addF ss[j].gain X qs[fN].1) t := by unfold addS; rw [hXl, hxm]
          rw [e2] at hss
          rw [← hss] at hM
          have hMl := hM.arr.len
          clear hss hE hT e2 hC0 hE1 hT1
          repeat' (first | (simp (disch := first | omega | assumption | (simp only [List.length_set]; omega) | (simp [*] <;> fail) | assumption) [-Bool.decide_and, -Bool.decide_or, -Bool.not_and, -Bool.not_or, toNat_pred, toNat_succ, wrap64, wr_new, wr_new0, ok_if, ok_ifn, iadV_sl, makeV_int, decT, decF, over_at, *]) | (with_reducible refine Gd_split (fun hc => ?_) (fun hc => ?_) <;> (have hc2 := hc; try simp at hc2)) | (with_reducible refine Br_split (fun hc => ?_) (fun hc => ?_) <;> (have hc2 := hc; try simp at hc2)) | (with_reducible refine GdT_split (fun hc => ?_) (fun hc => ?_) <;> (have hc2 := hc; try simp at hc2)) | (with_reducible refine WT_alt ?_ ?_) | omega)
      · unfold sigS at hss
        rw [if_neg hto] at hss
        rw [← hss] at hT
        clear hss hXl
        have hT1 := hT.later (Kept.app g2 [⟨[.int .i64 ss[j].frm, .int .i64 ss[j].to_, .flt .f32 ss[j].gain], .own 165 1⟩])
        have hE1 := hE.later (Kept.app g2 [⟨[.int .i64 ss[j].frm, .int .i64 ss[j].to_, .flt .f32 ss[j].gain], .own 165 1⟩])
        repeat' (first | (simp (disch := first | omega | assumption | (simp only [List.length_set]; omega) | (simp [*] <;> fail) | assumption) [-Bool.decide_and, -Bool.decide_or, -Bool.not_and, -Bool.not_or, toNat_pred, toNat_succ, wrap64, wr_new, wr_new0, ok_if, ok_ifn, iadV_sl, makeV_int, decT, decF, over_at, *, hB2.len, hB2.at_, hB2.at_', hB2.rd, hB2.rdIn, hB2.rdIn0, hB2.rdA, hB2.rdInA, hB2.rdIn0A, Snd.cells]) | (with_reducible refine Gd_split (fun hc => ?_) (fun hc => ?_) <;> (have hc2 := hc; try simp at hc2)) | (with_reducible refine Br_split (fun hc => ?_) (fun hc => ?_) <;> (have hc2 := hc; try simp at hc2)) | (with_reducible refine GdT_split (fun hc => ?_) (fun hc => ?_) <;> (have hc2 := hc; try simp at hc2)) | (with_reducible refine WT_alt ?_ ?_) | omega)
    · have : j = ss.length := by omega
      subst this
      repeat' (first | (simp (disch := first | omega | assumption | (simp only [List.length_set]; omega) | (simp [*] <;> fail) | assumption) [-Bool.decide_and, -Bool.decide_or, -Bool.not_and, -Bool.not_or, toNat_pred, toNat_succ, wrap64, wr_new, wr_new0, ok_if, ok_ifn, iadV_sl, makeV_int, decT, decF, over_at, *, leavesAll, fillL]) | (with_reducible refine Gd_split (fun hc => ?_) (fun hc => ?_) <;> (have hc2 := hc; try simp at hc2)) | (with_reducible refine Br_split (fun hc => ?_) (fun hc => ?_) <;> (have hc2 := hc; try simp at hc2)) | (with_reducible refine GdT_split (fun hc => ?_) (fun hc => ?_) <;> (have hc2 := hc; try simp at hc2)) | (with_reducible refine WT_alt ?_ ?_) | omega)
      refine oc_push (bytes := 24) (r := [sg]) hE.out ?_ ?_ ?_ (by decide) rfl (by decide)
      · exact hl
      · simp; omega
      intro o2 g5 hN5 hB5
      generalize hy : sigTo (qs.map (·.1)) i ps[i].1 ss ss.length = y at *
      have hP := hE.push (a := y) hT hf0 hf (Kept.refl _) hN5 hB5 rfl
      repeat' (first | (simp (disch := first | omega | assumption | (simp only [List.length_set]; omega) | (simp [*] <;> fail) | assumption) [-Bool.decide_and, -Bool.decide_or, -Bool.not_and, -Bool.not_or, toNat_pred, toNat_succ, wrap64, wr_new, wr_new0, ok_if, ok_ifn, iadV_sl, makeV_int, decT, decF, over_at, *]) | (with_reducible refine Gd_split (fun hc => ?_) (fun hc => ?_) <;> (have hc2 := hc; try simp at hc2)) | (with_reducible refine Br_split (fun hc => ?_) (fun hc => ?_) <;> (have hc2 := hc; try simp at hc2)) | (with_reducible refine GdT_split (fun hc => ?_) (fun hc => ?_) <;> (have hc2 := hc; try simp at hc2)) | (with_reducible refine WT_alt ?_ ?_) | omega)
      exact ⟨hlt, _, hP, by rw [show mixTo ss (ps.map (·.1)) (i + 1) = _ from hqH]; simp⟩
  · have : i = ps.length := by omega
    subst this
    repeat' (first | (simp (disch := first | omega | assumption | (simp only [List.length_set]; omega) | (simp [*] <;> fail) | assumption) [-Bool.decide_and, -Bool.decide_or, -Bool.not_and, -Bool.not_or, toNat_pred, toNat_succ, wrap64, wr_new, wr_new0, ok_if, ok_ifn, iadV_sl, makeV_int, decT, decF, over_at, *]) | (with_reducible refine Gd_split (fun hc => ?_) (fun hc => ?_) <;> (have hc2 := hc; try simp at hc2)) | (with_reducible refine Br_split (fun hc => ?_) (fun hc => ?_) <;> (have hc2 := hc; try simp at hc2)) | (with_reducible refine GdT_split (fun hc => ?_) (fun hc => ?_) <;> (have hc2 := hc; try simp at hc2)) | (with_reducible refine WT_alt ?_ ?_) | omega)
    exact hK _ _ _ hD (by rw [hq]; unfold mixL; simp)
end
end Go.E
