/- Chains of one's own, and chains joined, both sides. -/
import Derived.Test.YtjpaopcagomoiaaMCh
import Derived.Test.YtjpaopcagomoiaaMSm
import Derived.Test.YtjpaopcagomoiaaMSs
import Derived.Test.YtjpaopcagomoiaaMDm
set_option linter.unusedVariables false
set_option linter.unusedSimpArgs false
namespace Go.E
open Go
def L20 : LFn := ⟨1, (.seq (.reg [⟨(.some 2), (.mv (.c (.lf .nils))), none⟩])
 (.seq (.reg [⟨(.some 5), (.lit 43 3 0 [] []), none⟩, ⟨(.some 3), (.mv (.t 5)), none⟩])
 (.seq (.seq (.reg [⟨(.some 4), (.mv (.c (.lf (.int .i64 0)))), none⟩])
 (.block 0 (.loop (.seq (.seq (.reg [⟨(.some 6), (.mv (.t 4)), none⟩, ⟨(.some 7), (.mv (.t 0)), none⟩, ⟨(.some 8), (.len (.t 7)), none⟩, ⟨(.some 9), (.bin .lss (.t 6) (.t 8)), none⟩])
 (.cond (.t 9) .skip (.exit 0)))
 (.seq (.block 1 (.any (.op ⟨(.some 12), (.mv (.t 3)), none⟩ (.op ⟨(.some 13), (.mv (.t 0)), none⟩ (.op ⟨(.some 14), (.mv (.t 4)), none⟩ (.op ⟨(.some 15), (.iaddr 3 (.t 13) (.t 14)), none⟩ (.op ⟨(.some 16), (.faddr 0 (.t 15)), none⟩ (.op ⟨(.some 18), (.mv (.t 0)), none⟩ (.op ⟨(.some 19), (.mv (.t 4)), none⟩ (.op ⟨(.some 20), (.iaddr 3 (.t 18) (.t 19)), none⟩ (.op ⟨(.some 21), (.faddr 1 (.t 20)), none⟩ (.op ⟨(.some 24), (.mv (.t 0)), none⟩ (.op ⟨(.some 25), (.mv (.t 4)), none⟩ (.op ⟨(.some 26), (.iaddr 3 (.t 24) (.t 25)), none⟩ (.op ⟨(.some 27), (.faddr 2 (.t 26)), none⟩ (.op ⟨(.some 28), (.load false 1 (.t 27)), none⟩ (.alt (.op ⟨(.some 17), (.load false 1 (.t 16)), none⟩ (.alt (.op ⟨(.some 22), (.load false 1 (.t 21)), none⟩ (.op ⟨(.some 23), (.lit 53 1 0 [] []), none⟩ (.op ⟨(.some 29), (.app 53 1 4 (.t 23) (.t 28)), none⟩ (.op ⟨(.some 30), (.build [(.int .i64 0), (.int .i64 0), .nils] [(0, (1, (.t 17))), (1, (1, (.t 22))), (2, (1, (.t 29)))]), none⟩ (.op ⟨(.some 31), (.lit 43 3 1 [(.int .i64 0), (.int .i64 0), .nils] [(0, (3, (.t 30)))]), none⟩ (.op ⟨(.some 32), (.app 43 3 40 (.t 12) (.t 31)), none⟩ (.op ⟨(.some 3), (.mv (.t 32)), none⟩ .nil))))))) (.op ⟨(.some 23), (.lit 53 1 0 [] []), none⟩ (.alt (.op ⟨(.some 22), (.load false 1 (.t 21)), none⟩ (.op ⟨(.some 29), (.app 53 1 4 (.t 23) (.t 28)), none⟩ (.op ⟨(.some 30), (.build [(.int .i64 0), (.int .i64 0), .nils] [(0, (1, (.t 17))), (1, (1, (.t 22))), (2, (1, (.t 29)))]), none⟩ (.op ⟨(.some 31), (.lit 43 3 1 [(.int .i64 0), (.int .i64 0), .nils] [(0, (3, (.t 30)))]), none⟩ (.op ⟨(.some 32), (.app 43 3 40 (.t 12) (.t 31)), none⟩ (.op ⟨(.some 3), (.mv (.t 32)), none⟩ .nil)))))) (.op ⟨(.some 29), (.app 53 1 4 (.t 23) (.t 28)), none⟩ (.op ⟨(.some 22), (.load false 1 (.t 21)), none⟩ (.op ⟨(.some 30), (.build [(.int .i64 0), (.int .i64 0), .nils] [(0, (1, (.t 17))), (1, (1, (.t 22))), (2, (1, (.t 29)))]), none⟩ (.op ⟨(.some 31), (.lit 43 3 1 [(.int .i64 0), (.int .i64 0), .nils] [(0, (3, (.t 30)))]), none⟩ (.op ⟨(.some 32), (.app 43 3 40 (.t 12) (.t 31)), none⟩ (.op ⟨(.some 3), (.mv (.t 32)), none⟩ .nil)))))))))) (.alt (.op ⟨(.some 22), (.load false 1 (.t 21)), none⟩ (.alt (.op ⟨(.some 17), (.load false 1 (.t 16)), none⟩ (.op ⟨(.some 23), (.lit 53 1 0 [] []), none⟩ (.op ⟨(.some 29), (.app 53 1 4 (.t 23) (.t 28)), none⟩ (.op ⟨(.some 30), (.build [(.int .i64 0), (.int .i64 0), .nils] [(0, (1, (.t 17))), (1, (1, (.t 22))), (2, (1, (.t 29)))]), none⟩ (.op ⟨(.some 31), (.lit 43 3 1 [(.int .i64 0), (.int .i64 0), .nils] [(0, (3, (.t 30)))]), none⟩ (.op ⟨(.some 32), (.app 43 3 40 (.t 12) (.t 31)), none⟩ (.op ⟨(.some 3), (.mv (.t 32)), none⟩ .nil))))))) (.op ⟨(.some 23), (.lit 53 1 0 [] []), none⟩ (.alt (.op ⟨(.some 17), (.load false 1 (.t 16)), none⟩ (.op ⟨(.some 29), (.app 53 1 4 (.t 23) (.t 28)), none⟩ (.op ⟨(.some 30), (.build [(.int .i64 0), (.int .i64 0), .nils] [(0, (1, (.t 17))), (1, (1, (.t 22))), (2, (1, (.t 29)))]), none⟩ (.op ⟨(.some 31), (.lit 43 3 1 [(.int .i64 0), (.int .i64 0), .nils] [(0, (3, (.t 30)))]), none⟩ (.op ⟨(.some 32), (.app 43 3 40 (.t 12) (.t 31)), none⟩ (.op ⟨(.some 3), (.mv (.t 32)), none⟩ .nil)))))) (.op ⟨(.some 29), (.app 53 1 4 (.t 23) (.t 28)), none⟩ (.op ⟨(.some 17), (.load false 1 (.t 16)), none⟩ (.op ⟨(.some 30), (.build [(.int .i64 0), (.int .i64 0), .nils] [(0, (1, (.t 17))), (1, (1, (.t 22))), (2, (1, (.t 29)))]), none⟩ (.op ⟨(.some 31), (.lit 43 3 1 [(.int .i64 0), (.int .i64 0), .nils] [(0, (3, (.t 30)))]), none⟩ (.op ⟨(.some 32), (.app 43 3 40 (.t 12) (.t 31)), none⟩ (.op ⟨(.some 3), (.mv (.t 32)), none⟩ .nil)))))))))) (.op ⟨(.some 23), (.lit 53 1 0 [] []), none⟩ (.alt (.op ⟨(.some 17), (.load false 1 (.t 16)), none⟩ (.alt (.op ⟨(.some 22), (.load false 1 (.t 21)), none⟩ (.op ⟨(.some 29), (.app 53 1 4 (.t 23) (.t 28)), none⟩ (.op ⟨(.some 30), (.build [(.int .i64 0), (.int .i64 0), .nils] [(0, (1, (.t 17))), (1, (1, (.t 22))), (2, (1, (.t 29)))]), none⟩ (.op ⟨(.some 31), (.lit 43 3 1 [(.int .i64 0), (.int .i64 0), .nils] [(0, (3, (.t 30)))]), none⟩ (.op ⟨(.some 32), (.app 43 3 40 (.t 12) (.t 31)), none⟩ (.op ⟨(.some 3), (.mv (.t 32)), none⟩ .nil)))))) (.op ⟨(.some 29), (.app 53 1 4 (.t 23) (.t 28)), none⟩ (.op ⟨(.some 22), (.load false 1 (.t 21)), none⟩ (.op ⟨(.some 30), (.build [(.int .i64 0), (.int .i64 0), .nils] [(0, (1, (.t 17))), (1, (1, (.t 22))), (2, (1, (.t 29)))]), none⟩ (.op ⟨(.some 31), (.lit 43 3 1 [(.int .i64 0), (.int .i64 0), .nils] [(0, (3, (.t 30)))]), none⟩ (.op ⟨(.some 32), (.app 43 3 40 (.t 12) (.t 31)), none⟩ (.op ⟨(.some 3), (.mv (.t 32)), none⟩ .nil)))))))) (.alt (.op ⟨(.some 22), (.load false 1 (.t 21)), none⟩ (.alt (.op ⟨(.some 17), (.load false 1 (.t 16)), none⟩ (.op ⟨(.some 29), (.app 53 1 4 (.t 23) (.t 28)), none⟩ (.op ⟨(.some 30), (.build [(.int .i64 0), (.int .i64 0), .nils] [(0, (1, (.t 17))), (1, (1, (.t 22))), (2, (1, (.t 29)))]), none⟩ (.op ⟨(.some 31), (.lit 43 3 1 [(.int .i64 0), (.int .i64 0), .nils] [(0, (3, (.t 30)))]), none⟩ (.op ⟨(.some 32), (.app 43 3 40 (.t 12) (.t 31)), none⟩ (.op ⟨(.some 3), (.mv (.t 32)), none⟩ .nil)))))) (.op ⟨(.some 29), (.app 53 1 4 (.t 23) (.t 28)), none⟩ (.op ⟨(.some 17), (.load false 1 (.t 16)), none⟩ (.op ⟨(.some 30), (.build [(.int .i64 0), (.int .i64 0), .nils] [(0, (1, (.t 17))), (1, (1, (.t 22))), (2, (1, (.t 29)))]), none⟩ (.op ⟨(.some 31), (.lit 43 3 1 [(.int .i64 0), (.int .i64 0), .nils] [(0, (3, (.t 30)))]), none⟩ (.op ⟨(.some 32), (.app 43 3 40 (.t 12) (.t 31)), none⟩ (.op ⟨(.some 3), (.mv (.t 32)), none⟩ .nil)))))))) (.op ⟨(.some 29), (.app 53 1 4 (.t 23) (.t 28)), none⟩ (.op ⟨(.some 17), (.load false 1 (.t 16)), none⟩ (.op ⟨(.some 22), (.load false 1 (.t 21)), none⟩ (.op ⟨(.some 30), (.build [(.int .i64 0), (.int .i64 0), .nils] [(0, (1, (.t 17))), (1, (1, (.t 22))), (2, (1, (.t 29)))]), none⟩ (.op ⟨(.some 31), (.lit 43 3 1 [(.int .i64 0), (.int .i64 0), .nils] [(0, (3, (.t 30)))]), none⟩ (.op ⟨(.some 32), (.app 43 3 40 (.t 12) (.t 31)), none⟩ (.op ⟨(.some 3), (.mv (.t 32)), none⟩ .nil))))))))))))))))))))))))))))
 (.reg [⟨(.some 10), (.mv (.t 4)), none⟩, ⟨(.some 11), (.bin .add (.t 10) (.c (.lf (.int .i64 1)))), none⟩, ⟨(.some 4), (.mv (.t 11)), none⟩]))))))
 (.seq (.reg [⟨(.some 33), (.mv (.t 3)), none⟩, ⟨(.some 2), (.mv (.t 33)), none⟩])
 .ret)))), [(.tmp 2)]⟩
def L27 : LFn := ⟨1, (.seq (.reg [⟨(.some 2), (.mv (.c (.lf .nils))), none⟩])
 (.seq (.reg [⟨(.some 3), (.mv (.c (.lf .nils))), none⟩])
 (.seq (.seq (.reg [⟨(.some 6), (.mv (.t 0)), none⟩, ⟨(.some 7), (.len (.t 6)), none⟩, ⟨(.some 8), (.mv (.c (.lf (.int .i64 0)))), none⟩])
 (.block 0 (.loop (.seq (.reg [⟨(.some 9), (.bin .lss (.t 8) (.t 7)), none⟩])
 (.seq (.cond (.t 9) .skip (.exit 0))
 (.seq (.block 1 (.seq (.reg [⟨(.some 10), (.iaddr 3 (.t 6) (.t 8)), none⟩, ⟨(.some 11), (.load true 3 (.t 10)), none⟩, ⟨(.some 5), (.alloc 43 [(.int .i64 0), (.int .i64 0), .nils]), none⟩, ⟨none, (.store 3 (.t 5) (.t 11)), none⟩])
 (.seq (.reg [⟨(.some 12), (.faddr 2 (.t 5)), none⟩, ⟨(.some 13), (.load false 1 (.t 12)), none⟩, ⟨(.some 14), (.call false 25 [(.t 13)]), none⟩, ⟨(.some 15), (.faddr 2 (.t 5)), none⟩, ⟨none, (.store 1 (.t 15) (.t 14)), none⟩])
 (.reg [⟨(.some 16), (.mv (.t 3)), none⟩, ⟨(.some 17), (.load true 3 (.t 5)), none⟩, ⟨(.some 18), (.lit 43 3 1 [(.int .i64 0), (.int .i64 0), .nils] [(0, (3, (.t 17)))]), none⟩, ⟨(.some 19), (.app 43 3 40 (.t 16) (.t 18)), none⟩, ⟨(.some 3), (.mv (.t 19)), none⟩]))))
 (.reg [⟨(.some 20), (.bin .add (.t 8) (.c (.lf (.int .i64 1)))), none⟩, ⟨(.some 8), (.mv (.t 20)), none⟩])))))))
 (.seq (.reg [⟨(.some 21), (.mv (.t 3)), none⟩, ⟨(.some 2), (.mv (.t 21)), none⟩])
 .ret)))), [(.tmp 2)]⟩
class HasOc (S : Sys) : Prop extends HasEf S, HasCn S where
  f20 : S.fs 20 = some L20
  f27 : S.fs 27 = some L27

class HasJc (S : Sys) : Prop extends HasOc S where

def okJc (a b : List Eff) : Prop := isCh a ∧ isCh b ∧ a.length + b.length ≤ 8
noncomputable instance (a b : List Eff) : Decidable (okJc a b) := Classical.propDecidable _
noncomputable def jcR (a b : List Eff) : List Eff := if okJc a b then a ++ b else []
theorem effOk.few {e : Eff} (he : effOk e) : e.nums.length ≤ 5 := by
  have h := he.2.1
  have h2 : cntE e.kind ≤ 5 := by unfold cntE; repeat' split; all_goals omega
  omega
theorem jcR_small {a b : List Eff} : (jcR a b).length ≤ 8 ∧ ∀ e ∈ jcR a b, e.nums.length ≤ 5 := by
  unfold jcR
  split
  · rename_i hok
    refine ⟨by rw [List.length_append]; exact hok.2.2, fun e he => ?_⟩
    rcases List.mem_append.1 he with he | he
    · exact (hok.1.2 e he).few
    · exact (hok.2.1.2 e he).few
  · simp
section
variable {α : Type} {ro : α → List Nat} {ce : α × Lf → List Lf} {ps qs : List (α × Lf)} {h g g' : Hp} {l l2 o' : Lf} {ty sz fty : Nat}
theorem NewD.join (hD : NewD h g l ty sz ce ro fty ps) (hE : NewD h g l2 ty sz ce ro fty qs) (hf : ∀ s ∈ lvs l ps, ∀ t ∈ lvs l2 qs, Far s t) (hN : New h g' o' ty sz (ps.map ce ++ qs.map ce)) (hB : But g g' l o') : NewD h g' o' ty sz ce ro fty (ps ++ qs) := by
  have hkeep : ∀ {q : Lf} {rows : List (List Lf)}, New h g q fty 1 rows → Far l q → New h g' q fty 1 rows ∧ Far o' q := fun hq hfq => by
    refine ⟨hB.new hq (fun q1 => (hD.out.lt q1).1) (fun q1 q2 => (hfq q1 q2).symm), fun q1 q2 => ?_⟩
    rcases hB.far with e | e
    · subst e; exact hfq q1 q2
    · have := (hq.lt q2).2
      omega
  have hq2 : ∀ q ∈ qs, Far l q.2 := fun q hq => hf l lvs_head q.2 (by unfold lvs; exact List.mem_cons_of_mem _ (List.mem_map.2 ⟨q, hq, rfl⟩))
  refine ⟨by rw [List.map_append]; exact hN, fun p hp => ?_, ?_, fun p hp => ?_⟩
  · rcases List.mem_append.1 hp with hp | hp
    · exact (hkeep (hD.inn p hp) (hD.faro p hp)).1
    · exact (hkeep (hE.inn p hp) (hq2 p hp)).1
  · rw [List.pairwise_append]
    exact ⟨hD.far, hE.far, fun p hp q hq => hf p.2 (by unfold lvs; exact List.mem_cons_of_mem _ (List.mem_map.2 ⟨p, hp, rfl⟩)) q.2 (by unfold lvs; exact List.mem_cons_of_mem _ (List.mem_map.2 ⟨q, hq, rfl⟩))⟩
  · rcases List.mem_append.1 hp with hp | hp
    · exact (hkeep (hD.inn p hp) (hD.faro p hp)).2
    · exact (hkeep (hE.inn p hp) (hq2 p hp)).2
end
theorem New.swap1 {h : Hp} {l : Lf} {ty sz : Nat} {rows : List (List Lf)} {a a' : Ob} {t : Hp} (hN : New (h ++ [a]) (h ++ a :: t) l ty sz rows) : New h (h ++ a' :: t) l ty sz rows :=
  New.swap (bs := [a]) (bs' := [a']) hN rfl
section
variable {S : Sys} {lim : Nat} {h : Hp} {K : CV → Hp → Prop} {l l2 : Lf} {ps qs : List (Eff × Lf)}
section
variable [HasOc S]
set_option maxHeartbeats 4000000 in
theorem c_l08Own (hA : Arr h l 3 (ps.map Eff.cells)) (hI : Sms h Eff.nums ps) (hn : ps.length ≤ 100) (hn2 : szD Eff.nums ps ≤ 100000) (hl : lim ≤ h.length) (hK : ∀ o g qs, NewD h g o 43 3 Eff.cells Eff.nums 53 qs → qs.map (·.1) = ps.map (·.1) → K (.lf o) g) : CallT S false 20 [.lf l] h lim K := by
  refine CallT_of_body (F := L20) (HasOc.f20) rfl ?_; unfold L20; dsimp only []
  repeat' (first | (simp (disch := first | omega | assumption | (simp only [List.length_set]; omega) | (simp [*] <;> fail) | assumption) [-Bool.decide_and, -Bool.decide_or, -Bool.not_and, -Bool.not_or, toNat_pred, toNat_succ, wrap64, wr_new, wr_new0, ok_if, ok_ifn, iadV_sl, makeV_int, decT, decF, over_at, *, leavesAll, fillL]) | (with_reducible refine Gd_split (fun hc => ?_) (fun hc => ?_) <;> (have hc2 := hc; try simp at hc2)) | (with_reducible refine Br_split (fun hc => ?_) (fun hc => ?_) <;> (have hc2 := hc; try simp at hc2)) | (with_reducible refine GdT_split (fun hc => ?_) (fun hc => ?_) <;> (have hc2 := hc; try simp at hc2)) | (with_reducible refine WT_alt ?_ ?_) | omega)
  refine WL_forM 8589934552 (by decide +kernel) (ps.length) (fun i b g => i ≤ ps.length ∧ b 4 = .lf (.int .i64 i) ∧ ∃ o qs, b 3 = .lf o ∧ NewD h g o 43 3 Eff.cells Eff.nums 53 qs ∧ qs.map (·.1) = (ps.map (·.1)).take i) (fun _ _ _ hi => hi.1) ⟨by omega, by simp, _, [], by simp, NewD.lit (Kept.refl _), by simp⟩ ?_
  rintro i b g ⟨hi, e4, o, qs, e3, hD, hq⟩
  have hk := hD.kept
  have hk1 := hk.1
  have hA1 := hA.kept hk
  have hI1 := hI.kept hk
  have hql : qs.length = i := by have := congrArg List.length hq; rw [List.length_map, List.length_take, List.length_map, Nat.min_eq_left hi] at this; exact this
  by_cases hlt : i < ps.length
  · have hqH := fun l => map_take hq hlt (l := l)
    have hle := szD_get (ro := Eff.nums) hlt
    obtain ⟨c, g1, h1, h2, h3⟩ := (New.litN (ty := 53) (sz := 1) (Kept.refl g)).joined (ys := []) (lim := lim) ((hI1 i hlt).kept (Kept.app g _)) (by omega) (by simp; omega)
    rw [List.nil_append] at h2
    have hg1 := h2.kept
    have hA2 := hA1.kept hg1
    have hg1l := hg1.1
    have hD1 := hD.later hg1
    obtain ⟨hf0, hf1⟩ := hD.fresh h2
    have h4 := h2.base hk
    have hqH2 : Hid (∀ l : Lf, (qs ++ [(ps[i].1, l)]).map (·.1) = (ps.map (·.1)).take (i + 1)) := hqH
    clear hqH hq hK h3
    repeat' (first | (simp (disch := first | omega | assumption | (simp only [List.length_set]; omega) | (simp [*] <;> fail) | assumption) [-Bool.decide_and, -Bool.decide_or, -Bool.not_and, -Bool.not_or, toNat_pred, toNat_succ, wrap64, wr_new, wr_new0, ok_if, ok_ifn, iadV_sl, makeV_int, decT, decF, over_at, *, hA1.len, hA1.at_, hA1.at_', hA1.rd, hA1.rdIn, hA1.rdIn0, hA1.rdA, hA1.rdInA, hA1.rdIn0A, Eff.cells, -W_any]) | (with_reducible refine Gd_split (fun hc => ?_) (fun hc => ?_) <;> (have hc2 := hc; try simp at hc2)) | (with_reducible refine Br_split (fun hc => ?_) (fun hc => ?_) <;> (have hc2 := hc; try simp at hc2)) | (with_reducible refine GdT_split (fun hc => ?_) (fun hc => ?_) <;> (have hc2 := hc; try simp at hc2)) | (with_reducible refine WT_alt ?_ ?_) | omega)
    rw [W_any]
    refine WT_cutM 8589930504 (by decide +kernel) (fun b' g' => ∃ o' qs', b' 3 = .lf o' ∧ NewD h g' o' 43 3 Eff.cells Eff.nums 53 qs' ∧ Hid (qs'.map (·.1) = (ps.map (·.1)).take (i + 1))) ?_ ?_
    · repeat' (first | (simp (disch := first | omega | assumption | (simp only [List.length_set]; omega) | (simp [*] <;> fail) | assumption) [-Bool.decide_and, -Bool.decide_or, -Bool.not_and, -Bool.not_or, toNat_pred, toNat_succ, wrap64, wr_new, wr_new0, ok_if, ok_ifn, iadV_sl, makeV_int, decT, decF, over_at, *, hA1.len, hA1.at_, hA1.at_', hA1.rd, hA1.rdIn, hA1.rdIn0, hA1.rdA, hA1.rdInA, hA1.rdIn0A, hA2.len, hA2.at_, hA2.at_', hA2.rd, hA2.rdIn, hA2.rdIn0, hA2.rdA, hA2.rdInA, hA2.rdIn0A, Eff.cells, leavesAll, fillL]) | (with_reducible refine Gd_split (fun hc => ?_) (fun hc => ?_) <;> (have hc2 := hc; try simp at hc2)) | (with_reducible refine Br_split (fun hc => ?_) (fun hc => ?_) <;> (have hc2 := hc; try simp at hc2)) | (with_reducible refine GdT_split (fun hc => ?_) (fun hc => ?_) <;> (have hc2 := hc; try simp at hc2)) | (with_reducible refine WT_alt ?_ ?_) | omega)
      all_goals (
        refine oc_push (bytes := 40) (r := [.int .i64 ps[i].1.kind, .int .i64 ps[i].1.len, c]) hD1.out ?_ ?_ ?_ (by decide) rfl (by decide)
        · exact hl
        · simp; omega
        intro o2 g5 hN5 hB5
        have hP := hD1.push (a := ps[i].1) h4 hf0 hf1 (Kept.refl _) hN5 hB5 rfl
        repeat' (first | (simp (disch := first | omega | assumption | (simp only [List.length_set]; omega) | (simp [*] <;> fail) | assumption) [-Bool.decide_and, -Bool.decide_or, -Bool.not_and, -Bool.not_or, toNat_pred, toNat_succ, wrap64, wr_new, wr_new0, ok_if, ok_ifn, iadV_sl, makeV_int, decT, decF, over_at, *]) | (with_reducible refine Gd_split (fun hc => ?_) (fun hc => ?_) <;> (have hc2 := hc; try simp at hc2)) | (with_reducible refine Br_split (fun hc => ?_) (fun hc => ?_) <;> (have hc2 := hc; try simp at hc2)) | (with_reducible refine GdT_split (fun hc => ?_) (fun hc => ?_) <;> (have hc2 := hc; try simp at hc2)) | (with_reducible refine WT_alt ?_ ?_) | omega)
        exact ⟨_, hP, hqH2 _⟩)
    · rintro b2 g2 ⟨o', qs', e3', hD', hq'⟩
      repeat' (first | (simp (disch := first | omega | assumption | (simp only [List.length_set]; omega) | (simp [*] <;> fail) | assumption) [-Bool.decide_and, -Bool.decide_or, -Bool.not_and, -Bool.not_or, toNat_pred, toNat_succ, wrap64, wr_new, wr_new0, ok_if, ok_ifn, iadV_sl, makeV_int, decT, decF, over_at, *]) | (with_reducible refine Gd_split (fun hc => ?_) (fun hc => ?_) <;> (have hc2 := hc; try simp at hc2)) | (with_reducible refine Br_split (fun hc => ?_) (fun hc => ?_) <;> (have hc2 := hc; try simp at hc2)) | (with_reducible refine GdT_split (fun hc => ?_) (fun hc => ?_) <;> (have hc2 := hc; try simp at hc2)) | (with_reducible refine WT_alt ?_ ?_) | omega)
      exact ⟨hlt, _, hD', hq'⟩
  · have : i = ps.length := by omega
    subst this
    repeat' (first | (simp (disch := first | omega | assumption | (simp only [List.length_set]; omega) | (simp [*] <;> fail) | assumption) [-Bool.decide_and, -Bool.decide_or, -Bool.not_and, -Bool.not_or, toNat_pred, toNat_succ, wrap64, wr_new, wr_new0, ok_if, ok_ifn, iadV_sl, makeV_int, decT, decF, over_at, *, hA1.len, hA1.at_, hA1.at_', hA1.rd, hA1.rdIn, hA1.rdIn0, hA1.rdA, hA1.rdInA, hA1.rdIn0A]) | (with_reducible refine Gd_split (fun hc => ?_) (fun hc => ?_) <;> (have hc2 := hc; try simp at hc2)) | (with_reducible refine Br_split (fun hc => ?_) (fun hc => ?_) <;> (have hc2 := hc; try simp at hc2)) | (with_reducible refine GdT_split (fun hc => ?_) (fun hc => ?_) <;> (have hc2 := hc; try simp at hc2)) | (with_reducible refine WT_alt ?_ ?_) | omega)
    exact hK _ _ _ hD (by rw [hq]; exact List.take_of_length_le (by simp))
set_option maxHeartbeats 4000000 in
theorem c_copyChain (hA : Arr h l 3 (ps.map Eff.cells)) (hI : Sms h Eff.nums ps) (hn : ps.length ≤ 100) (hn2 : szD Eff.nums ps ≤ 100000) (hl : lim ≤ h.length) (hK : ∀ o g qs, NewD h g o 43 3 Eff.cells Eff.nums 53 qs → qs.map (·.1) = ps.map (·.1) → K (.lf o) g) : CallT S false 27 [.lf l] h lim K := by
  refine CallT_of_body (F := L27) (HasOc.f27) rfl ?_; unfold L27; dsimp only []
  repeat' (first | (simp (disch := first | omega | assumption | (simp only [List.length_set]; omega) | (simp [*] <;> fail) | assumption) [-Bool.decide_and, -Bool.decide_or, -Bool.not_and, -Bool.not_or, toNat_pred, toNat_succ, wrap64, wr_new, wr_new0, ok_if, ok_ifn, iadV_sl, makeV_int, decT, decF, over_at, *, hA.len]) | (with_reducible refine Gd_split (fun hc => ?_) (fun hc => ?_) <;> (have hc2 := hc; try simp at hc2)) | (with_reducible refine Br_split (fun hc => ?_) (fun hc => ?_) <;> (have hc2 := hc; try simp at hc2)) | (with_reducible refine GdT_split (fun hc => ?_) (fun hc => ?_) <;> (have hc2 := hc; try simp at hc2)) | (with_reducible refine WT_alt ?_ ?_) | omega)
  refine WL_forM 2096936 (by decide +kernel) (ps.length) (fun i b g => i ≤ ps.length ∧ b 8 = .lf (.int .i64 i) ∧ ∃ o qs, b 3 = .lf o ∧ NewD h g o 43 3 Eff.cells Eff.nums 53 qs ∧ qs.map (·.1) = (ps.map (·.1)).take i) (fun _ _ _ hi => hi.1) ⟨by omega, by simp, .nils, [], by simp, NewD.start (Kept.refl _), by simp⟩ ?_
  rintro i b g ⟨hi, e4, o, qs, e3, hD, hq⟩
  have hk := hD.kept
  have hk1 := hk.1
  have hA1 := hA.kept hk
  have hI1 := hI.kept hk
  have hql : qs.length = i := by have := congrArg List.length hq; rw [List.length_map, List.length_take, List.length_map, Nat.min_eq_left hi] at this; exact this
  by_cases hlt : i < ps.length
  · have hqH := fun l => map_take hq hlt (l := l)
    have hqH2 : Hid (∀ l : Lf, (qs ++ [(ps[i].1, l)]).map (·.1) = (ps.map (·.1)).take (i + 1)) := hqH
    have hle := szD_get (ro := Eff.nums) hlt
    clear hq hqH hK
    repeat' (first | (simp (disch := first | omega | assumption | (simp only [List.length_set]; omega) | (simp [*] <;> fail) | assumption) [-Bool.decide_and, -Bool.decide_or, -Bool.not_and, -Bool.not_or, toNat_pred, toNat_succ, wrap64, wr_new, wr_new0, ok_if, ok_ifn, iadV_sl, makeV_int, decT, decF, over_at, *, hA1.len, hA1.at_, hA1.at_', hA1.rd, hA1.rdIn, hA1.rdIn0, hA1.rdA, hA1.rdInA, hA1.rdIn0A, Eff.cells]) | (with_reducible refine Gd_split (fun hc => ?_) (fun hc => ?_) <;> (have hc2 := hc; try simp at hc2)) | (with_reducible refine Br_split (fun hc => ?_) (fun hc => ?_) <;> (have hc2 := hc; try simp at hc2)) | (with_reducible refine GdT_split (fun hc => ?_) (fun hc => ?_) <;> (have hc2 := hc; try simp at hc2)) | (with_reducible refine WT_alt ?_ ?_) | omega)
    refine c_copyNumbers ((hI1 i hlt).kept (Kept.app g _)) (by omega) (by simp; omega) fun c g2 hC => ?_
    obtain ⟨t, rfl⟩ := hC.kept.split
    simp only [List.append_assoc, List.cons_append, List.nil_append] at hC ⊢
    have hD2 := hD.later (Kept.app g (⟨[.int .i64 ps[i].1.kind, .int .i64 ps[i].1.len, c], .own 43 1⟩ :: t))
    have hC2 := New.swap1 (a' := ⟨[.int .i64 ps[i].1.kind, .int .i64 ps[i].1.len, c], .own 43 1⟩) hC
    obtain ⟨hf0, hf1⟩ := hD.fresh hC2
    have hC3 := hC2.base hk
    repeat' (first | (simp (disch := first | omega | assumption | (simp only [List.length_set]; omega) | (simp [*] <;> fail) | assumption) [-Bool.decide_and, -Bool.decide_or, -Bool.not_and, -Bool.not_or, toNat_pred, toNat_succ, wrap64, wr_new, wr_new0, ok_if, ok_ifn, iadV_sl, makeV_int, decT, decF, over_at, *, leavesAll, fillL]) | (with_reducible refine Gd_split (fun hc => ?_) (fun hc => ?_) <;> (have hc2 := hc; try simp at hc2)) | (with_reducible refine Br_split (fun hc => ?_) (fun hc => ?_) <;> (have hc2 := hc; try simp at hc2)) | (with_reducible refine GdT_split (fun hc => ?_) (fun hc => ?_) <;> (have hc2 := hc; try simp at hc2)) | (with_reducible refine WT_alt ?_ ?_) | omega)
    have k3 := Kept.app (g ++ ⟨[.int .i64 ps[i].1.kind, .int .i64 ps[i].1.len, c], .own 43 1⟩ :: t) [⟨[.int .i64 ps[i].1.kind, .int .i64 ps[i].1.len, c], .own 43 3⟩]
    simp only [List.append_assoc, List.cons_append] at k3
    have hD3 := (hD2.later k3)
    have hC4 := hC3.later k3
    refine oc_pushS hD3.out (r := [.int .i64 ps[i].1.kind, .int .i64 ps[i].1.len, c]) (by simp) hl (by simp; omega) (fun o2 g5 hN5 hB5 => ?_) (by decide) (by decide)
    have hP := hD3.push (a := ps[i].1) hC4 hf0 hf1 (Kept.refl _) hN5 hB5 rfl
    clear hD3 hC4 hC3 hC2 hD2 hB5 hN5
    repeat' (first | (simp (disch := first | omega | assumption | (simp only [List.length_set]; omega) | (simp [*] <;> fail) | assumption) [-Bool.decide_and, -Bool.decide_or, -Bool.not_and, -Bool.not_or, toNat_pred, toNat_succ, wrap64, wr_new, wr_new0, ok_if, ok_ifn, iadV_sl, makeV_int, decT, decF, over_at, *]) | (with_reducible refine Gd_split (fun hc => ?_) (fun hc => ?_) <;> (have hc2 := hc; try simp at hc2)) | (with_reducible refine Br_split (fun hc => ?_) (fun hc => ?_) <;> (have hc2 := hc; try simp at hc2)) | (with_reducible refine GdT_split (fun hc => ?_) (fun hc => ?_) <;> (have hc2 := hc; try simp at hc2)) | (with_reducible refine WT_alt ?_ ?_) | omega)
    exact ⟨hlt, _, hP, hqH2 _⟩
  · have : i = ps.length := by omega
    subst this
    repeat' (first | (simp (disch := first | omega | assumption | (simp only [List.length_set]; omega) | (simp [*] <;> fail) | assumption) [-Bool.decide_and, -Bool.decide_or, -Bool.not_and, -Bool.not_or, toNat_pred, toNat_succ, wrap64, wr_new, wr_new0, ok_if, ok_ifn, iadV_sl, makeV_int, decT, decF, over_at, *, hA1.len, hA1.at_, hA1.at_', hA1.rd, hA1.rdIn, hA1.rdIn0, hA1.rdA, hA1.rdInA, hA1.rdIn0A]) | (with_reducible refine Gd_split (fun hc => ?_) (fun hc => ?_) <;> (have hc2 := hc; try simp at hc2)) | (with_reducible refine Br_split (fun hc => ?_) (fun hc => ?_) <;> (have hc2 := hc; try simp at hc2)) | (with_reducible refine GdT_split (fun hc => ?_) (fun hc => ?_) <;> (have hc2 := hc; try simp at hc2)) | (with_reducible refine WT_alt ?_ ?_) | omega)
    exact hK _ _ _ hD (by rw [hq]; exact List.take_of_length_le (by simp))
end
end
end Go.E
