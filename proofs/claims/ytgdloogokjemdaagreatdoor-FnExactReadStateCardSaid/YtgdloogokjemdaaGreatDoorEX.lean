/- What the library has no body for: bits of floats, floors, the place of a byte. Plain lemmas; no condition. -/
import Derived.Test.YtgdloogokjemdaaGreatDoorE4
set_option linter.unusedVariables false
set_option linter.unusedSimpArgs false
namespace Go.E
open Go Go.RowKit

def xkOf (n : String) : Option XK :=
  if n == "math.Float64bits" then some .bits64 else if n == "math.Float64frombits" then some .from64 else if n == "math.Float32bits" then some .bits32 else if n == "math.Float32frombits" then some .from32
  else if n == "math.archFloor" then some .floor else if n == "math.archCeil" then some .ceil else if n == "math.archTrunc" then some .trunc else if n == "math.RoundToEven" then some .even else if n == "internal/bytealg.IndexByteString" then some .idxb else none
def xkFn (P : Program) (f : FuncId) : Option XK := match P.funcs[f]? with
  | some fn => if fn.body.isNone && !(fn.name == "runtime.NumGoroutine") && (Extern.findNext fn).isNone then xkOf fn.name else none
  | none => none
def XSound (P : Program) (k : XK) (e : Array Value → Sem Value) : Prop := ∀ (ρ : Lo) (args : List CV) (vs : List Value) (v : CV) (w : World), VRs ρ args vs → xopV k args = some v → ∃ u n, (e vs.toArray).run P w = .ok u (w.drewN n) ∧ VR ρ v u
theorem VRs_one {ρ : Lo} {x : CV} {vs : List Value} (h : VRs ρ [x] vs) : ∃ u, vs = [u] ∧ VR ρ x u := by
  obtain ⟨u, us, rfl, h1, h2⟩ := h
  have : us = [] := h2
  subst this
  exact ⟨u, rfl, h1⟩
section
variable {P : Program}
theorem x_bits64 : XSound P .bits64 Extern.MathFloatBits.float64bits := by
  intro ρ args vs v w ha hv
  change xBits64 args = some v at hv
  unfold xBits64 at hv
  split at hv
  · obtain ⟨u, rfl, b, rfl, hf⟩ := VRs_one ha
    have e : Extern.MathFloatBits.float64bits [Value.float .f64 b].toArray = pure (.int .u64 b) := rfl
    refine ⟨.int .u64 b, 0, by rw [e]; rfl, ?_⟩
    split at hv
    · rename_i hn; injection hv with hv; subst hv
      exact ⟨b, rfl, hf.1, by rw [hf.isNaN]; exact hn⟩
    · rename_i hn; injection hv with hv; subst hv
      rw [hf.eq_of_not (by simpa using hn)]; rfl
  · cases hv
theorem x_from64 : XSound P .from64 Extern.MathFloatBits.float64frombits := by
  intro ρ args vs v w ha hv
  change xFrom64 args = some v at hv
  unfold xFrom64 at hv
  split at hv
  · rename_i n
    obtain ⟨u, rfl, hu⟩ := VRs_one ha
    have hu' : u = .int .u64 n := hu
    subst hu'
    have e : Extern.MathFloatBits.float64frombits [Value.int .u64 n].toArray = pure (.float .f64 n.toNat) := rfl
    split at hv
    · rename_i hb; injection hv with hv; subst hv
      exact ⟨.float .f64 n.toNat, 0, by rw [e]; rfl, n.toNat, rfl, by show n.toNat < 2 ^ 64; omega, rfl⟩
    · cases hv
  · obtain ⟨u, rfl, b, rfl, h1, h2⟩ := VRs_one ha
    injection hv with hv; subst hv
    have e : Extern.MathFloatBits.float64frombits [Value.int .u64 b].toArray = pure (.float .f64 b) := rfl
    exact ⟨.float .f64 b, 0, by rw [e]; rfl, b, rfl, h1, can_of_nan h2⟩
  · cases hv
theorem x_bits32 : XSound P .bits32 Extern.MathFloatBits.float32bits := by
  intro ρ args vs v w ha hv
  change xBits32 args = some v at hv
  unfold xBits32 at hv
  split at hv
  · obtain ⟨u, rfl, b, rfl, hf⟩ := VRs_one ha
    have e : Extern.MathFloatBits.float32bits [Value.float .f32 b].toArray = pure (.int .u32 b) := rfl
    split at hv
    · cases hv
    · rename_i hn; injection hv with hv; subst hv
      refine ⟨.int .u32 b, 0, by rw [e]; rfl, ?_⟩
      rw [hf.eq_of_not (by simpa using hn)]; rfl
  · cases hv
theorem x_from32 : XSound P .from32 Extern.MathFloatBits.float32frombits := by
  intro ρ args vs v w ha hv
  change xFrom32 args = some v at hv
  unfold xFrom32 at hv
  split at hv
  · rename_i n
    obtain ⟨u, rfl, hu⟩ := VRs_one ha
    have hu' : u = .int .u32 n := hu
    subst hu'
    have e : Extern.MathFloatBits.float32frombits [Value.int .u32 n].toArray = pure (.float .f32 n.toNat) := rfl
    split at hv
    · rename_i hb; injection hv with hv; subst hv
      exact ⟨.float .f32 n.toNat, 0, by rw [e]; rfl, n.toNat, rfl, by show n.toNat < 2 ^ 32; omega, rfl⟩
    · cases hv
  · cases hv
theorem integral_not_nan {way : Ieee.Toward} {d : Ieee.Datum} (h : d.isNaN = false) : (d.integral way).isNaN = false := by
  cases d with
  | nan s t => cases h
  | infinity s => rfl
  | number s m e => unfold Ieee.Datum.integral; split <;> rfl
theorem encode_lt (k : FloatKind) (d : Ieee.Datum) : k.encode d < 2 ^ k.format.width := k.format.write_lt d
theorem quiet_nan (s : Bool) (t : Nat) : isNaN .f64 (FloatKind.f64.encode (.nan s (FloatKind.f64.format.quiet t))) = true := by
  have hsw : FloatKind.f64.format.signWeight = 2 ^ 63 := by decide
  have hin : FloatKind.f64.format.infRung = 2047 * 2 ^ 52 := by decide +kernel
  have hbi : FloatKind.f64.format.binade = 2 ^ 52 := by decide
  have hq : 0 < FloatKind.f64.format.quiet t % 2 ^ 52 := by
    have h : (FloatKind.f64.format.quiet t % 2 ^ 52).testBit 51 = true := by
      rw [Nat.testBit_mod_two_pow]
      show (decide (51 < 52) && (t ||| 2 ^ 51).testBit 51) = true
      rw [Nat.testBit_or, Nat.testBit_two_pow_self]; simp
    rcases Nat.eq_zero_or_pos (FloatKind.f64.format.quiet t % 2 ^ 52) with h0 | h0
    · rw [h0] at h; simp at h
    · exact h0
  have hlt : FloatKind.f64.format.quiet t % 2 ^ 52 < 2 ^ 52 := Nat.mod_lt _ (by decide)
  rw [isNaN_eq]
  show decide (FloatKind.f64.format.infRung < FloatKind.f64.format.word s (FloatKind.f64.format.infRung + FloatKind.f64.format.quiet t % FloatKind.f64.format.binade) % FloatKind.f64.format.signWeight) = true
  unfold Ieee.Format.word
  rw [hsw, hin, hbi]
  generalize FloatKind.f64.format.quiet t % 2 ^ 52 = q at hq hlt
  cases s <;> simp <;> omega
theorem x_way {k : XK} {way : Ieee.Toward} {name : String} (hk : ∀ l, xopV k l = xWay way l) : XSound P k (Extern.MathFloor.toIntegral name way) := by
  intro ρ args vs v w ha hv
  have hx : ∃ x, args = [.lf (.flt .f64 x)] ∧ v = .lf (.flt .f64 (ftow way x)) := by
    rw [hk] at hv
    unfold xWay at hv
    split at hv
    · injection hv with hv; exact ⟨_, rfl, hv.symm⟩
    · cases hv
  obtain ⟨x, rfl, rfl⟩ := hx
  obtain ⟨u, rfl, b, rfl, hf⟩ := VRs_one ha
  have e : Extern.MathFloor.toIntegral name way [Value.float .f64 b].toArray = (match FloatKind.f64.decode b with
    | .nan s t =>
      if FloatKind.f64.format.quiet t = t then pure (.float .f64 b) else do
      let kept ← choose (.extern "math.Floor,Ceil,Trunc,RoundToEven.signallingNaN kept" 2)
      pure (.float .f64 (if kept == 1 then b else FloatKind.f64.encode (.nan s (FloatKind.f64.format.quiet t))))
    | d => pure (.float .f64 (FloatKind.f64.encode (d.integral way)))) := rfl
  rw [e]; clear e
  unfold ftow
  cases hn : isNaN .f64 x
  · obtain rfl := hf.eq_of_not hn
    have hd : (FloatKind.f64.decode b).isNaN = false := hn
    simp only [Bool.false_eq_true, if_false]
    cases hd2 : FloatKind.f64.decode b with
    | nan s t => rw [hd2] at hd; cases hd
    | infinity s => exact ⟨_, 0, rfl, _, rfl, encode_lt _ _, can_of_not (encode_not_nan _ _ (integral_not_nan rfl))⟩
    | number s m e => exact ⟨_, 0, rfl, _, rfl, encode_lt _ _, can_of_not (encode_not_nan _ _ (integral_not_nan rfl))⟩
  · have hnb : isNaN .f64 b = true := by rw [hf.isNaN]; exact hn
    obtain ⟨s, t, hd⟩ := read_nan_of hnb
    have hd' : FloatKind.f64.decode b = .nan s t := hd
    simp only [if_true, hd']
    split
    · exact ⟨_, 0, rfl, _, rfl, hf.1, can_of_nan hnb⟩
    · have hq : (Question.extern "math.Floor,Ceil,Trunc,RoundToEven.signallingNaN kept" 2).forced = false := rfl
      refine ⟨.float .f64 (if ((Question.extern "math.Floor,Ceil,Trunc,RoundToEven.signallingNaN kept" 2).cut (w.tape w.drawn (Question.extern "math.Floor,Ceil,Trunc,RoundToEven.signallingNaN kept" 2))) == 1 then b else FloatKind.f64.encode (.nan s (FloatKind.f64.format.quiet t))), 1, by simp [hq]; rfl, ?_⟩
      split
      · exact ⟨_, rfl, hf.1, can_of_nan hnb⟩
      · exact ⟨_, rfl, encode_lt _ _, can_of_nan (quiet_nan s t)⟩
theorem x_idxb : XSound P .idxb Extern.BytealgIndexByte.indexByte := by
  intro ρ args vs v w ha hv
  change xIdxb args = some v at hv
  unfold xIdxb at hv
  split at hv
  · rename_i s c
    split at hv
    · rename_i hb
      injection hv with hv; subst hv
      obtain ⟨u, us, rfl, h1, h2⟩ := ha
      obtain ⟨u2, rfl, h3⟩ := VRs_one h2
      have e1 : u = .string s := h1
      have e2 : u2 = .int .u8 c := h3
      subst e1; subst e2
      have hf : ((List.range s.size).find? fun i => s[i]! == c.toNat.toUInt8) = ((List.range s.size).find? fun i => ((s[i]!).toNat : Int) == c) := by
        congr 1
        funext i
        rw [Bool.eq_iff_iff]
        simp only [beq_iff_eq]
        constructor
        · intro h; rw [h]; simp; omega
        · intro h; rw [← UInt8.toNat_inj]; simp; omega
      have e : Extern.BytealgIndexByte.indexByte [Value.string s, Value.int .u8 c].toArray = (match (List.range s.size).find? fun i => s[i]! == c.toNat.toUInt8 with | some i => pure (goInt i) | none => pure (goInt (-1))) := rfl
      rw [e]
      unfold byteIdx
      rw [← hf]
      cases hq : ((List.range s.size).find? fun i => s[i]! == c.toNat.toUInt8) with
      | none => exact ⟨.int .i64 (-1), 0, rfl, rfl⟩
      | some i => exact ⟨.int .i64 i, 0, rfl, rfl⟩
    · cases hv
  · cases hv
theorem find_of {fn : Func} {n : String} {e : Array Value → Sem Value} (hn : fn.name = n) (h1 : Extern.allGenericRows.lookup n = none) (h2 : Extern.allTypedRows.lookup n = none) (h3 : Extern.allRows.lookup n = some e) : Extern.find fn = some e := by
  unfold Extern.find
  simp only [hn, h1, h2, h3]; rfl
theorem xk_find {n : String} {k : XK} (h : xkOf n = some k) {fn : Func} (hn : fn.name = n) : ∃ e, Extern.find fn = some e ∧ XSound P k e := by
  unfold xkOf at h
  simp only [beq_iff_eq] at h
  repeat' split at h
  all_goals first | (cases h; done) | skip
  all_goals injection h with h; subst h; rename_i hnn; rw [hnn] at hn
  · exact ⟨_, find_of hn (by kernel_rfl) (by kernel_rfl) (by kernel_rfl), x_bits64⟩
  · exact ⟨_, find_of hn (by kernel_rfl) (by kernel_rfl) (by kernel_rfl), x_from64⟩
  · exact ⟨_, find_of hn (by kernel_rfl) (by kernel_rfl) (by kernel_rfl), x_bits32⟩
  · exact ⟨_, find_of hn (by kernel_rfl) (by kernel_rfl) (by kernel_rfl), x_from32⟩
  · exact ⟨_, find_of hn (by kernel_rfl) (by kernel_rfl) (by kernel_rfl), x_way (name := "math.archFloor") fun _ => rfl⟩
  · exact ⟨_, find_of hn (by kernel_rfl) (by kernel_rfl) (by kernel_rfl), x_way (name := "math.archCeil") fun _ => rfl⟩
  · exact ⟨_, find_of hn (by kernel_rfl) (by kernel_rfl) (by kernel_rfl), x_way (name := "math.archTrunc") fun _ => rfl⟩
  · exact ⟨_, find_of hn (by kernel_rfl) (by kernel_rfl) (by kernel_rfl), x_way (name := "math.RoundToEven") fun _ => rfl⟩
  · exact ⟨_, find_of hn (by kernel_rfl) (by kernel_rfl) (by kernel_rfl), x_idxb⟩
theorem good_xop {B : Nat} {w0 w : World} {ρ : Lo} {h : Hp} {a : Fr} {act : Act} {o : Oper} {v : CV} {c : Go.Call} {f : FuncId} {k : XK} {xs : List X} (hop : o.op = .call c) (hc : c.callee = .value (.func f)) (hk : xkFn P f = some k) (hxs : lXs c.args.toList = some xs)
    (ha : AR ρ a act.tmps) (hr : Rel B w0 ρ h w) (hv : xopV k (xs.map (evX a)) = some v) : Good P B w0 o act ρ w v h := by
  have hargs := lXs_sound ha hxs
  unfold xkFn at hk
  split at hk
  · rename_i fn hfn
    split at hk
    · rename_i hcond
      simp only [Bool.and_eq_true, Bool.not_eq_true', Option.isNone_iff_eq_none] at hcond
      obtain ⟨⟨h1, h2⟩, h3⟩ := hcond
      obtain ⟨e, he, hs⟩ := xk_find (P := P) hk rfl
      obtain ⟨u, n, hrun, hu⟩ := hs ρ _ _ v w hargs hv
      refine Good.drew (v' := u) (n := n) ?_ hu hr
      have e1 : (c.args.map act.eval) = (c.args.toList.map act.eval).toArray := by rw [← Array.toList_map, Array.toArray_toList]
      simp only [execOp, hop, resolve, hc, Act.eval, Deferred.ofValue, invoke, callFunc, Sem.run_bind, Sem.run_pure, Result.andThen_ok, run_program, hfn, h2, h1, Option.isNone_none, Bool.false_eq_true, if_false, if_true, run_mark, h3, he, Array.append_empty, Array.empty_append, e1, hrun]
    · cases hk
  · cases hk
end
end Go.E
