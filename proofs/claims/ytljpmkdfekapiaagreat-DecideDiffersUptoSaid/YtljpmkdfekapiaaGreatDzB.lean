/- The evaluator is sound: operations and calls. -/
import Derived.Test.YtljpmkdfekapiaaGreatDzA
import Derived.RangeFuncLeaves
import Derived.OrdersIn
set_option linter.unusedVariables false
set_option linter.unusedSimpArgs false
namespace Go.Ev
open Go
section
variable {P : Program} {ρ ρ' : Ren} {B : Nat} {h h' : H} {w w' : World} {g : Tr Value} {n : Nat} {a : Act}

theorem wrap_small {x : Int} (h0 : 0 ≤ x) (h1 : x < 4294967296) : IntKind.i64.wrap x = x := by
  unfold IntKind.wrap
  simp [IntKind.signed, IntKind.bits]
  omega
theorem s_makeSlice (t : WR P ρ h B w) (hB : B ≤ w.heap.size) {ty : TypeId} {l c : Int} {r : Value} (hr : mkSliceE P ty h l c = some (r, h')) :
    Does P B ρ h w ((do pure (Next.value (← Instr.makeSlice ty (.int .i64 l) (.int .i64 c))) : Sem Next).run P w) r h' := by
  unfold mkSliceE at hr
  split at hr
  case h_2 => cases hr
  rename_i e hu
  split at hr
  case h_2 => cases hr
  rename_i i z hi hz
  cases hb : (Nat.beq z.length i.size && decide (0 ≤ l) && decide (l ≤ c) && Nat.ble (c.toNat * i.bytes) 1099511627776 && decide (c < 4294967296) && Nat.blt 0 i.size) with
  | false => simp [hb] at hr
  | true =>
    simp only [hb, cond_true] at hr
    simp only [Bool.and_eq_true, decide_eq_true_eq] at hb
    obtain ⟨⟨⟨⟨⟨b1, b2⟩, b3⟩, b4⟩, b5⟩, b6⟩ := hb
    have b1 := nbeq_e b1
    have b4 := nble_e b4
    have b6 := nblt_e b6
    obtain ⟨zv, h1, h2, h3⟩ := zcells_run hz
    have hs : sizeT P e = some i.size := by simp [sizeT, hi]
    have hlen : (repL z c.toNat).length = c.toNat * i.size := by rw [repL_length, b1]
    obtain ⟨ρ', r1, r2⟩ := s_sli (extra := []) (c' := c.toNat) (fr := (0, 0)) (dr := w.drawn) t hB hs hr (all2_of_plain (repL_plain h3 c.toNat)) nofr (by omega)
      (by intro h0; by_cases hc : c.toNat = 0
          · exact hc
          · rw [nbeq_f hc] at h0; simp at h0) (by simp [hlen])
    simp only [List.append_nil] at r2
    have hwl := wrap_small b2 (by omega)
    have hwc := wrap_small (by omega : 0 ≤ c) b5
    have hbig : ((i.bytes : Int) * c > 2 ^ 48) = False := by
      have : (i.bytes : Int) * c = ((c.toNat * i.bytes : Nat) : Int) := by
        rw [Int.natCast_mul, Int.toNat_of_nonneg (by omega), Int.mul_comm]
      rw [this]
      have h5 : ((c.toNat * i.bytes : Nat) : Int) ≤ 1099511627776 := Int.ofNat_le.2 b4
      have h6 : (2 : Int) ^ 48 = 281474976710656 := by rfl
      simp only [eq_iff_iff, iff_false, h6]
      intro hh; omega
    have e1 : (Instr.makeSlice ty (.int .i64 l) (.int .i64 c)).run P w = .ok (.slice (some ⟨w.heap.size, 0, none⟩) l.toNat c.toNat) { w with heap := w.heap.push (.cells ⟨repL z c.toNat⟩ e) } := by
      have hneg : (decide (c < 0) || decide ((i.bytes : Int) * c > 2 ^ 48) || decide (l < 0) || decide (l > c)) = false := by
        simp only [hbig, decide_false, Bool.or_false]
        simp; omega
      have hrow : ∀ (zz : Array Value), zz = (if c.toNat * i.size = 0 then #[] else zv.cells) → ((Array.range (c.toNat * i.size)).map fun j => zz[j % zz.size]!) = ⟨repL z c.toNat⟩ := by
        intro zz hzz
        apply Array.ext'
        by_cases h0 : c.toNat * i.size = 0
        · have : c.toNat = 0 := by
            rcases Nat.mul_eq_zero.1 h0 with h | h
            · exact h
            · omega
          rw [this]; simp [repL]
        · rw [if_neg h0] at hzz
          subst hzz
          have hzz : zv.cells.size = i.size := by rw [← b1, ← h2]; simp
          rw [← hzz, range_map_eq, h2]
      by_cases h0 : c.toNat * i.size = 0
      · simp only [Instr.makeSlice, Sem.run_bind, run_underlying hu, Result.andThen_ok, asInt, asIntOf, Sem.run_pure, run_typeInfo w hi, hwl, hwc]
        rw [Sem.run_ite, if_neg (by simpa using hneg)]
        simp only [Sem.run_bind, run_askRoom, Result.andThen_ok, run_sizeT hs, h0, Sem.run_ite, if_true, Sem.run_pure, newRow, run_newObj]
        have := hrow #[] (by rw [if_pos h0])
        rw [h0] at this
        rw [this]
      · simp only [Instr.makeSlice, Sem.run_bind, run_underlying hu, Result.andThen_ok, asInt, asIntOf, Sem.run_pure, run_typeInfo w hi, hwl, hwc]
        rw [Sem.run_ite, if_neg (by simpa using hneg)]
        simp only [Sem.run_bind, run_askRoom, Result.andThen_ok, run_sizeT hs, h0, Sem.run_ite, if_false, run_zeroT h1, Sem.run_pure, newRow, run_newObj]
        rw [hrow zv.cells (by rw [if_neg h0])]
    rw [ex_value, e1]
    exact does_value rfl r1 r2
theorem oEval_sound (tr : TR ρ g n a.tmps) {x : Option Operand} {v : Option Value} (hx : oEval g x = some v) : match v with | none => x.map a.eval = none | some u => ∃ u', x.map a.eval = some u' ∧ VR ρ u u' := by
  cases x with
  | none => simp only [oEval, Option.some.injEq] at hx; subst hx; rfl
  | some x =>
    simp only [oEval, Option.map_eq_some_iff] at hx
    obtain ⟨u, h1, rfl⟩ := hx
    exact ⟨_, rfl, evalO_sound tr h1⟩
/-- The bound as the model has it. -/
def BoundOK (ρ : Ren) (v v' : Option Value) : Prop := match v with | none => v' = none | some u => ∃ u', v' = some u' ∧ VR ρ u u'
theorem boundE_cases {v v' : Option Value} (hv : BoundOK ρ v v') {d most m : Nat} (hb : boundE v d most = some m) :
    (v = none ∧ v' = none ∧ m = d) ∨ (∃ k i, v = some (.int k i) ∧ v' = some (.int k i) ∧ 0 ≤ i ∧ i.toNat = m ∧ m ≤ most) := by
  unfold boundE at hb
  split at hb
  · simp only [Option.some.injEq] at hb; exact .inl ⟨rfl, hv, hb.symm⟩
  · rename_i k i
    obtain ⟨u', rfl, hu⟩ := hv
    cases hc : (decide (0 ≤ i) && Nat.ble i.toNat most) with
    | false => simp [hc] at hb
    | true =>
      simp only [hc, cond_true, Option.some.injEq] at hb
      simp only [Bool.and_eq_true, decide_eq_true_eq] at hc
      have := nble_e hc.2
      exact .inr ⟨k, i, rfl, by rw [hu.int], hc.1, hb, by omega⟩
  · cases hb
theorem run_bound {k : IntKind} {i : Int} {most : Nat} (h0 : 0 ≤ i) (h1 : i.toNat ≤ most) (code : BoundsCode) (w : World) : (Instr.sliceBound (.int k i) most code).run P w = .ok i.toNat w := by
  simp only [Instr.sliceBound, asIntOf, Sem.run_bind, Sem.run_pure, Result.andThen_ok]
  rw [if_pos ⟨h0, by omega⟩]
  rfl
/-- The bounds of a slice expression without a third one. -/
theorem run_bounds2 {lo hi lo' hi' : Option Value} (hlo : BoundOK ρ lo lo') (hhi : BoundOK ρ hi hi') {l hh ll c' : Nat} (h1 : boundE hi l l = some hh) (h2 : boundE lo 0 hh = some ll) (hc : l ≤ c') (isS : Bool) (w : World) :
    (Instr.sliceBounds isS l c' lo' hi' none).run P w = .ok (ll, hh, c') w ∧ ll ≤ hh ∧ hh ≤ l := by
  have hll : ll ≤ hh := by
    rcases boundE_cases hlo h2 with ⟨_, _, h⟩ | ⟨_, _, _, _, _, _, h⟩ <;> omega
  have hhl : hh ≤ l := by
    rcases boundE_cases hhi h1 with ⟨_, _, h⟩ | ⟨_, _, _, _, _, _, h⟩ <;> omega
  refine ⟨?_, hll, hhl⟩
  rcases boundE_cases hhi h1 with ⟨_, rfl, e1⟩ | ⟨k1, i1, _, rfl, p1, p2, p3⟩ <;> rcases boundE_cases hlo h2 with ⟨_, rfl, e2⟩ | ⟨k2, i2, _, rfl, q1, q2, q3⟩
  · simp [Instr.sliceBounds, e1, e2]
  · simp [Instr.sliceBounds, run_bound q1 (by omega : i2.toNat ≤ l), e1, q2]
  · simp [Instr.sliceBounds, run_bound p1 (by omega : i1.toNat ≤ c'), e2, p2]
  · simp [Instr.sliceBounds, run_bound p1 (by omega : i1.toNat ≤ c'), run_bound q1 (by omega : i2.toNat ≤ hh), p2, q2]
theorem run_bounds3 {lo lo' hi' mx' : Option Value} {hv mv : Value} (hlo : BoundOK ρ lo lo') (hhi : BoundOK ρ (some hv) hi') (hmx : BoundOK ρ (some mv) mx') {l mm hh ll c' : Nat} (h0 : boundE (some mv) 0 l = some mm) (h1 : boundE (some hv) 0 mm = some hh)
    (h2 : boundE lo 0 hh = some ll) (hc : l ≤ c') (isS : Bool) (w : World) :
    (Instr.sliceBounds isS l c' lo' hi' mx').run P w = .ok (ll, hh, mm) w ∧ ll ≤ hh ∧ hh ≤ mm ∧ mm ≤ l := by
  rcases boundE_cases hmx h0 with ⟨h, _⟩ | ⟨k0, i0, _, rfl, o1, o2, o3⟩
  · cases h
  rcases boundE_cases hhi h1 with ⟨h, _⟩ | ⟨k1, i1, _, rfl, p1, p2, p3⟩
  · cases h
  rcases boundE_cases hlo h2 with ⟨_, rfl, e2⟩ | ⟨k2, i2, _, rfl, q1, q2, q3⟩
  · refine ⟨?_, by omega, by omega, by omega⟩
    simp [Instr.sliceBounds, run_bound o1 (by omega : i0.toNat ≤ c'), run_bound p1 (by omega : i1.toNat ≤ mm), e2, o2, p2]
  · refine ⟨?_, by omega, by omega, by omega⟩
    simp [Instr.sliceBounds, run_bound o1 (by omega : i0.toNat ≤ c'), run_bound p1 (by omega : i1.toNat ≤ mm), run_bound q1 (by omega : i2.toNat ≤ hh), o2, p2, q2]
theorem sliceE_sound {ty : TypeId} {v v' r : Value} {lo hi mx lo' hi' mx' : Option Value} (hv : VR ρ v v') (hlo : BoundOK ρ lo lo') (hhi : BoundOK ρ hi hi') (hmx : BoundOK ρ mx mx') (hr : sliceE P ty v lo hi mx = some r) (w : World) :
    ∃ r', (Instr.sliceAt ty v' lo' hi' mx').run P w = .ok r' w ∧ VR ρ r r' := by
  unfold sliceE at hr
  split at hr
  · rename_i b l c e hu
    have hnarr : ∀ lo hi mx, (Instr.sliceAt ty v' lo hi mx).run P w = (Instr.slice ty v' lo hi mx).run P w := fun lo hi mx => by
      simp [Instr.sliceAt, run_underlying hu]
    rw [hnarr]
    split at hr
    · rename_i s hs
      obtain rfl : mx' = none := hmx
      split at hr
      case h_2 => cases hr
      rename_i hh e1
      split at hr
      case h_2 => cases hr
      rename_i ll e2
      rcases hv.sliceI with ⟨rfl, rfl, rfl, rfl⟩ | ⟨rfl, rfl, rfl, b', c', rfl⟩ | ⟨x, y, c', rfl, rfl, k1, k2, k3, k4⟩
      · obtain ⟨r1, r2, r3⟩ := run_bounds2 (P := P) hlo hhi e1 e2 (Nat.le_refl 0) true w
        obtain rfl : hh = 0 := by omega
        obtain rfl : ll = 0 := by omega
        simp only [nat_beq_self, Bool.and_self, cond_true, Option.some.injEq] at hr
        subst hr
        exact ⟨.slice none 0 0, by simp [Instr.slice, run_underlying hu, r1, run_sizeT hs], .of_plain rfl⟩
      · obtain ⟨r1, r2, r3⟩ := run_bounds2 (P := P) hlo hhi e1 e2 (Nat.zero_le c') true w
        obtain rfl : hh = 0 := by omega
        obtain rfl : ll = 0 := by omega
        have e9 : (Nat.beq 0 0 && Nat.beq 1 0) = false := rfl
        have e8 : (Nat.beq 0 0 && Nat.beq 1 1) = true := rfl
        simp only [e9, e8, cond_false, cond_true, Option.some.injEq] at hr
        subst hr
        cases b' with
        | none => exact ⟨_, by simp [Instr.slice, run_underlying hu, r1, run_sizeT hs]; exact ⟨rfl, rfl⟩, .s .empty⟩
        | some y => exact ⟨_, by simp [Instr.slice, run_underlying hu, r1, run_sizeT hs]; exact ⟨rfl, rfl⟩, .s .empty⟩
      · obtain ⟨r1, r2, r3⟩ := run_bounds2 (P := P) hlo hhi e1 e2 k2 true w
        simp only at hr
        have e5 : (Instr.slice ty (.slice (some y) l c') lo' hi' none).run P w = .ok (.slice (if c' = ll then some y else some (y.add (ll * s))) (hh - ll) (c' - ll)) w := by
          simp [Instr.slice, run_underlying hu, r1, run_sizeT hs]
        rw [e5]
        refine ⟨_, rfl, ?_⟩
        by_cases hl0 : ll = 0
        · subst hl0
          simp only [nat_beq_self, cond_true, Option.some.injEq] at hr
          subst hr
          have : (if c' = 0 then some y else some (y.add (0 * s))) = some y := by split <;> simp [Addr.add]
          rw [this, Nat.sub_zero, Nat.sub_zero]
          exact .s (.slice k1 (by omega) k3 k4)
        · rw [nbeq_f hl0] at hr
          simp only [cond_false] at hr
          by_cases hhl : hh = ll
          · subst hhl
            simp only [nat_beq_self, cond_true, Option.some.injEq] at hr
            subst hr
            rw [Nat.sub_self]
            exact .s .empty
          · rw [nbeq_f hhl] at hr
            simp only [cond_false, Option.some.injEq] at hr
            subst hr
            rw [if_neg (by omega)]
            exact .s (.slice (k1.add _) (by omega) (by simp) (by simp))
    · rename_i s m hs
      split at hr
      case h_2 => cases hr
      rename_i mm hv0 e0
      split at hr
      case h_2 => cases hr
      rename_i hh e1
      split at hr
      case h_2 => cases hr
      rename_i ll e2
      rcases hv.sliceI with ⟨rfl, rfl, rfl, rfl⟩ | ⟨rfl, rfl, rfl, b', c', rfl⟩ | ⟨x, y, c', rfl, rfl, k1, k2, k3, k4⟩
      · obtain ⟨r1, r2, r3, r4⟩ := run_bounds3 (P := P) hlo hhi hmx e0 e1 e2 (Nat.le_refl 0) true w
        obtain rfl : mm = 0 := by omega
        obtain rfl : hh = 0 := by omega
        obtain rfl : ll = 0 := by omega
        simp only [nat_beq_self, Bool.and_self, cond_true, Option.some.injEq] at hr
        subst hr
        exact ⟨.slice none 0 0, by simp [Instr.slice, run_underlying hu, r1, run_sizeT hs], .of_plain rfl⟩
      · obtain ⟨r1, r2, r3, r4⟩ := run_bounds3 (P := P) hlo hhi hmx e0 e1 e2 (Nat.zero_le c') true w
        obtain rfl : mm = 0 := by omega
        obtain rfl : hh = 0 := by omega
        obtain rfl : ll = 0 := by omega
        have e9 : (Nat.beq 0 0 && Nat.beq 1 0) = false := rfl
        have e8 : (Nat.beq 0 0 && Nat.beq 1 1) = true := rfl
        simp only [e9, e8, cond_false, cond_true, Option.some.injEq] at hr
        subst hr
        cases b' with
        | none => exact ⟨_, by simp [Instr.slice, run_underlying hu, r1, run_sizeT hs]; exact ⟨rfl, rfl⟩, .s .empty⟩
        | some y => exact ⟨_, by simp [Instr.slice, run_underlying hu, r1, run_sizeT hs]; exact ⟨rfl, rfl⟩, .s .empty⟩
      · obtain ⟨r1, r2, r3, r4⟩ := run_bounds3 (P := P) hlo hhi hmx e0 e1 e2 k2 true w
        simp only at hr
        have e5 : (Instr.slice ty (.slice (some y) l c') lo' hi' mx').run P w = .ok (.slice (if mm = ll then some y else some (y.add (ll * s))) (hh - ll) (mm - ll)) w := by
          simp [Instr.slice, run_underlying hu, r1, run_sizeT hs]
        rw [e5]
        refine ⟨_, rfl, ?_⟩
        by_cases hml : mm = ll
        · subst hml
          simp only [nat_beq_self, cond_true, Option.some.injEq] at hr
          subst hr
          obtain rfl : hh = mm := by omega
          rw [if_pos rfl, Nat.sub_self]
          exact .s (.slice k1 (Nat.le_refl _) (fun _ => rfl) (by simp))
        · rw [nbeq_f hml] at hr
          simp only [cond_false, Option.some.injEq] at hr
          subst hr
          rw [if_neg hml]
          exact .s (.slice (k1.add _) (by omega) (by simp) (by simp))
    · cases hr
  · rename_i s hu
    split at hr
    case h_2 => cases hr
    rename_i hh e1
    split at hr
    case h_2 => cases hr
    rename_i ll e2
    simp only [Option.some.injEq] at hr
    subst hr
    obtain rfl : mx' = none := hmx
    rw [hv.str]
    obtain ⟨r1, r2, r3⟩ := run_bounds2 (P := P) hlo hhi e1 e2 (Nat.le_refl s.size) false w
    exact ⟨.string (s.extract ll hh), by simp [Instr.sliceAt, Instr.slice, run_underlying hu, r1], .of_plain rfl⟩
  · cases hr
end
end Go.Ev
namespace Go.Ev
open Go
section
variable {P : Program} {ρ ρ' : Ren} {B : Nat} {h h' : H} {w w' : World} {g : Tr Value} {n : Nat} {a : Act}

theorem fieldAddr_sound {ty : TypeId} {fs : Array Field} {f : Field} {i s : Nat} {x y : Addr} (hu : P.underlying ty = some (.struct fs)) (hf : fs[i]? = some f) (hs : sizeT P f.type = some s) (h0 : s ≠ 0) (hA : AR ρ x y) (w : World) :
    (Instr.fieldAt ty (.pointer (some y)) i).run P w = .ok (.pointer (some (y.add f.offset))) w ∧ VR ρ (.pointer (some (x.add f.offset))) (.pointer (some (y.add f.offset))) :=
  ⟨by simp [Instr.fieldAt, run_underlying hu, hf, Instr.sureAddr, fieldPlace, run_sizeT hs, h0], .s (.ptr (hA.add _))⟩
theorem field_sound {ty : TypeId} {fs : Array Field} {f : Field} {i : Nat} {cs cs' : Array Value} {v : Value} (hu : P.underlying ty = some (.struct fs)) (hf : fs[i]? = some f) (hc : All2 (SV ρ) cs.toList cs'.toList)
    (hv : partE P f.type cs.toList f.offset = some v) (w : World) : ∃ v', (Instr.field ty (.agg cs') i).run P w = .ok v' w ∧ VR ρ v v' := by
  obtain ⟨v', h1, h2⟩ := partE_sound hc hv w
  exact ⟨v', by simp [Instr.field, run_underlying hu, hf, asAgg, h1], .a h2⟩
theorem idx_bound {l : Nat} {i : Int} (hb : (decide (0 ≤ i) && Nat.blt i.toNat l) = true) : 0 ≤ i ∧ i < l := by
  simp only [Bool.and_eq_true, decide_eq_true_eq] at hb
  have := nblt_e hb.2
  omega
theorem idxAddrE_sound {ty : TypeId} {x x' i i' v : Value} (hx : VR ρ x x') (hi : VR ρ i i') (hv : idxAddrE P ty x i = some v) (w : World) :
    ∃ v', (Instr.indexAt ty x' i').run P w = .ok v' w ∧ VR ρ v v' := by
  unfold idxAddrE at hv
  split at hv
  · rename_i ad l c k j e hu
    split at hv
    case h_2 => cases hv
    rename_i s hs
    cases hb : (decide (0 ≤ j) && Nat.blt j.toNat l) with
    | false => simp [hb] at hv
    | true =>
      simp only [hb, cond_true, Option.some.injEq] at hv
      subst hv
      obtain ⟨h1, h2⟩ := idx_bound hb
      rw [hi.int]
      rcases hx.sliceI with ⟨h, _⟩ | ⟨h, _⟩ | ⟨ad', y, c', h, rfl, hA, _⟩
      · cases h
      · cases h
      · cases h
        exact ⟨.pointer (some (y.add (j.toNat * s))), by simp [Instr.indexAt, asIntOf, run_underlying hu, h1, h2, run_sizeT hs], .s (.ptr (hA.add _))⟩
  · rename_i ad k j l e hu
    split at hv
    case h_2 => cases hv
    rename_i s hs
    cases hb : (decide (0 ≤ j) && Nat.blt j.toNat l) with
    | false => simp [hb] at hv
    | true =>
      simp only [hb, cond_true, Option.some.injEq] at hv
      subst hv
      obtain ⟨h1, h2⟩ := idx_bound hb
      rw [hi.int]
      obtain ⟨y, rfl, hA⟩ := hx.ptr
      exact ⟨.pointer (some (y.add (j.toNat * s))), by simp [Instr.indexAt, asIntOf, run_underlying hu, Instr.sureAddr, h1, h2, run_sizeT hs], .s (.ptr (hA.add _))⟩
  · cases hv
theorem indexE_sound {ty : TypeId} {x x' i i' v : Value} (hx : VR ρ x x') (hi : VR ρ i i') (hv : indexE P ty x i = some v) (w : World) :
    ∃ v', (Instr.index ty x' i').run P w = .ok v' w ∧ VR ρ v v' := by
  unfold indexE at hv
  split at hv
  · obtain ⟨h1, h2⟩ := plV_some hv
    rw [hx.str, hi.int]
    exact ⟨v, prun_run h1 w, .of_plain h2⟩
  · rename_i cs k j
    split at hv
    case h_2 => cases hv
    rename_i l e hu
    split at hv
    case h_2 => cases hv
    rename_i s hs
    cases hb : (decide (0 ≤ j) && Nat.blt j.toNat l) with
    | false => simp [hb] at hv
    | true =>
      simp only [hb, cond_true] at hv
      obtain ⟨h1, h2⟩ := idx_bound hb
      rw [hi.int]
      obtain ⟨cs', rfl, hc⟩ := hx.aggI
      obtain ⟨v', k1, k2⟩ := partE_sound hc hv w
      exact ⟨v', by simp [Instr.index, asIntOf, run_underlying hu, h1, h2, run_sizeT hs, k1], .a k2⟩
  · cases hv
theorem extract_sound {vs : Array Value} {i : Nat} {x' v : Value} (hx : VR ρ (.tuple vs) x') (hv : vs.toList[i]? = some v) (w : World) : ∃ v', (Instr.extract x' i).run P w = .ok v' w ∧ VR ρ v v' := by
  obtain ⟨vs', rfl, hc⟩ := hx.tupI
  obtain ⟨v', h1, h2⟩ := hc.get hv
  exact ⟨v', by simp [Instr.extract, show vs'[i]? = some v' by simpa using h1], .a h2⟩

/-! ### Maps -/
theorem keyOk_p {v : Value} (h : keyOk v = true) : plainV v = true := by unfold keyOk at h; simp only [Bool.and_eq_true] at h; exact h.1
theorem keyOk_t {v : Value} (h : keyOk v = true) : isTuple v = false := by unfold keyOk at h; simp only [Bool.and_eq_true, Bool.not_eq_true'] at h; exact h.2
theorem map_of (t : WR P ρ h B w) {m k : Nat} {es : List MapEntry} (hm : h.map m = some (es, k)) {L : Loc} (hL : ρ m = some L) :
    ∃ es', w.heap[L.block]? = some (.map es' k) ∧ All2 (ER ρ) es es'.toList ∧ (h.objs.get m).isSome := by
  unfold H.map at hm
  cases ho : h.objs.get m with
  | none => simp [ho] at hm
  | some o =>
    obtain ⟨L', ob, h1, h2, h3, h4⟩ := t.obj _ _ ho
    rw [hL] at h1; cases h1
    cases h4 with
    | @map es0 k0 es' k1 =>
      simp only [ho, Option.some.injEq, Prod.mk.injEq] at hm
      obtain ⟨rfl, rfl⟩ := hm
      exact ⟨es', h3, k1, rfl⟩
    | cells => simp [ho] at hm
    | iterN => simp [ho] at hm
    | iter => simp [ho] at hm
    | loop => simp [ho] at hm
    | marks => simp [ho] at hm
theorem sameNow_eq {K : TypeId} {d : TypeDesc} {x y : Value} {b : Bool} (hd : P.underlying K = some d) (hs : Instr.sameNow d x y = some b) (w : World) : (Op.equal K x y).run P w = .ok b w := by
  rw [equal_succ]
  generalize 9999 = q
  unfold Instr.sameNow at hs
  split at hs
  · rename_i k i k' j
    split at hs
    · rename_i he
      cases hs
      unfold Op.equalIn; simp [run_underlying hd, he]
    · cases hs
  · cases hs; unfold Op.equalIn; simp [run_underlying hd]
  · cases hs; unfold Op.equalIn; simp [run_underlying hd]
  · cases hs
theorem keyIdx_sound {K : TypeId} {k : Value} {d : TypeDesc} (hd : P.underlying K = some d) (w : World) : ∀ {es es' : List MapEntry} {i : Nat} {r : Option Nat}, All2 (ER ρ) es es' → keyIdx P K k es i = some r →
    (∀ j, r = some j → i ≤ j ∧ j < i + es.length) ∧
    (Instr.findNow d k es' i = none ∨ Instr.findNow d k es' i = some (r.map fun j => (j, (es'.getD (j - i) default).val))) ∧
    (Instr.findAsking K k es' i).run P w = .ok (r.map fun j => (j, (es'.getD (j - i) default).val)) w := by
  intro es es' i r hA
  induction hA generalizing i r with
  | nil =>
    intro hk
    simp only [keyIdx, Option.some.injEq] at hk
    subst hk
    exact ⟨by simp, .inr rfl, rfl⟩
  | @cons e e' es es' h0 hs ih =>
    intro hk
    simp only [keyIdx] at hk
    cases hp : plainV e.key with
    | false => simp [hp] at hk
    | true =>
      simp only [hp, cond_true] at hk
      cases hq : prun P (Op.equal K k e.key) with
      | none => simp [hq] at hk
      | some b =>
        have hrun := prun_run hq w
        rw [← h0.key] at hrun
        have hsn : ∀ b', Instr.sameNow d k e'.key = some b' → b' = b := fun b' hb' => by
          have := sameNow_eq hd hb' w
          rw [this] at hrun
          simpa using hrun
        cases b with
        | true =>
          simp only [hq, Option.some.injEq] at hk
          subst hk
          refine ⟨by simp, ?_, ?_⟩
          · simp only [Instr.findNow]
            cases hs : Instr.sameNow d k e'.key with
            | none => exact .inl rfl
            | some b' => rw [hsn b' hs]; exact .inr (by simp)
          · simp only [Instr.findAsking, Sem.run_bind, hrun, Result.andThen_ok, if_true, Sem.run_pure]; simp
        | false =>
          simp only [hq] at hk
          obtain ⟨k1, k2, k3⟩ := ih hk
          have hr : (r.map fun j => (j, ((e' :: es').getD (j - i) default).val)) = (r.map fun j => (j, (es'.getD (j - (i + 1)) default).val)) := by
            cases r with
            | none => rfl
            | some j =>
              have := k1 j rfl
              have : j - i = (j - (i + 1)) + 1 := by omega
              simp [this]
          refine ⟨fun j hj => by have := k1 j hj; simp; omega, ?_, ?_⟩
          · simp only [Instr.findNow]
            cases hs : Instr.sameNow d k e'.key with
            | none => exact .inl rfl
            | some b' =>
              rw [hsn b' hs]
              rw [hr]; exact k2
          · simp only [Instr.findAsking, Sem.run_bind, hrun, Result.andThen_ok, Bool.false_eq_true, if_false]
            rw [hr]; exact k3
/-- The place of a key, as the model finds it. -/
theorem findE_sound {K : TypeId} {empty : Bool} {k : Value} {es es' : List MapEntry} {r : Option (Nat × MapEntry)} (hA : All2 (ER ρ) es es') (hf : findE P K empty k es = some r) (w : World) :
    keyOk k = true ∧ (Instr.checkKey empty 10000 K k).run P w = .ok () w ∧
    (match r with
     | none => (Instr.findKey K k es').run P w = .ok none w
     | some (i, e) => es[i]? = some e ∧ ∃ e', es'[i]? = some e' ∧ ER ρ e e' ∧ (Instr.findKey K k es').run P w = .ok (some (i, e'.val)) w) := by
  unfold findE at hf
  cases hp : keyOk k with
  | false => simp [hp] at hf
  | true =>
    simp only [hp, cond_true] at hf
    cases hc : prun P (Instr.checkKey empty 10000 K k) with
    | none => simp [hc] at hf
    | some u =>
      cases u
      refine ⟨rfl, prun_run hc w, ?_⟩
      cases hi : keyIdx P K k es 0 with
      | none => simp [hc, hi] at hf
      | some q =>
        have hd : ∃ d, P.underlying K = some d := by
          unfold Instr.checkKey at hc
          cases hu : P.underlying K with
          | some d => exact ⟨d, rfl⟩
          | none =>
            exfalso
            have := prun_run hc w
            simp [underlying, hu] at this
        obtain ⟨d, hd⟩ := hd
        obtain ⟨k1, k2, k3⟩ := keyIdx_sound hd w hA hi
        have hfk : (Instr.findKey K k es').run P w = .ok (q.map fun j => (j, (es'.getD (j - 0) default).val)) w := by
          simp only [Instr.findKey, Sem.run_bind, run_underlying hd, Result.andThen_ok]
          rcases k2 with k2 | k2
          · rw [k2]; exact k3
          · rw [k2]; rfl
        cases q with
        | none =>
          simp only [hc, hi, Option.some.injEq] at hf
          subst hf
          exact hfk
        | some j =>
          simp only [hc, hi, Option.map_eq_some_iff] at hf
          obtain ⟨e, he, rfl⟩ := hf
          obtain ⟨e', he', hE⟩ := hA.get he
          refine ⟨he, e', he', hE, ?_⟩
          rw [hfk]
          simp [List.getD_eq_getElem?_getD, he']
theorem lookTail_sound {K E : TypeId} {k k' v : Value} {ok : Bool} (hk : VR ρ k k') {es : List MapEntry} {es' : Array MapEntry} (hA : All2 (ER ρ) es es'.toList) (hv : lookTailE P K E k ok es = some v) (w : World) :
    (Instr.checkKey es'.isEmpty 10000 K k').run P w = .ok () w ∧
    ((∃ i u, (Instr.findKey K k' es'.toList).run P w = .ok (some (i, u)) w ∧ VR ρ v (if ok then .tuple #[u, .bool true] else u)) ∨
     ((Instr.findKey K k' es'.toList).run P w = .ok none w ∧ ∃ z, zeroT P E = some z ∧ VR ρ v (if ok then .tuple #[z, .bool false] else z))) := by
  have hee : es'.isEmpty = es.isEmpty := by
    have := hA.length
    cases es with
    | nil => simp at this ⊢; exact Array.eq_empty_of_size_eq_zero (by simpa using this.symm)
    | cons => simp at this ⊢; intro h0; rw [h0] at this; simp at this
  unfold lookTailE at hv
  split at hv
  · rename_i i e hf
    obtain ⟨f1, f2, f3, e', f4, f5, f6⟩ := findE_sound hA hf w
    have hk' := hk.plain (keyOk_p f1)
    cases hb : (ok && isTuple e.val) with
    | true => simp [hb] at hv
    | false =>
      simp only [hb, cond_false, Option.some.injEq] at hv
      subst hv
      rw [hee, ← hk']
      refine ⟨f2, .inl ⟨_, _, f6, ?_⟩⟩
      cases ok with
      | false => exact f5.val
      | true => exact .tuple (.cons (f5.val.av (by simpa using hb)) (.cons (.s (.same rfl)) .nil))
  · rename_i hf
    obtain ⟨f1, f2, f3⟩ := findE_sound hA hf w
    have hk' := hk.plain (keyOk_p f1)
    split at hv
    · rename_i z hz
      cases hb : (plainV z && !(isTuple z)) with
      | false => simp [hb] at hv
      | true =>
        simp only [hb, cond_true, Option.some.injEq] at hv
        subst hv
        simp only [Bool.and_eq_true, Bool.not_eq_true'] at hb
        rw [hee, ← hk']
        refine ⟨f2, .inr ⟨f3, z, hz, ?_⟩⟩
        cases ok with
        | false => exact .of_plain hb.1
        | true => exact .tuple (.cons ((VR.of_plain hb.1).av hb.2) (.cons (.s (.same rfl)) .nil))
    · cases hv
  · cases hv
theorem lookupE_sound (t : WR P ρ h B w) {ty : TypeId} {x x' k k' v : Value} {ok : Bool} (hx : VR ρ x x') (hk : VR ρ k k') (hv : lookupE P ty h x k ok = some v) :
    ∃ v', (Instr.lookup ty x' k' ok).run P w = .ok v' w ∧ VR ρ v v' := by
  unfold lookupE at hv
  split at hv
  · rename_i K E hu
    have := hx.mapN
    subst this
    obtain ⟨h0, h1⟩ := lookTail_sound (es' := #[]) hk .nil hv w
    rcases h1 with ⟨i, u, h1, h2⟩ | ⟨h1, z, hz, h2⟩
    · exact ⟨_, by simp only [Instr.lookup, Sem.run_bind, run_underlying hu, Result.andThen_ok, Sem.run_pure, h0, h1], h2⟩
    · exact ⟨_, by simp only [Instr.lookup, Sem.run_bind, run_underlying hu, Result.andThen_ok, Sem.run_pure, h0, h1, run_zeroT hz], h2⟩
  · rename_i K E r hu
    obtain ⟨L, rfl, hL⟩ := hx.mapS
    split at hv
    · rename_i es ck hm
      obtain ⟨es', k1, k2, k3⟩ := map_of t hm hL
      have hg : (getObj L.block).run P w = .ok (.map es' ck) w := by simp [getObj, Sem.run, k1]
      obtain ⟨h0, h1⟩ := lookTail_sound hk k2 hv w
      rcases h1 with ⟨i, u, h1, h2⟩ | ⟨h1, z, hz, h2⟩
      · exact ⟨_, by simp only [Instr.lookup, Sem.run_bind, run_underlying hu, Result.andThen_ok, Sem.run_pure, hg, h0, h1], h2⟩
      · exact ⟨_, by simp only [Instr.lookup, Sem.run_bind, run_underlying hu, Result.andThen_ok, Sem.run_pure, hg, h0, h1, run_zeroT hz], h2⟩
    · cases hv
  · cases hv
end
end Go.Ev
namespace Go.Ev
open Go
section
variable {P : Program} {ρ ρ' : Ren} {B : Nat} {h h' : H} {w w' : World} {g : Tr Value} {n : Nat} {a : Act}

theorem modL_get (l : List MapEntry) (f : MapEntry → MapEntry) : ∀ (i j : Nat), (modL l i f)[j]? = if i = j then l[j]?.map f else l[j]? := by
  induction l with
  | nil => intro i j; cases i <;> simp [modL]
  | cons e l ih =>
    intro i j
    cases i with
    | zero => cases j <;> simp [modL]
    | succ i => cases j with
      | zero => simp [modL]
      | succ j => simp [modL, ih i j]
theorem modify_toList (es : Array MapEntry) (i : Nat) (f : MapEntry → MapEntry) : (es.modify i f).toList = modL es.toList i f := by
  apply List.ext_getElem?
  intro j
  rw [modL_get, Array.getElem?_toList, Array.getElem?_modify, Array.getElem?_toList]
theorem All2.modL {es es' : List MapEntry} (hA : All2 (ER ρ) es es') {f f' : MapEntry → MapEntry} (hf : ∀ e e', ER ρ e e' → ER ρ (f e) (f' e')) : ∀ i, All2 (ER ρ) (Ev.modL es i f) (Ev.modL es' i f') := by
  induction hA with
  | nil => intro i; cases i <;> exact .nil
  | cons h0 hs ih => intro i; cases i with
    | zero => exact .cons (hf _ _ h0) hs
    | succ i => exact .cons h0 (ih i)
theorem run_getMap {b : Nat} {es : Array MapEntry} {k : Nat} (hg : w.heap[b]? = some (.map es k)) : (getObj b).run P w = .ok (.map es k) w := by simp [getObj, Sem.run, hg]
theorem run_setMap {b : Nat} {es : Array MapEntry} {k : Nat} (o : Obj) (hg : w.heap[b]? = some (.map es k)) : (setObj b o).run P w = .ok () { w with heap := w.heap.setIfInBounds b o } := by
  simp [setObj, Sem.run, hg]
theorem out_map (t : WR P ρ h B w) {m : Nat} {L : Loc} (hL : ρ m = some L) (hm : (h.objs.get m).isSome) {es : List MapEntry} {es' : Array MapEntry} {k : Nat} (hA : All2 (ER ρ) es es'.toList) :
    Out P B ρ h w ρ (setMapE h m es k) { w with heap := w.heap.setIfInBounds L.block (.map es' k) } :=
  out_set t hm hL _ (.map es' k) (fun x hx => by cases hx; exact .map hA) rfl rfl rfl rfl
theorem updateE_sound (t : WR P ρ h B w) {ty : TypeId} {m m' k k' v v' : Value} (hm : VR ρ m m') (hk : VR ρ k k') (hv : VR ρ v v') (hu : updateE P ty h m k v = some h') :
    ∃ w', (Instr.mapUpdate ty m' k' v').run P w = .ok () w' ∧ Out P B ρ h w ρ h' w' := by
  unfold updateE at hu
  split at hu
  case h_2 => cases hu
  rename_i K E r hty
  obtain ⟨L, rfl, hL⟩ := hm.mapS
  split at hu
  case h_2 => cases hu
  rename_i es ck hmm
  obtain ⟨es', k1, k2, k3⟩ := map_of t hmm hL
  split at hu
  · rename_i i e hf
    obtain ⟨f1, f2, f3, e', f4, f5, f6⟩ := findE_sound k2 hf w
    have hk' := hk.plain (keyOk_p f1)
    subst hk'
    cases hb : Instr.sameBits 10000 e.key k with
    | false => simp [hb] at hu
    | true =>
      simp only [hb, cond_true, Option.some.injEq] at hu
      subst hu
      have hes : es'[i]? = some e' := by simpa using f4
      refine ⟨_, ?_, out_map t hL k3 (es' := es'.modify i fun e => { e with key := k, val := v' }) (by rw [modify_toList]; exact k2.modL (f := fun e => { e with key := k, val := v }) (f' := fun e => { e with key := k, val := v' }) (fun a b hab => ⟨f1, rfl, hv, hab.born⟩) i)⟩
      simp only [Instr.mapUpdate, Sem.run_bind, run_underlying hty, Result.andThen_ok, run_getMap k1, f2, f6, hes, Option.map_some, Option.getD_some, f5.key, Instr.keyThatStays, hb, if_true, Sem.run_pure, run_setMap _ k1]
  · rename_i hf
    obtain ⟨f1, f2, f3⟩ := findE_sound k2 hf w
    have hk' := hk.plain (keyOk_p f1)
    subst hk'
    simp only [Option.some.injEq] at hu
    subst hu
    refine ⟨_, ?_, out_map t hL k3 (es' := es'.push { key := k, val := v', born := ck }) (by simp only [Array.toList_push]; exact k2.append (.cons ⟨f1, rfl, hv, rfl⟩ .nil))⟩
    simp only [Instr.mapUpdate, Sem.run_bind, run_underlying hty, Result.andThen_ok, run_getMap k1, f2, f3, run_setMap _ k1]
  · cases hu
theorem entryE_sound (t : WR P ρ h B w) {ty : TypeId} {m m' k k' v : Value} (hm : VR ρ m m') (hk : VR ρ k k') (hu : entryE P ty h m k = some (v, h')) :
    ∃ w' v', (Instr.mapEntry ty m' k').run P w = .ok v' w' ∧ VR ρ v v' ∧ Out P B ρ h w ρ h' w' := by
  unfold entryE at hu
  split at hu
  case h_2 => cases hu
  rename_i K E r hty
  obtain ⟨L, rfl, hL⟩ := hm.mapS
  split at hu
  case h_2 => cases hu
  rename_i es ck hmm
  obtain ⟨es', k1, k2, k3⟩ := map_of t hmm hL
  split at hu
  · rename_i i e hf
    obtain ⟨f1, f2, f3, e', f4, f5, f6⟩ := findE_sound k2 hf w
    have hk' := hk.plain (keyOk_p f1)
    subst hk'
    cases hb : (Instr.sameBits 10000 e.key k && !(isTuple e.val)) with
    | false => simp [hb] at hu
    | true =>
      simp only [hb, cond_true, Option.some.injEq, Prod.mk.injEq] at hu
      obtain ⟨rfl, rfl⟩ := hu
      simp only [Bool.and_eq_true, Bool.not_eq_true'] at hb
      have hes : es'[i]? = some e' := by simpa using f4
      refine ⟨_, .tuple #[e'.val, goInt e'.born], ?_, .tuple (.cons (f5.val.av hb.2) (.cons ?_ .nil)), out_map t hL k3 (es' := es'.modify i fun e => { e with key := k }) (by rw [modify_toList]; exact k2.modL (f := fun e => { e with key := k }) (f' := fun e => { e with key := k }) (fun a b hab => ⟨f1, rfl, hab.val, hab.born⟩) i)⟩
      · simp only [Instr.mapEntry, Sem.run_bind, run_underlying hty, Result.andThen_ok, run_getMap k1, f2, f6, hes, Option.map_some, Option.getD_some, f5.key, Instr.keyThatStays, hb.1, if_true, Sem.run_pure, run_setMap _ k1]
      · rw [f5.born]; exact .s (.same rfl)
  · rename_i hf
    obtain ⟨f1, f2, f3⟩ := findE_sound k2 hf w
    have hk' := hk.plain (keyOk_p f1)
    subst hk'
    split at hu
    case h_2 => cases hu
    rename_i z hz
    cases hb : (plainV z && !(isTuple z)) with
    | false => simp [hb] at hu
    | true =>
      simp only [hb, cond_true, Option.some.injEq, Prod.mk.injEq] at hu
      obtain ⟨rfl, rfl⟩ := hu
      simp only [Bool.and_eq_true, Bool.not_eq_true'] at hb
      refine ⟨_, .tuple #[z, goInt ck], ?_, .tuple (.cons ((VR.of_plain hb.1).av hb.2) (.cons (.s (.same rfl)) .nil)), out_map t hL k3 (es' := es'.push { key := k, val := z, born := ck }) (by simp only [Array.toList_push]; exact k2.append (.cons ⟨f1, rfl, .of_plain hb.1, rfl⟩ .nil))⟩
      simp only [Instr.mapEntry, Sem.run_bind, run_underlying hty, Result.andThen_ok, run_getMap k1, f2, f3, run_zeroT hz, Sem.run_pure, run_setMap _ k1]
  · cases hu
theorem idxBorn_sound {b : Int} : ∀ {es es' : List MapEntry} {i j : Nat}, All2 (ER ρ) es es' → idxBorn b es i = some j → ∃ k, j = i + k ∧ es'.findIdx? (fun e => (e.born : Int) == b) = some k := by
  intro es es' i j hA
  induction hA generalizing i with
  | nil => intro hk; simp [idxBorn] at hk
  | @cons e e' es es' h0 hs ih =>
    intro hk
    simp only [idxBorn] at hk
    by_cases hb : (e.born : Int) = b
    · simp only [hb, decide_true, cond_true, Option.some.injEq] at hk
      subst hk
      exact ⟨0, rfl, by simp [List.findIdx?_cons, h0.born, hb]⟩
    · simp only [hb, decide_false, cond_false] at hk
      obtain ⟨k, rfl, hk2⟩ := ih hk
      refine ⟨k + 1, by omega, ?_⟩
      have : ((e'.born : Int) == b) = false := by rw [h0.born]; simpa using hb
      simp [List.findIdx?_cons, this, hk2]
theorem entryStoreE_sound (t : WR P ρ h B w) {ty : TypeId} {m m' s s' v v' : Value} (hm : VR ρ m m') (hs : VR ρ s s') (hv : VR ρ v v') (hu : entryStoreE h m s v = some h') :
    ∃ w', (Instr.entryStore ty m' s' v').run P w = .ok () w' ∧ Out P B ρ h w ρ h' w' := by
  unfold entryStoreE at hu
  split at hu
  case h_2 => cases hu
  rename_i r k b
  obtain ⟨L, rfl, hL⟩ := hm.mapS
  rw [hs.int]
  split at hu
  case h_2 => cases hu
  rename_i es ck hmm
  obtain ⟨es', k1, k2, k3⟩ := map_of t hmm hL
  split at hu
  case h_2 => cases hu
  rename_i i hi
  simp only [Option.some.injEq] at hu
  subst hu
  obtain ⟨j, rfl, hj⟩ := idxBorn_sound k2 hi
  have hj' : es'.findIdx? (fun e => (e.born : Int) == b) = some (0 + j) := by rw [Nat.zero_add, ← hj, ← List.findIdx?_toArray]
  refine ⟨_, ?_, out_map t hL k3 (es' := es'.modify (0 + j) fun e => { e with val := v' }) (by rw [modify_toList]; exact k2.modL (f := fun e => { e with val := v }) (f' := fun e => { e with val := v' }) (fun a b hab => ⟨hab.plain, hab.key, hv, hab.born⟩) _)⟩
  simp only [Instr.entryStore, Sem.run_bind, run_getMap k1, Result.andThen_ok, asInt, asIntOf, Sem.run_pure, hj', run_setMap _ k1]
theorem s_newPtr (t : WR P ρ h B w) (hB : B ≤ w.heap.size) {o : AObj} {ob : Obj} (ho : ∀ L : Loc, L.delta = 0 → OR P ρ L o ob) :
    ∃ ρ', VR ρ' (newPtrE (h.new o)).1 (.pointer (some ⟨w.heap.size, 0, none⟩)) ∧ Out P B ρ h w ρ' (newPtrE (h.new o)).2 { w with heap := w.heap.push ob } := by
  obtain ⟨ρ', L, h1, h2, h3, h4, h5⟩ := s_newObj t hB ho
  refine ⟨ρ', ?_, h5⟩
  simp only [newPtrE, h4]
  exact .s (.ptr ⟨rfl, L, h1, by simp [h2, h3]⟩)
theorem rangeE_sound (t : WR P ρ h B w) (hB : B ≤ w.heap.size) {ty : TypeId} {x x' v : Value} (hx : VR ρ x x') (hr : rangeE P ty h x = some (v, h')) :
    ∃ w' v' ρ', (Instr.range ty x').run P w = .ok v' w' ∧ VR ρ' v v' ∧ Out P B ρ h w ρ' h' w' := by
  unfold rangeE at hr
  split at hr
  · rename_i K E hu
    simp only [Option.some.injEq] at hr
    have := hx.mapN
    subst this
    obtain ⟨ρ', h1, h2⟩ := s_newPtr (o := .o (.mapIter none 0 #[] 0)) (ob := .mapIter none 0 #[] 0) t hB (fun L hL => .iterN hL)
    rw [hr] at h1 h2
    exact ⟨_, _, ρ', by simp [Instr.range, run_underlying hu], h1, h2⟩
  · rename_i K E m hu
    obtain ⟨L, rfl, hL⟩ := hx.mapS
    split at hr
    case h_2 => cases hr
    rename_i es ck hm
    simp only [Option.some.injEq] at hr
    obtain ⟨es', k1, k2, k3⟩ := map_of t hm hL
    obtain ⟨ρ', h1, h2⟩ := s_newPtr (o := .o (.mapIter (some m) ck #[] ck)) (ob := .mapIter (some L.block) ck #[] ck) t hB (fun L0 hL0 => .iter hL0 hL)
    rw [hr] at h1 h2
    exact ⟨_, _, ρ', by simp [Instr.range, run_underlying hu, run_getMap k1], h1, h2⟩
  · cases hr
theorem iter_of (t : WR P ρ h B w) {ad : Addr} {m : Nat} {s st : Nat} {seen : Array Nat} (ho : h.objs.get ad.block = some (.o (.mapIter (some m) s seen st))) {y : Addr} (hA : AR ρ ad y) (h0 : ad.off = 0) :
    ∃ L Lm, ρ ad.block = some L ∧ y = ⟨L.block, 0, none⟩ ∧ ρ m = some Lm ∧ w.heap[L.block]? = some (.mapIter (some Lm.block) s seen st) ∧ L.delta = 0 := by
  obtain ⟨L, ob, h1, h2, h3, h4⟩ := t.obj _ _ ho
  obtain ⟨L', e1, e2⟩ := hA.loc
  rw [h1] at e1; cases e1
  cases h4 with
  | iter d0 hm => exact ⟨L, _, h1, by rw [e2, d0, h0], hm, h3, d0⟩
theorem filter_all2 {es es' : List MapEntry} (hA : All2 (ER ρ) es es') (p : Nat → Bool) : All2 (ER ρ) (es.filter fun e => p e.born) (es'.filter fun e => p e.born) := by
  induction hA with
  | nil => exact .nil
  | cons h0 hs ih =>
    rename_i e e' es es'
    simp only [List.filter_cons]
    rw [h0.born]
    cases p e.born <;> simp <;> first | exact ih | exact .cons h0 ih
theorem nextE_sound (t : WR P ρ h B w) {x x' v : Value} {isS : Bool} {ty : TypeId} (hx : VR ρ x x') (hr : nextE h x isS = some (v, h')) :
    ∃ w' v', (Instr.next x' isS ty).run P w = .ok v' w' ∧ VR ρ v v' ∧ Out P B ρ h w ρ h' w' := by
  unfold nextE at hr
  split at hr
  case h_2 => cases hr
  rename_i ad
  cases hb : (Nat.beq ad.off 0 && ad.spot.isNone) with
  | false => simp [hb] at hr
  | true =>
    simp only [hb, cond_true] at hr
    simp only [Bool.and_eq_true] at hb
    have h0 := nbeq_e hb.1
    obtain ⟨y, rfl, hA⟩ := hx.ptr
    split at hr
    · rename_i s seen st ho
      simp only [Option.some.injEq, Prod.mk.injEq] at hr
      obtain ⟨rfl, rfl⟩ := hr
      obtain ⟨L, ob, h1, h2, h3, h4⟩ := t.obj _ _ ho
      obtain ⟨L', e1, e2⟩ := hA.loc
      rw [h1] at e1; cases e1
      cases h4 with
      | iterN d0 =>
        refine ⟨w, .tuple #[.bool false], ?_, .of_plain rfl, .refl t⟩
        rw [e2, d0, h0]
        simp [Instr.next, getObj, Sem.run, h3]
    · rename_i m since seen last ho
      obtain ⟨L, Lm, p1, rfl, p2, p3, p4⟩ := iter_of t ho hA h0
      split at hr
      · cases hr
      rename_i es ck hm
      obtain ⟨es', k1, k2, k3⟩ := map_of t hm p2
      cases hc : (!seen.toList.isEmpty && !es.isEmpty && es.all (fun e => Nat.ble last e.born)) with
      | true => rw [hc] at hr; simp only [cond_true] at hr; cases hr
      | false =>
        rw [hc] at hr
        simp only [cond_false] at hr
        have hg : (getObj L.block).run P w = .ok (.mapIter (some Lm.block) since seen last) w := by simp [getObj, Sem.run, p3]
        have hblt : ∀ x y : Nat, Nat.blt x y = decide (x < y) := fun x y => by
          cases hb : Nat.blt x y with
          | true => simpa using nblt_e hb
          | false =>
            symm
            rw [decide_eq_false_iff_not]
            intro hlt
            have : Nat.ble (x + 1) y = true := Nat.ble_eq_true_of_le hlt
            rw [show Nat.blt x y = Nat.ble (x + 1) y from rfl, this] at hb
            cases hb
        have hble : ∀ x y : Nat, Nat.ble x y = decide (x ≤ y) := fun x y => by
          cases hb : Nat.ble x y with
          | true => simpa using nble_e hb
          | false =>
            symm
            rw [decide_eq_false_iff_not]
            intro hlt
            rw [Nat.ble_eq_true_of_le hlt] at hb
            cases hb
        have hall : (!seen.isEmpty && !es'.isEmpty && es'.all (fun e => decide (e.born ≥ last))) = false := by
          rw [← hc]
          have e1 : es'.isEmpty = es.isEmpty := by
            have := k2.length
            cases es with
            | nil => simp at this ⊢; exact Array.eq_empty_of_size_eq_zero (by simpa using this.symm)
            | cons => simp at this ⊢; intro h0; rw [h0] at this; simp at this
          have e2 : es'.all (fun e => decide (e.born ≥ last)) = es.all (fun e => Nat.ble last e.born) := by
            rw [← Array.all_toList]
            clear hc hr hm k1 e1
            generalize es'.toList = l at k2
            induction k2 with
            | nil => rfl
            | cons h0 _ ih =>
              simp only [List.all_cons, ih, h0.born]
              congr 1
              rw [hble]
          rw [e1, e2]
          congr 2
          simp
        have hleft := filter_all2 k2 (fun b => !(seen.toList.contains b))
        have hold := filter_all2 hleft (fun b => Nat.blt b since)
        have hnew := filter_all2 hleft (fun b => Nat.ble since b)
        have e3 : ((es'.filter fun e => !seen.contains e.born).filter (fun e => decide (e.born < since))).toList = ((es'.toList.filter fun e => !(seen.toList.contains e.born)).filter fun e => Nat.blt e.born since) := by
          simp only [Array.toList_filter, hblt]
          simp
        have e4 : ((es'.filter fun e => !seen.contains e.born).filter (fun e => decide (e.born ≥ since))).toList = ((es'.toList.filter fun e => !(seen.toList.contains e.born)).filter fun e => Nat.ble since e.born) := by
          simp only [Array.toList_filter, hble]
          simp
        rw [← e3] at hold
        rw [← e4] at hnew
        generalize hO : (es'.filter fun e => !seen.contains e.born).filter (fun e => decide (e.born < since)) = O at hold
        generalize hN : (es'.filter fun e => !seen.contains e.born).filter (fun e => decide (e.born ≥ since)) = N at hnew
        generalize ((es.filter fun e => !(seen.toList.contains e.born)).filter fun e => Nat.blt e.born since) = O0 at hr hold
        generalize ((es.filter fun e => !(seen.toList.contains e.born)).filter fun e => Nat.ble since e.born) = N0 at hr hnew
        have harr : ∀ {X : Array MapEntry} {l : List MapEntry}, X.toList = l → X = ⟨l⟩ := fun h => by rw [← h]
        split at hr
        · simp only [Option.some.injEq, Prod.mk.injEq] at hr
          obtain ⟨rfl, rfl⟩ := hr
          have hO2 : O = #[] := by
            generalize hq : O.toList = q at hold
            cases hold
            exact harr hq
          have hN2 : N = #[] := by
            generalize hq : N.toList = q at hnew
            cases hnew
            exact harr hq
          rw [hO2] at hO
          rw [hN2] at hN
          refine ⟨w, .tuple #[.bool false], ?_, .of_plain rfl, .refl t⟩
          simp only [Instr.next, Sem.run_bind, hg, run_getMap k1, Result.andThen_ok, hall, Bool.false_eq_true, if_false, hO, hN, run_choose]
          simp [Question.forced]
        · rename_i e
          cases hte : isTuple e.val with
          | true => simp [hte] at hr
          | false =>
            simp only [hte, cond_false, Option.some.injEq, Prod.mk.injEq] at hr
            obtain ⟨rfl, rfl⟩ := hr
            obtain ⟨e', hO2, hE⟩ : ∃ e', O = #[e'] ∧ ER ρ e e' := by
              generalize hq : O.toList = q at hold
              cases hold with
              | cons h1 h2 =>
                cases h2
                exact ⟨_, harr hq, h1⟩
            have hN2 : N = #[] := by
              generalize hq : N.toList = q at hnew
              cases hnew
              exact harr hq
            rw [hO2] at hO
            rw [hN2] at hN
            refine ⟨{ w with heap := w.heap.setIfInBounds L.block (.mapIter (some Lm.block) since (seen.push e'.born) ck) }, .tuple #[.bool true, e'.key, e'.val], ?_, ?_, ?_⟩
            · have hset : (setObj L.block (.mapIter (some Lm.block) since (seen.push e'.born) ck)).run P w = .ok () { w with heap := w.heap.setIfInBounds L.block (.mapIter (some Lm.block) since (seen.push e'.born) ck) } := by
                simp [setObj, Sem.run, p3]
              simp only [Instr.next, Sem.run_bind, hg, run_getMap k1, Result.andThen_ok, hall, Bool.false_eq_true, if_false, hO, hN, run_choose]
              simp [Question.forced, hset]
            · refine .tuple (.cons (.s (.same rfl)) (.cons ?_ (.cons (hE.val.av hte) .nil)))
              rw [hE.key]
              exact (VR.of_plain (keyOk_p hE.plain)).av (keyOk_t hE.plain)
            · refine out_set t (by rw [ho]; rfl) p1 _ _ ?_ rfl rfl rfl rfl
              intro x hx
              cases hx
              rw [hE.born]
              have : (⟨seen.toList ++ [e.born]⟩ : Array Nat) = seen.push e.born := by apply Array.ext'; simp
              rw [this]
              exact .iter p4 p2
        · cases hr
    · cases hr
end
end Go.Ev
namespace Go.Ev
open Go
section
variable {P : Program} {ρ ρ' : Ren} {B : Nat} {h h' : H} {w w' : World} {g : Tr Value} {n : Nat} {a : Act}

theorem find_all2 {es es' : List MapEntry} (hA : All2 (ER ρ) es es') (p : Nat → Bool) {e : MapEntry} (he : es.find? (fun e => p e.born) = some e) : ∃ e', es'.find? (fun e => p e.born) = some e' ∧ ER ρ e e' := by
  induction hA with
  | nil => simp at he
  | cons h0 hs ih =>
    simp only [List.find?_cons] at he ⊢
    rw [h0.born]
    split at he
    · cases he; exact ⟨_, rfl, h0⟩
    · exact ih he
theorem stepE_sound (t : WR P ρ h B w) {x x' v : Value} (hx : VR ρ x x') (hr : stepE h x = some v) : ∃ v', (Instr.entry x').run P w = .ok v' w ∧ VR ρ v v' := by
  unfold stepE at hr
  split at hr
  case h_2 => cases hr
  rename_i ad
  cases hb : (Nat.beq ad.off 0 && ad.spot.isNone) with
  | false => simp [hb] at hr
  | true =>
    simp only [hb, cond_true] at hr
    simp only [Bool.and_eq_true] at hb
    have h0 := nbeq_e hb.1
    obtain ⟨y, rfl, hA⟩ := hx.ptr
    split at hr
    case h_2 => cases hr
    rename_i m since seen stepped ho
    obtain ⟨L, Lm, p1, rfl, p2, p3, p4⟩ := iter_of t ho hA h0
    split at hr
    case h_2 => cases hr
    rename_i st es ck hst hm
    obtain ⟨es', k1, k2, k3⟩ := map_of t hm p2
    cases hc : Nat.beq ck stepped with
    | false => simp [hc] at hr
    | true =>
      simp only [hc, cond_true] at hr
      have hc := nbeq_e hc
      subst hc
      split at hr
      case h_2 => cases hr
      rename_i e he
      cases hte : isTuple e.val with
      | true => simp [hte] at hr
      | false =>
        simp only [hte, cond_false, Option.some.injEq] at hr
        subst hr
        obtain ⟨e', he', hE⟩ := find_all2 k2 (fun b => b == st) he
        have hg : (getObj L.block).run P w = .ok (.mapIter (some Lm.block) since seen ck) w := by simp [getObj, Sem.run, p3]
        have hbk : seen.back? = some st := by rw [← hst]; simp
        have hfind : es'.find? (fun x => x.born == st) = some e' := by rw [← he', ← List.find?_toArray]
        refine ⟨.tuple #[e'.key, e'.val], by simp [Instr.entry, hg, hbk, run_getMap k1, hfind], .tuple (.cons ?_ (.cons (hE.val.av hte) .nil))⟩
        rw [hE.key]
        exact (VR.of_plain (keyOk_p hE.plain)).av (keyOk_t hE.plain)
theorem lenE_sound (t : WR P ρ h B w) {at_ : Array TypeId} {ty : TypeId} {vs : List Value} {vs' : Array Value} {v : Value} (hv : All2 (VR ρ) vs vs'.toList) (hr : lenE P at_ ty h vs = some v) :
    (Builtin.len_ at_ ty vs').run P w = .ok v w ∧ plainV v = true := by
  unfold lenE at hr
  split at hr
  · rename_i b l c
    obtain ⟨x', hvs⟩ : ∃ x', vs' = #[x'] ∧ VR ρ (.slice b l c) x' := by
      generalize hq : vs'.toList = q at hv
      cases hv with
      | cons h1 h2 => cases h2; exact ⟨_, by rw [← Array.toList_inj, hq], h1⟩
    obtain ⟨rfl, hx⟩ := hvs
    split at hr
    case h_2 => cases hr
    rename_i e hu
    simp only [Option.some.injEq] at hr
    subst hr
    rw [Option.bind_eq_some_iff] at hu
    obtain ⟨t0, ht0, hu⟩ := hu
    refine ⟨?_, rfl⟩
    rcases hx.sliceI with ⟨rfl, rfl, rfl, rfl⟩ | ⟨rfl, rfl, rfl, b', c', rfl⟩ | ⟨x, y, c', rfl, rfl, _⟩ <;> simp [Builtin.len_, ht0, run_underlying hu]
  · rename_i r
    obtain ⟨x', hvs⟩ : ∃ x', vs' = #[x'] ∧ VR ρ (.map (some r)) x' := by
      generalize hq : vs'.toList = q at hv
      cases hv with
      | cons h1 h2 => cases h2; exact ⟨_, by rw [← Array.toList_inj, hq], h1⟩
    obtain ⟨rfl, hx⟩ := hvs
    split at hr
    case h_2 => cases hr
    rename_i K E es ck hu hm
    simp only [Option.some.injEq] at hr
    subst hr
    rw [Option.bind_eq_some_iff] at hu
    obtain ⟨t0, ht0, hu⟩ := hu
    obtain ⟨L, rfl, hL⟩ := hx.mapS
    obtain ⟨es', k1, k2, k3⟩ := map_of t hm hL
    refine ⟨?_, rfl⟩
    have := k2.length
    simp at this
    simp [Builtin.len_, ht0, run_underlying hu, run_getMap k1, this]
  · cases hp : allPlain vs with
    | false => simp [hp] at hr
    | true =>
      simp only [hp, cond_true] at hr
      have hvs : vs'.toList = vs := by
        clear hr t
        rename_i x1 x2
        clear x1 x2
        generalize vs'.toList = q at hv
        induction hv with
        | nil => rfl
        | cons h0 _ ih =>
          simp only [allPlain, Bool.and_eq_true] at hp
          rw [h0.plain hp.1, ih hp.2]
      have hvs' : vs' = ⟨vs⟩ := by rw [← hvs]
      split at hr
      · rename_i u hq
        cases hpu : plainV u with
        | false => simp [hpu] at hr
        | true =>
          simp only [hpu, cond_true, Option.some.injEq] at hr
          subst hr
          rw [hvs']
          exact ⟨prun_run hq w, hpu⟩
      · cases hr
theorem allPlain_eq {vs : List Value} {vs' : Array Value} (hv : All2 (VR ρ) vs vs'.toList) (hp : allPlain vs = true) : vs' = ⟨vs⟩ := by
  have : vs'.toList = vs := by
    generalize vs'.toList = q at hv
    induction hv with
    | nil => rfl
    | cons h0 _ ih =>
      simp only [allPlain, Bool.and_eq_true] at hp
      rw [h0.plain hp.1, ih hp.2]
  rw [← this]
theorem plE_some {r : Option Value} {v : Value} (hr : plE r h = some (v, h')) : r = some v ∧ plainV v = true ∧ h' = h := by
  unfold plE at hr
  cases r with
  | none => simp at hr
  | some u =>
    cases hp : plainV u with
    | false => simp [hp] at hr
    | true => simp only [hp, cond_true, Option.some.injEq, Prod.mk.injEq] at hr; obtain ⟨rfl, rfl⟩ := hr; exact ⟨rfl, hp, rfl⟩

/-! ### append, copy, clear -/
theorem extract_bytes (st : ByteArray) (k : Nat) : ((st.extract 0 k).data.map fun b : UInt8 => Value.int .u8 b.toNat).toList = (strBytes st).take k := by
  simp [strBytes, List.extract]
theorem srcE_sound (t : WR P ρ h B w) {size m : Nat} {x x' : Value} {new : List Value} (hx : VR ρ x x') (hs : srcE h size x = some (m, new)) :
    (∀ w : World, (Builtin.lenOf x').run P w = .ok m w) ∧ new.length = m * size ∧
    ∀ k, k ≤ m → ∃ cs', (Builtin.firstCells size k x').run P w = .ok cs' w ∧ All2 (SV ρ) (new.take (k * size)) cs'.toList := by
  unfold srcE at hs
  split at hs
  · rename_i l c
    cases hb : Nat.beq l 0 with
    | false => simp [hb] at hs
    | true =>
      simp only [hb, cond_true, Option.some.injEq, Prod.mk.injEq] at hs
      obtain ⟨rfl, rfl⟩ := hs
      have := nbeq_e hb; subst this
      refine ⟨fun w => ?_, by simp, fun k hk => ?_⟩
      · rcases hx.sliceI with ⟨_, _, _, rfl⟩ | ⟨_, _, _, b', c', rfl⟩ | ⟨_, _, _, hh, _⟩
        · rfl
        · rfl
        · cases hh
      · obtain rfl : k = 0 := by omega
        refine ⟨#[], ?_, by simp; exact .nil⟩
        rcases hx.sliceI with ⟨_, _, _, rfl⟩ | ⟨_, _, _, b', c', rfl⟩ | ⟨_, _, _, hh, _⟩
        · rfl
        · cases b' with
          | none => rfl
          | some y => simp [Builtin.firstCells, loadCells, loadCellsFrom]
        · cases hh
  · rename_i ad l c
    split at hs
    case h_2 => cases hs
    rename_i cs hcut
    simp only [Option.some.injEq, Prod.mk.injEq] at hs
    obtain ⟨rfl, rfl⟩ := hs
    have hlen := rcut_length hcut
    rcases hx.sliceI with ⟨hh, _⟩ | ⟨hh, _⟩ | ⟨x0, y, c', hh, rfl, hA, _⟩
    · cases hh
    · cases hh
    · cases hh
      refine ⟨fun _ => rfl, hlen, fun k hk => ?_⟩
      exact rcut_sound t (rcut_take hcut (k * size) (Nat.mul_le_mul_right _ hk)) hA
  · rename_i st
    cases hb : Nat.beq size 1 with
    | false => simp [hb] at hs
    | true =>
      have := nbeq_e hb; subst this
      simp only [hb, cond_true, Option.some.injEq, Prod.mk.injEq] at hs
      obtain ⟨rfl, rfl⟩ := hs
      rw [hx.str]
      refine ⟨fun _ => rfl, by simp [strBytes_length], fun k hk => ⟨_, rfl, ?_⟩⟩
      rw [extract_bytes, Nat.mul_one]
      exact (all2_of_plain (strBytes_plain st)).take _
  · cases hs
end
end Go.Ev
namespace Go.Ev
open Go
section
variable {P : Program} {ρ ρ' : Ren} {B : Nat} {h h' : H} {w w' : World} {g : Tr Value} {n : Nat} {a : Act}

theorem zerosE_run {at_ : Array TypeId} (hz : zerosE P at_ = some false) : (at_[1]? = none) ∨ (∃ xt d, at_[1]? = some xt ∧ P.underlying xt = some d ∧ isIntD d = false) := by
  unfold zerosE at hz
  cases ha : at_[1]? with
  | none => exact .inl rfl
  | some xt =>
    simp only [ha, Option.map_eq_some_iff] at hz
    obtain ⟨d, h1, h2⟩ := hz
    exact .inr ⟨xt, d, rfl, h1, h2⟩
theorem isInt_not {d : TypeDesc} (h : isIntD d = false) : ∀ k, d = .int k → False := by rintro k rfl; cases h
theorem growBy_le (newLen : Nat) : ∀ (r c : Nat), c ≤ newLen → Builtin.growBy newLen r c ≤ newLen + (newLen + 768) / 4
  | 0, c, h => by simp only [Builtin.growBy]; omega
  | r + 1, c, h => by
    simp only [Builtin.growBy]
    split
    · omega
    · by_cases h2 : c + (c + 768) / 4 ≤ newLen
      · exact growBy_le newLen r _ h2
      · cases r with
        | zero => simp only [Builtin.growBy]; omega
        | succ r => simp only [Builtin.growBy]; rw [if_pos (by omega)]; omega
theorem nextcap_le {need cap : Nat} (h : cap < need) : Builtin.nextslicecap need cap ≤ need * 4 + 1000 := by
  unfold Builtin.nextslicecap
  split
  · omega
  · split
    · omega
    · have := growBy_le need 4 cap (by omega); omega
theorem zeroCells_eq (z : Array Value) (k : Nat) : (Builtin.zeroCells z k).toList = repL z.toList k := range_map_eq z k
/-- append, as the model runs it: within the capacity. -/
theorem run_append_in {at_ : Array TypeId} {ty sT elem : TypeId} {size m sLen sCap : Nat} {y : Option Addr} {x' : Value} {cs' : Array Value} (h0 : at_[0]? = some sT) (hu : P.underlying sT = some (.slice elem)) (hs : sizeT P elem = some size)
    (hz : zerosE P at_ = some false) (hn : ∀ w : World, (Builtin.lenOf x').run P w = .ok m w) (hc : (Builtin.firstCells size m x').run P w = .ok cs' w) (hin : sLen + m ≤ sCap)
    (hst : (match y with | some a => storeCells (a.add (sLen * size)) cs'.toList | none => pure ()).run P w = .ok () w') :
    (Builtin.append_ at_ ty #[.slice y sLen sCap, x']).run P w = .ok (.slice y (sLen + m) sCap) w' := by
  rcases zerosE_run hz with h1 | ⟨xt, d, h1, hd, hi⟩
  · cases y with
    | none =>
      simp only [Sem.run_pure, Result.ok.injEq, true_and] at hst; subst hst
      simp [Builtin.append_, h0, h1, run_underlying hu, run_sizeT hs, hn, hin, hc]
    | some a => simp [Builtin.append_, h0, h1, run_underlying hu, run_sizeT hs, hn, hin, hc, hst]
  · have hi' := isInt_not hi
    cases y with
    | none =>
      simp only [Sem.run_pure, Result.ok.injEq, true_and] at hst; subst hst
      simp [Builtin.append_, h0, h1, run_underlying hu, run_underlying hd, run_sizeT hs, hn, hin, hc]
    | some a => simp [Builtin.append_, h0, h1, run_underlying hu, run_underlying hd, run_sizeT hs, hn, hin, hc, hst]
/-- append, as the model runs it: a new row. -/
theorem run_append_out {at_ : Array TypeId} {ty sT elem : TypeId} {info : TypeInfo} {zv : Value} {m sLen sCap : Nat} {y : Option Addr} {x' : Value} {os' cs' : Array Value} (h0 : at_[0]? = some sT) (hu : P.underlying sT = some (.slice elem)) (hi0 : P.info? elem = some info)
    (hzv : zeroT P elem = some zv) (hz : zerosE P at_ = some false) (hn : ∀ w : World, (Builtin.lenOf x').run P w = .ok m w) (ho : (Builtin.firstCells info.size sLen (.slice y sLen sCap)).run P w.drew = .ok os' w.drew)
    (hc : (Builtin.firstCells info.size m x').run P w.drew = .ok cs' w.drew) (hin : ¬ sLen + m ≤ sCap) (hby : info.bytes ≠ 0) (hcap : Builtin.nextslicecap (sLen + m) sCap * info.bytes ≤ 2 ^ 48) :
    ∃ nc, sLen + m ≤ nc ∧ (Builtin.append_ at_ ty #[.slice y sLen sCap, x']).run P w = .ok (.slice (some ⟨w.heap.size, 0, none⟩) (sLen + m) nc)
      (w.drew.alloc (.cells (os' ++ cs' ++ Builtin.zeroCells zv.cells (nc - (sLen + m))) elem)) := by
  let nc := (Question.appendCap (sLen + m) sCap elem).cut (w.tape w.drawn (.appendCap (sLen + m) sCap elem))
  have hs : sizeT P elem = some info.size := by simp [sizeT, hi0]
  refine ⟨nc, by simp only [nc, Question.cut]; omega, ?_⟩
  have hcap' : ¬ Builtin.nextslicecap (sLen + m) sCap * info.bytes > 2 ^ 48 := by omega
  have hnc : (Question.appendCap (sLen + m) sCap elem).cut (w.tape w.drawn (.appendCap (sLen + m) sCap elem)) = nc := rfl
  rcases zerosE_run hz with h1 | ⟨xt, d, h1, hd, hi⟩
  · simp [Builtin.append_, h0, h1, run_underlying hu, run_sizeT hs, hn, hin, run_typeInfo _ hi0, hby, hcap', Question.forced, hnc, ho, hc, run_zeroT hzv, newRow]
  · have hi' := isInt_not hi
    simp [Builtin.append_, h0, h1, run_underlying hu, run_underlying hd, run_sizeT hs, hn, hin, run_typeInfo _ hi0, hby, hcap', Question.forced, hnc, ho, hc, run_zeroT hzv, newRow]
end
end Go.Ev
namespace Go.Ev
open Go
section
variable {P : Program} {ρ ρ' : Ren} {B : Nat} {h h' : H} {w w' : World} {g : Tr Value} {n : Nat} {a : Act}

theorem setMany_over (D : List Value) : ∀ (k : Nat) (vs : List Value), k + vs.length ≤ D.length → (setMany D k vs).take (k + vs.length) = D.take k ++ vs := by
  induction D with
  | nil => intro k vs hk; cases vs <;> cases k <;> simp_all [setMany]
  | cons x l ih =>
    intro k vs hk
    cases vs with
    | nil => simp
    | cons v vs =>
      cases k with
      | zero =>
        have := ih 0 vs (by simpa using hk)
        simp only [Nat.zero_add, List.take_zero, List.nil_append] at this
        simp [setMany, this]
      | succ k =>
        have := ih k (v :: vs) (by simp at hk ⊢; omega)
        simp only [setMany]
        rw [show k + 1 + (v :: vs).length = (k + (v :: vs).length) + 1 by omega, List.take_succ_cons, this]
        simp
theorem WR.drew (t : WR P ρ h B w) : WR P ρ h B w.drew := t.of_heap rfl
theorem appendE_sound (t : WR P ρ h B w) (hB : B ≤ w.heap.size) {at_ : Array TypeId} {ty : TypeId} {s s' x x' v : Value} (hs : VR ρ s s') (hx : VR ρ x x') (hr : appendE P at_ h s x = some (v, h')) :
    ∃ w' v' ρ', (Builtin.append_ at_ ty #[s', x']).run P w = .ok v' w' ∧ VR ρ' v v' ∧ Out P B ρ h w ρ' h' w' := by
  unfold appendE at hr
  split at hr
  case h_2 => cases hr
  rename_i sT base sLen acap h0
  split at hr
  case h_2 => cases hr
  rename_i elem hu
  split at hr
  case h_2 => cases hr
  rename_i info z hi0 hzc hz
  split at hr
  case h_2 => cases hr
  rename_i m new hsrc
  obtain ⟨zv, hzv, hzz, hzp⟩ := zcells_run hzc
  have hsz : sizeT P elem = some info.size := by simp [sizeT, hi0]
  obtain ⟨q1, q2, q3⟩ := srcE_sound t hx hsrc
  obtain ⟨cs', c1, c2⟩ := q3 m (Nat.le_refl m)
  rw [← q2, List.take_length] at c2
  by_cases hm : m = 0
  · subst hm
    simp only [nat_beq_self, cond_true, Option.some.injEq, Prod.mk.injEq] at hr
    obtain ⟨rfl, rfl⟩ := hr
    have hcs : cs' = #[] := by
      have := c2.length
      rw [q2] at this
      exact Array.eq_empty_of_size_eq_zero (by simpa using this.symm)
    subst hcs
    have key : ∀ (y : Option Addr) (c' : Nat), sLen ≤ c' → (Builtin.append_ at_ ty #[.slice y sLen c', x']).run P w = .ok (.slice y sLen c') w := fun y c' hle => by
      have := run_append_in (ty := ty) (y := y) (sLen := sLen) (sCap := c') (m := 0) (w' := w) h0 hu hsz hz q1 c1 (by omega) (by cases y <;> rfl)
      simpa using this
    rcases hs.sliceI with ⟨rfl, rfl, rfl, rfl⟩ | ⟨rfl, rfl, rfl, b', c', rfl⟩ | ⟨xa, y, c', rfl, rfl, _, hle, _⟩
    · exact ⟨w, _, ρ, key none 0 (Nat.le_refl _), hs, .refl t⟩
    · exact ⟨w, _, ρ, key b' c' (Nat.zero_le _), hs, .refl t⟩
    · exact ⟨w, _, ρ, key (some y) c' hle, hs, .refl t⟩
  · rw [nbeq_f hm] at hr
    simp only [cond_false] at hr
    cases hb : (Nat.ble (((sLen + m) * 4 + 1000) * info.bytes) 1099511627776 && Nat.ble (sLen + m) 4294967296 && Nat.blt 0 info.bytes && Nat.beq z.length info.size && Nat.blt 0 m) with
    | false => simp [hb] at hr
    | true =>
      simp only [hb, cond_true] at hr
      simp only [Bool.and_eq_true] at hb
      obtain ⟨⟨⟨⟨b1, b2⟩, b3⟩, b4⟩, b5⟩ := hb
      have b1 := nble_e b1
      have b3 := nblt_e b3
      have b4 := nbeq_e b4
      have hcapb : ∀ c', ¬ sLen + m ≤ c' → Builtin.nextslicecap (sLen + m) c' * info.bytes ≤ 2 ^ 48 := fun c' hlt => by
        have h1 := nextcap_le (by omega : c' < sLen + m)
        have h2 : Builtin.nextslicecap (sLen + m) c' * info.bytes ≤ ((sLen + m) * 4 + 1000) * info.bytes := Nat.mul_le_mul_right _ h1
        omega
      have hzl : zv.cells.size = info.size := by rw [← b4, ← hzz]; simp
      -- a new row
      have grow : ∀ {hh : H} (tt : WR P ρ hh B w) {y : Option Addr} {c' : Nat} {old : List Value} {os' : Array Value}, ¬ sLen + m ≤ c' → old.length = sLen * info.size →
          (Builtin.firstCells info.size sLen (.slice y sLen c')).run P w.drew = .ok os' w.drew → All2 (SV ρ) old os'.toList → sliE (newE P hh (old ++ new) elem) (sLen + m) 1 = some (v, h') →
          ∃ w' v' ρ', (Builtin.append_ at_ ty #[.slice y sLen c', x']).run P w = .ok v' w' ∧ VR ρ' v v' ∧ Out P B ρ hh w ρ' h' w' := by
        intro hh tt y c' old os' hlt hol ho hall hsl
        obtain ⟨cs2, d1, d2⟩ := (srcE_sound t.drew hx hsrc).2.2 m (Nat.le_refl m)
        rw [← q2, List.take_length] at d2
        obtain ⟨nc, n1, n2⟩ := run_append_out (ty := ty) h0 hu hi0 hzv hz q1 ho d1 hlt (by omega) (hcapb c' hlt)
        have hl1 := hall.length
        have hl2 := d2.length
        obtain ⟨ρ', r1, r2⟩ := s_sli (extra := (Builtin.zeroCells zv.cells (nc - (sLen + m))).toList) (cs' := os'.toList ++ cs2.toList) (c' := nc) (fr := (0, 0)) (dr := w.drawn + 1) tt hB hsz hsl (hall.append d2) nofr n1 (by simp) (by
          rw [zeroCells_eq, List.length_append, List.length_append, repL_length, ← hl1, ← hl2, hol, q2]
          simp only [Array.length_toList, hzl]
          rw [← Nat.add_mul, ← Nat.add_mul]
          exact Nat.mul_le_mul_right _ (by omega))
        refine ⟨_, _, ρ', n2, r1, ?_⟩
        have : w.drew.alloc (.cells (os' ++ cs2 ++ Builtin.zeroCells zv.cells (nc - (sLen + m))) elem) =
            { w with heap := w.heap.push (.cells ⟨(os'.toList ++ cs2.toList) ++ (Builtin.zeroCells zv.cells (nc - (sLen + m))).toList⟩ elem (0, 0)), drawn := w.drawn + 1 } := by
          simp only [World.alloc, World.drew]
          congr 3
          apply Array.ext'
          simp
        rw [this]; exact r2
      split at hr
      · cases hbb : (Nat.beq sLen 0 && Nat.beq acap 0) with
        | false => simp [hbb] at hr
        | true =>
          simp only [hbb, cond_true] at hr
          simp only [Bool.and_eq_true] at hbb
          have e1 := nbeq_e hbb.1
          have e2 := nbeq_e hbb.2
          subst e1
          subst e2
          rcases hs.sliceI with ⟨_, _, _, rfl⟩ | ⟨_, _, hh, _⟩ | ⟨_, _, _, hh, _⟩
          · exact grow (old := []) (os' := #[]) t (by omega) (by simp) rfl .nil (by simpa using hr)
          · cases hh
          · cases hh
      · rename_i ad
        split at hr
        case h_2 =>
          cases hbb : (Nat.beq sLen 0 && Nat.beq acap 0) with
          | false => simp [hbb] at hr
          | true =>
            simp only [hbb, cond_true] at hr
            simp only [Bool.and_eq_true] at hbb
            have e1 := nbeq_e hbb.1
            have e2 := nbeq_e hbb.2
            subst e1
            subst e2
            rcases hs.sliceI with ⟨hh, _⟩ | ⟨hh, _⟩ | ⟨xa, y, c', hh, rfl, hA, hle, hc0, hroom⟩
            · cases hh
            · cases hh
            · cases hh
              have hc' := hc0 rfl
              subst hc'
              exact grow (y := some y) (old := []) (os' := #[]) t (by omega) (by simp) (by simp [Builtin.firstCells, loadCells, loadCellsFrom]) .nil (by simpa using hr)
        rename_i l e hc
        cases hbb : (Nat.beq e elem && (Nat.beq acap 1 || Nat.beq acap 0)) with
        | false => simp [hbb] at hr
        | true =>
          simp only [hbb, cond_true] at hr
          simp only [Bool.and_eq_true, Bool.or_eq_true] at hbb
          have e1 := nbeq_e hbb.1
          subst e1
          split at hr
          case h_2 => cases hr
          rename_i old hcut
          obtain ⟨hco, hol⟩ := cut_some hcut
          rcases hs.sliceI with ⟨hh, _⟩ | ⟨hh, _⟩ | ⟨xa, y, c', hh, rfl, hA, hle, hc0, hroom⟩
          · cases hh
          · cases hh
          · cases hh
            obtain ⟨L, cc, fr', kk⟩ := cells_of t hc hA
            obtain ⟨L2, cc2, fr2, kk2⟩ := cells_of t.drew hc hA
            obtain ⟨os', o1, o2⟩ := kk2.load hcut
            by_cases h00 : acap = 0
            · subst h00
              have hc' := hc0 rfl
              subst hc'
              obtain rfl : sLen = 0 := by omega
              simp only [nat_beq_self, Bool.and_self, cond_true] at hr
              exact grow t (by omega) hol o1 o2 hr
            · have hac : acap = 1 := by
                rcases hbb.2 with hh | hh
                · exact nbeq_e hh
                · exact absurd (nbeq_e hh) h00
              subst hac
              have hroom' := hroom rfl L kk.loc
              have hnb : (Nat.beq 1 0 && Nat.beq sLen 0) = false := rfl
              simp only [hnb, cond_false] at hr
              by_cases hin : sLen + m ≤ c'
              · -- within the capacity: the same block
                have hes : L.es = info.size := by
                  have := kk.es
                  simp [hi0] at this
                  exact this.symm
                have hcut' := hcut
                have hlen := kk.len
                have hcl := c2.length
                have hslen : sLen * info.size + new.length ≤ c' * info.size := by
                  rw [q2, ← Nat.add_mul]; exact Nat.mul_le_mul_right _ hin
                rw [hes] at hroom'
                have hone : ∀ u ∈ cs'.toList, u.oneCell' = true := by
                  intro u hu
                  obtain ⟨i, hi, rfl⟩ := List.mem_iff_getElem.1 hu
                  have : i < new.length := by omega
                  obtain ⟨u', hu', hs'⟩ := c2.get (List.getElem?_eq_getElem this)
                  rw [List.getElem?_eq_getElem hi] at hu'; cases hu'
                  exact hs'.oneCell
                have hyy : y.add (sLen * info.size) = ⟨L.block, L.delta + ad.off + sLen * info.size, none⟩ := by rw [kk.addr, addr_add]
                have hst : (storeCells (y.add (sLen * info.size)) cs'.toList).run P w = .ok () { w with heap := w.heap.setIfInBounds L.block (.cells ⟨setMany cc.toList (L.delta + ad.off + sLen * info.size) cs'.toList⟩ e fr') } := by
                  rw [hyy]
                  have := run_storeCells_blk (P := P) L.block (L.delta + ad.off + sLen * info.size) e fr' cs'.toList 0 cc w kk.heap (by have := kk.size; omega) hone kk.froz
                  simpa using this
                have hrun := run_append_in (ty := ty) (y := some y) (w' := { w with heap := w.heap.setIfInBounds L.block (.cells ⟨setMany cc.toList (L.delta + ad.off + sLen * info.size) cs'.toList⟩ e fr') }) h0 hu hsz hz q1 c1 hin hst
                -- the new object
                have hnew : newE P (h.set ad.block none) (old ++ new) e = some (⟨h.next, 0, none⟩, ((h.set ad.block none).new (.o (.cells ⟨old ++ new⟩ e))).2) := by
                  unfold newE
                  simp [hsz, new_eq, H.set]
                unfold sliE at hr
                simp only [hnew, Option.some.injEq, Prod.mk.injEq] at hr
                obtain ⟨rfl, rfl⟩ := hr
                have hold2 : All2 (SV ρ) old ((cc.toList.drop (L.delta + ad.off)).take (sLen * info.size)) := by
                  have h1 := (kk.all.drop ad.off).take (sLen * info.size)
                  rw [← hco] at h1
                  have h2 : (((cc.toList.drop L.delta).take l.length).drop ad.off).take (sLen * info.size) = (cc.toList.drop (L.delta + ad.off)).take (sLen * info.size) := by
                    have hl1 : sLen * info.size ≤ l.length - ad.off := by
                      rw [← hol, hco]; simp; omega
                    rw [List.drop_take, List.take_take, Nat.min_eq_left hl1, List.drop_drop]
                  rwa [h2] at h1
                have ho := out_move (L' := ⟨L.block, L.delta + ad.off, L.size, L.es⟩) (o := .o (.cells ⟨old ++ new⟩ e)) (ob := .cells ⟨setMany cc.toList (L.delta + ad.off + sLen * info.size) cs'.toList⟩ e fr') t kk.live kk.loc rfl ?_
                  (w' := { w with heap := w.heap.setIfInBounds L.block (.cells ⟨setMany cc.toList (L.delta + ad.off + sLen * info.size) cs'.toList⟩ e fr') }) rfl rfl rfl rfl
                · refine ⟨_, _, _, hrun, .s (.slice (a := ⟨h.next, 0, none⟩) (b := y) ⟨rfl, ⟨L.block, L.delta + ad.off, L.size, L.es⟩, by simp [upd], ?_⟩ hin (by simp) ?_), ho⟩
                  · rw [kk.addr]; simp
                  · intro _ L3 hL3
                    simp [upd] at hL3
                    subst hL3
                    simp only [hes]
                    omega
                · have hks := kk.size
                  refine .cells (by simp [hks]) ?_ ?_ kk.es (by simpa using kk.froz)
                  · simp only [List.size_toArray, List.length_append, setMany_length, Array.length_toList]
                    omega
                  · simp only
                    rw [setMany_drop, List.size_toArray, List.length_append]
                    have e5 : ((cc.toList.drop (L.delta + ad.off))).length ≥ sLen * info.size + new.length := by simp; omega
                    have hcl2 := c2.length
                    have hof : sLen * info.size = old.length := hol.symm
                    have := setMany_over (cc.toList.drop (L.delta + ad.off)) (sLen * info.size) cs'.toList (by omega)
                    rw [hof, ← hcl2] at this
                    rw [hof, this, ← hof]
                    exact hold2.append c2
              · have tk := out_kill t ad.block
                obtain ⟨w', v', ρ', g1, g2, g3⟩ := grow (y := some y) (c' := c') tk.wr hin hol o1 o2 hr
                exact ⟨w', v', ρ', g1, g2, tk.trans t g3⟩
end
end Go.Ev
namespace Go.Ev
open Go
section
variable {P : Program} {ρ ρ' : Ren} {B : Nat} {h h' : H} {w w' : World} {g : Tr Value} {n : Nat} {a : Act}

theorem all2_nil_arr {cs' : Array Value} {l : List Value} (h : All2 (SV ρ) l cs'.toList) (h0 : l.length = 0) : cs' = #[] := by
  have := h.length
  exact Array.eq_empty_of_size_eq_zero (by simpa [h0] using this.symm)
theorem copyE_sound (t : WR P ρ h B w) {at_ : Array TypeId} {ty : TypeId} {d d' x x' v : Value} (hd : VR ρ d d') (hx : VR ρ x x') (hr : copyE P at_ h d x = some (v, h')) :
    ∃ w' v', (Builtin.copy_ at_ ty #[d', x']).run P w = .ok v' w' ∧ VR ρ v v' ∧ Out P B ρ h w ρ h' w' := by
  unfold copyE at hr
  split at hr
  case h_2 => cases hr
  rename_i dT base dLen c h0
  split at hr
  case h_2 => cases hr
  rename_i elem hu
  split at hr
  case h_2 => cases hr
  rename_i size hs
  split at hr
  case h_2 => cases hr
  rename_i m new hsrc
  obtain ⟨q1, q2, q3⟩ := srcE_sound t hx hsrc
  simp only at hr
  obtain ⟨cs', c1, c2⟩ := q3 (Nat.min m dLen) (Nat.min_le_left _ _)
  by_cases hm : Nat.min m dLen = 0
  · rw [nbeq_t hm] at hr
    simp only [cond_true, Option.some.injEq, Prod.mk.injEq] at hr
    obtain ⟨rfl, rfl⟩ := hr
    have hcs : cs' = #[] := all2_nil_arr c2 (by simp [hm])
    subst hcs
    rw [hm] at c1
    refine ⟨w, goInt 0, ?_, .of_plain rfl, .refl t⟩
    rcases hd.sliceI with ⟨rfl, rfl, rfl, rfl⟩ | ⟨rfl, rfl, rfl, b', c', rfl⟩ | ⟨xa, y, c', rfl, rfl, _⟩
    · simp [Builtin.copy_, h0, run_underlying hu, q1, run_sizeT hs, hm, c1]
    · cases b' <;> simp [Builtin.copy_, h0, run_underlying hu, q1, run_sizeT hs, hm, c1, storeCells]
    · simp [Builtin.copy_, h0, run_underlying hu, q1, run_sizeT hs, hm, c1, storeCells]
  · rw [nbeq_f hm] at hr
    simp only [cond_false] at hr
    cases base with
    | none => cases hr
    | some ad =>
      simp only [Option.map_eq_some_iff, Prod.mk.injEq] at hr
      obtain ⟨h2, hl, rfl, rfl⟩ := hr
      rcases hd.sliceI with ⟨hh, _⟩ | ⟨hh, _⟩ | ⟨xa, y, c', hh, rfl, hA, _⟩
      · cases hh
      · cases hh
      · cases hh
        obtain ⟨w2, s1, s2⟩ := layE_sound t hA c2 hl
        refine ⟨w2, _, ?_, .of_plain (v := goInt (Nat.min m dLen)) rfl, s2⟩
        simp [Builtin.copy_, h0, run_underlying hu, q1, run_sizeT hs, c1, s1]
theorem clearE_sound (t : WR P ρ h B w) {at_ : Array TypeId} {ty : TypeId} {x x' v : Value} (hx : VR ρ x x') (hr : clearE P at_ h x = some (v, h')) :
    ∃ w' v', (Builtin.clear_ at_ ty #[x']).run P w = .ok v' w' ∧ VR ρ v v' ∧ Out P B ρ h w ρ h' w' := by
  unfold clearE at hr
  split at hr
  · rename_i l c
    cases hb : ((at_[0]?).bind P.underlying).isSome with
    | false => simp [hb] at hr
    | true =>
      simp only [hb, cond_true, Option.some.injEq, Prod.mk.injEq] at hr
      obtain ⟨rfl, rfl⟩ := hr
      obtain ⟨u, hu⟩ := Option.isSome_iff_exists.1 hb
      rw [Option.bind_eq_some_iff] at hu
      obtain ⟨t0, h0, hu⟩ := hu
      refine ⟨w, .tuple #[], ?_, .of_plain rfl, .refl t⟩
      rcases hx.sliceI with ⟨_, rfl, rfl, rfl⟩ | ⟨_, rfl, rfl, b', c', rfl⟩ | ⟨xa, y, c', hh, _⟩
      · simp [Builtin.clear_, h0, run_underlying hu]
      · cases b' <;> simp [Builtin.clear_, h0, run_underlying hu]
      · cases hh
  · rename_i ad l c
    split at hr
    case h_2 => cases hr
    rename_i elem hu
    rw [Option.bind_eq_some_iff] at hu
    obtain ⟨t0, h0, hu⟩ := hu
    rcases hx.sliceI with ⟨hh, _⟩ | ⟨hh, _⟩ | ⟨xa, y, c', hh, rfl, hA, _⟩
    · cases hh
    · cases hh
    cases hh
    by_cases hl : l = 0
    · subst hl
      simp only [nat_beq_self, cond_true, Option.some.injEq, Prod.mk.injEq] at hr
      obtain ⟨rfl, rfl⟩ := hr
      exact ⟨w, .tuple #[], by simp [Builtin.clear_, h0, run_underlying hu], .of_plain rfl, .refl t⟩
    · rw [nbeq_f hl] at hr
      simp only [cond_false] at hr
      split at hr
      case h_2 => cases hr
      rename_i z hz
      simp only [Option.map_eq_some_iff, Prod.mk.injEq] at hr
      obtain ⟨h2, hl2, rfl, rfl⟩ := hr
      obtain ⟨zv, hzv, hzz, hzp⟩ := zcells_run hz
      obtain ⟨w2, s1, s2⟩ := layE_sound t hA (all2_of_plain (repL_plain hzp l)) hl2
      obtain ⟨l', rfl⟩ : ∃ l', l = l' + 1 := ⟨l - 1, by omega⟩
      refine ⟨w2, .tuple #[], ?_, .of_plain rfl, s2⟩
      have : (Builtin.zeroCells zv.cells (l' + 1)).toList = repL z (l' + 1) := by rw [zeroCells_eq, hzz]
      simp [Builtin.clear_, h0, run_underlying hu, run_zeroT hzv, this, s1]
  · cases hr
theorem all2_two {x y : Value} {vs' : Array Value} (h : All2 (VR ρ) [x, y] vs'.toList) : ∃ x' y', vs' = #[x', y'] ∧ VR ρ x x' ∧ VR ρ y y' := by
  generalize hq : vs'.toList = q at h
  cases h with
  | cons h1 h2 => cases h2 with | cons h3 h4 => cases h4; exact ⟨_, _, by rw [← Array.toList_inj, hq], h1, h3⟩
theorem all2_one {x : Value} {vs' : Array Value} (h : All2 (VR ρ) [x] vs'.toList) : ∃ x', vs' = #[x'] ∧ VR ρ x x' := by
  generalize hq : vs'.toList = q at h
  cases h with
  | cons h1 h2 => cases h2; exact ⟨_, by rw [← Array.toList_inj, hq], h1⟩
theorem builtinE_sound (t : WR P ρ h B w) (hB : B ≤ w.heap.size) {b : Builtin} {at_ : Array TypeId} {ty : TypeId} {cs : Array Bool} {vs : List Value} {vs' : Array Value} {v : Value} (hv : All2 (VR ρ) vs vs'.toList) (hr : builtinE P b at_ ty h vs = some (v, h')) :
    Does P B ρ h w ((builtin b at_ ty cs vs').run P w) v h' := by
  unfold builtinE at hr
  split at hr
  · rename_i s x
    obtain ⟨s', x', rfl, h1, h2⟩ := all2_two hv
    obtain ⟨w', v', ρ', r1, r2, r3⟩ := appendE_sound (ty := ty) t hB h1 h2 hr
    exact does_value (by simp only [builtin]; rw [ex_value, r1]; rfl) r2 r3
  · rename_i d x
    obtain ⟨s', x', rfl, h1, h2⟩ := all2_two hv
    obtain ⟨w', v', r1, r2, r3⟩ := copyE_sound (ty := ty) t h1 h2 hr
    exact does_value (by simp only [builtin]; rw [ex_value, r1]; rfl) r2 r3
  · rename_i x
    obtain ⟨x', rfl, h1⟩ := all2_one hv
    obtain ⟨w', v', r1, r2, r3⟩ := clearE_sound (ty := ty) t h1 hr
    exact does_value (by simp only [builtin]; rw [ex_value, r1]; rfl) r2 r3
  · simp only [Option.map_eq_some_iff, Prod.mk.injEq] at hr
    obtain ⟨u, hu, rfl, rfl⟩ := hr
    obtain ⟨r1, r2⟩ := lenE_sound t hv hu
    exact does_pure t (by simp only [builtin]; rw [ex_value, r1]; rfl) (.of_plain r2)
  · cases hp : allPlain vs with
    | false => simp [hp] at hr
    | true =>
      simp only [hp, cond_true] at hr
      obtain ⟨e1, e2, rfl⟩ := plE_some hr
      rw [allPlain_eq hv hp]
      exact does_pure t (by simp only [builtin]; rw [ex_value, prun_run e1]; rfl) (.of_plain e2)
  · cases hp : allPlain vs with
    | false => simp [hp] at hr
    | true =>
      simp only [hp, cond_true] at hr
      obtain ⟨e1, e2, rfl⟩ := plE_some hr
      rw [allPlain_eq hv hp]
      exact does_pure t (by simp only [builtin]; rw [ex_value, prun_run e1]; rfl) (.of_plain e2)
  · cases hr
end
end Go.Ev
namespace Go.Ev
open Go
section
variable {P : Program} {ρ ρ' : Ren} {B : Nat} {h h' : H} {w w' : World} {g : Tr Value} {n : Nat} {a : Act}

theorem bound_of (tr : TR ρ g n a.tmps) {x : Option Operand} {v : Option Value} (hx : oEval g x = some v) : BoundOK ρ v (x.map a.eval) := by
  have := oEval_sound tr hx
  cases v with
  | none => exact this
  | some u => exact this
theorem parts_of (tr : TR ρ g n a.tmps) {ps : Array (Nat × Operand)} {vs : List (Nat × Value)} (hx : evalP g ps.toList = some vs) : All2 (NV ρ) vs (ps.map fun (i, x) => (i, a.eval x)).toList := by
  have := evalP_sound tr hx
  simpa using this
theorem opE_sound (t : WR P ρ h B w) (hB : B ≤ w.heap.size) (tr : TR ρ g n a.tmps) {o : Oper} {op : Op} {v : Value} (ho : o.op = op) (hr : opE P g h op = some (v, h')) :
    Does P B ρ h w ((execOp a.eval o).run P w) v h' := by
  unfold opE at hr
  split at hr
  · rename_i x
    split at hr
    case h_2 => cases hr
    rename_i u h1
    have h2 := hr
    cases h2
    simp only [execOp, ho, Sem.run_pure]
    exact s_move t tr h1
  · rename_i x
    split at hr
    case h_2 => cases hr
    rename_i u h1
    have h2 := hr
    cases h2
    simp only [execOp, ho, Sem.run_pure]
    exact s_move t tr h1
  · rename_i c x y
    split at hr
    case h_2 => cases hr
    rename_i b hc
    split at hr
    case h_2 => cases hr
    rename_i u h1
    have h2 := hr
    cases h2
    have hcb := (evalO_sound tr hc).bool
    simp only [execOp, ho, hcb, asBool, Sem.run_bind, Sem.run_pure, Result.andThen_ok]
    cases b with
    | true => simp only [cond_true] at h1; simpa using s_move t tr h1
    | false => simp only [cond_false] at h1; simpa using s_move t tr h1
  · rename_i e
    split at hr
    case h_2 => cases hr
    rename_i z h1
    have h2 := hr
    simp only [execOp, ho]
    exact s_alloc t hB h1 h2
  · rename_i e x
    split at hr
    case h_2 => cases hr
    rename_i u h1
    have h2 := hr
    cases hn : isTuple u with
    | true => simp [hn] at h2
    | false =>
      simp only [hn, cond_false] at h2
      simp only [execOp, ho]
      exact s_box t hB (evalO_sound tr h1) hn h2
  · rename_i ty ps
    split at hr
    · rename_i vs z fs e1 e2 e3
      split at hr
      case h_2 => cases hr
      rename_i pl h1
      have h2 := hr
      split at h2
      case h_2 => cases h2
      rename_i cs h3
      have h4 := h2
      cases h4
      simp only [execOp, ho]
      exact s_build_struct t (parts_of tr e1) e2 e3 h1 h3
    · rename_i vs z m e e1 e2 e3
      split at hr
      case h_2 => cases hr
      rename_i s h1
      have h2 := hr
      split at h2
      case h_2 => cases h2
      rename_i cs h3
      have h4 := h2
      cases h4
      simp only [execOp, ho]
      exact s_build_array t (parts_of tr e1) e2 e3 h1 h3
    · cases hr
  · rename_i ty m ps
    split at hr
    case h_2 => cases hr
    rename_i vs e e1 e2
    split at hr
    case h_2 => cases hr
    rename_i s z e3 e4
    cases hb : (Nat.beq z.length s && Nat.ble (m * s) 16777216 && Nat.blt 0 s) with
    | false => simp [hb] at hr
    | true =>
      simp only [hb, cond_true] at hr
      simp only [Bool.and_eq_true] at hb
      split at hr
      case h_2 => cases hr
      rename_i cs h3
      have h4 := hr
      simp only [execOp, ho]
      exact s_buildSlice t hB (parts_of tr e1) e2 e3 e4 (nbeq_e hb.1.1) (nble_e hb.1.2) (nblt_e hb.2) h3 h4
  · rename_i ty x
    split at hr
    case h_2 => cases hr
    rename_i ad hx
    split at hr
    case h_2 => cases hr
    rename_i u h1
    have h2 := hr
    cases h2
    obtain ⟨y, hy, hA⟩ := (evalO_sound tr hx).ptr
    simp only [execOp, ho, hy]
    exact s_load t hA h1
  · rename_i ty x y
    split at hr
    case h_2 => cases hr
    rename_i ad u hx hu
    split at hr
    case h_2 => cases hr
    rename_i h2 h1
    have h3 := hr
    cases h3
    obtain ⟨y', hy, hA⟩ := (evalO_sound tr hx).ptr
    simp only [execOp, ho, hy]
    exact s_store t hA (evalO_sound tr hu) h1
  · rename_i x
    split at hr
    · rename_i ad hx
      cases hr
      exact s_nilCheck t (evalO_sound tr hx) (.inl ⟨_, rfl⟩) ho
    · rename_i f b c hx
      cases hr
      exact s_nilCheck t (evalO_sound tr hx) (.inr ⟨_, _, _, rfl⟩) ho
    · cases hr
  · rename_i bo ty x y yt
    split at hr
    case h_2 => cases hr
    rename_i u1 u2 hx hy
    split at hr
    case h_2 => cases hr
    rename_i u h1
    have h2 := hr
    cases h2
    exact s_bin t (evalO_sound tr hx) (evalO_sound tr hy) h1 ho
  · rename_i bo ty x
    split at hr
    case h_2 => cases hr
    rename_i u1 hx
    cases hp : plainV u1 with
    | false => simp [hp] at hr
    | true =>
      simp only [hp, cond_true] at hr
      split at hr
      case h_2 => cases hr
      rename_i u h1
      have h2 := hr
      cases hp2 : plainV u with
      | false => simp [hp2] at h2
      | true =>
        simp only [hp2, cond_true] at h2
        cases h2
        exact s_unOp t (evalO_sound tr hx) hp h1 hp2 ho
  · rename_i s d x
    split at hr
    case h_2 => cases hr
    rename_i u h1
    have h2 := hr
    exact s_conv t hB (evalO_sound tr h1) h2 ho
  · rename_i f first cap
    split at hr
    case h_2 => cases hr
    rename_i f' vs hc
    cases hb : (first.toList.isEmpty && vs.all capOk) with
    | false => rw [hb] at hr; cases hr
    | true =>
      simp only [hb, cond_true, Option.some.injEq, Prod.mk.injEq] at hr
      obtain ⟨rfl, rfl⟩ := hr
      simp only [Bool.and_eq_true] at hb
      exact s_makeFunc t hb.1 (evalL_sound tr hc) hb.2 ho
  · rename_i ty
    simp only [Option.some.injEq] at hr
    have e1 := congrArg Prod.fst hr
    have e2 := congrArg Prod.snd hr
    subst e1
    simp only at e2
    subst e2
    simp only [execOp, ho, Option.map_none]
    exact s_makeMap t hB
  · rename_i ty l c
    split at hr
    case h_2 => cases hr
    rename_i l' c' hl hc
    have hl' := (evalO_sound tr hl).int
    have hc' := (evalO_sound tr hc).int
    simp only [execOp, ho, hl', hc']
    exact s_makeSlice t hB hr
  · rename_i ty x lo hi mx
    split at hr
    case h_2 => cases hr
    rename_i v1 l1 h1 m1 k1 k2 k3 k4
    split at hr
    case h_2 => cases hr
    rename_i u e1
    have e2 := hr
    cases e2
    obtain ⟨r', r1, r2⟩ := sliceE_sound (evalO_sound tr k1) (bound_of tr k2) (bound_of tr k3) (bound_of tr k4) e1 w
    simp only [execOp, ho]
    rw [ex_value, r1]
    exact does_pure t rfl r2
  · rename_i s x f
    split at hr
    case h_2 => cases hr
    rename_i ad fs hx hu
    split at hr
    case h_2 => cases hr
    rename_i fl e1
    have e2 := hr
    split at e2
    case h_2 => cases e2
    rename_i m e3
    have e4 := e2
    by_cases h0 : m = 0
    · rw [nbeq_t h0] at e4; cases e4
    rw [nbeq_f h0] at e4
    simp only [cond_false] at e4
    cases e4
    obtain ⟨y, hy, hA⟩ := (evalO_sound tr hx).ptr
    obtain ⟨r1, r2⟩ := fieldAddr_sound (P := P) hu e1 e3 h0 hA w
    simp only [execOp, ho, hy]
    rw [ex_value, r1]
    exact does_pure t rfl r2
  · rename_i ty x f
    split at hr
    case h_2 => cases hr
    rename_i cs fs hx hu
    split at hr
    case h_2 => cases hr
    rename_i fl e1
    have e2 := hr
    split at e2
    case h_2 => cases e2
    rename_i u e3
    have e4 := e2
    cases e4
    obtain ⟨cs', hy, hA⟩ := (evalO_sound tr hx).aggI
    obtain ⟨r', r1, r2⟩ := field_sound hu e1 hA e3 w
    simp only [execOp, ho, hy]
    rw [ex_value, r1]
    exact does_pure t rfl r2
  · rename_i ty x i
    split at hr
    case h_2 => cases hr
    rename_i u1 u2 hx hi
    split at hr
    case h_2 => cases hr
    rename_i u e1
    have e2 := hr
    cases e2
    obtain ⟨r', r1, r2⟩ := idxAddrE_sound (evalO_sound tr hx) (evalO_sound tr hi) e1 w
    simp only [execOp, ho]
    rw [ex_value, r1]
    exact does_pure t rfl r2
  · rename_i ty x i
    split at hr
    case h_2 => cases hr
    rename_i u1 u2 hx hi
    split at hr
    case h_2 => cases hr
    rename_i u e1
    have e2 := hr
    cases e2
    obtain ⟨r', r1, r2⟩ := indexE_sound (evalO_sound tr hx) (evalO_sound tr hi) e1 w
    simp only [execOp, ho]
    rw [ex_value, r1]
    exact does_pure t rfl r2
  · rename_i ty x i ok
    split at hr
    case h_2 => cases hr
    rename_i u1 u2 hx hi
    split at hr
    case h_2 => cases hr
    rename_i u e1
    have e2 := hr
    cases e2
    obtain ⟨r', r1, r2⟩ := lookupE_sound t (evalO_sound tr hx) (evalO_sound tr hi) e1
    simp only [execOp, ho]
    rw [ex_value, r1]
    exact does_pure t rfl r2
  · rename_i ty m k x
    split at hr
    case h_2 => cases hr
    rename_i u1 u2 u3 hm hk hx
    split at hr
    case h_2 => cases hr
    rename_i h2 e1
    have e2 := hr
    cases e2
    obtain ⟨w', r1, r2⟩ := updateE_sound t (evalO_sound tr hm) (evalO_sound tr hk) (evalO_sound tr hx) e1
    simp only [execOp, ho]
    rw [ex_skip, r1]
    exact does_skip rfl r2
  · rename_i ty m k x
    split at hr
    case h_2 => cases hr
    rename_i u1 u2 u3 hm hk hx
    split at hr
    case h_2 => cases hr
    rename_i h2 e1
    have e2 := hr
    cases e2
    obtain ⟨w', r1, r2⟩ := updateE_sound t (evalO_sound tr hm) (evalO_sound tr hk) (evalO_sound tr hx) e1
    simp only [execOp, ho]
    rw [ex_skip, r1]
    exact does_skip rfl r2
  · rename_i ty m k
    split at hr
    case h_2 => cases hr
    rename_i u1 u2 hm hk
    obtain ⟨w', v', r1, r2, r3⟩ := entryE_sound t (evalO_sound tr hm) (evalO_sound tr hk) hr
    simp only [execOp, ho]
    rw [ex_value, r1]
    exact does_value rfl r2 r3
  · rename_i ty m s x
    split at hr
    case h_2 => cases hr
    rename_i u1 u2 u3 hm hs hx
    split at hr
    case h_2 => cases hr
    rename_i h2 e1
    have e2 := hr
    cases e2
    obtain ⟨w', r1, r2⟩ := entryStoreE_sound (ty := ty) t (evalO_sound tr hm) (evalO_sound tr hs) (evalO_sound tr hx) e1
    simp only [execOp, ho]
    rw [ex_skip, r1]
    exact does_skip rfl r2
  · rename_i ty x
    split at hr
    case h_2 => cases hr
    rename_i u e1
    have e2 := hr
    obtain ⟨w', v', ρ', r1, r2, r3⟩ := rangeE_sound t hB (evalO_sound tr e1) e2
    simp only [execOp, ho]
    rw [ex_value, r1]
    exact does_value rfl r2 r3
  · rename_i x isS
    split at hr
    case h_2 => cases hr
    rename_i u e1
    have e2 := hr
    obtain ⟨w', v', r1, r2, r3⟩ := nextE_sound (ty := o.type) t (evalO_sound tr e1) e2
    simp only [execOp, ho]
    rw [ex_value, r1]
    exact does_value rfl r2 r3
  · rename_i x
    split at hr
    case h_2 => cases hr
    rename_i u e1
    have e2 := hr
    split at e2
    case h_2 => cases e2
    rename_i v' e3
    have e4 := e2
    cases e4
    obtain ⟨r', r1, r2⟩ := stepE_sound t (evalO_sound tr e1) e3
    simp only [execOp, ho]
    rw [ex_value, r1]
    exact does_pure t rfl r2
  · rename_i x i
    split at hr
    case h_2 => cases hr
    rename_i vs hx
    split at hr
    case h_2 => cases hr
    rename_i v' e3
    have e4 := hr
    cases e4
    obtain ⟨r', r1, r2⟩ := extract_sound (P := P) (evalO_sound tr hx) e3 w
    simp only [execOp, ho]
    rw [ex_value, r1]
    exact does_pure t rfl r2
  · cases hr
theorem builtin_op (t : WR P ρ h B w) (hB : B ≤ w.heap.size) (tr : TR ρ g n a.tmps) {o : Oper} {c : Call} {b : Builtin} {vs : List Value} {v : Value} (ho : o.op = .call c) (hc : c.callee = .builtin b) (hv : evalL g c.args.toList = some vs) (hr : builtinE P b c.argTypes o.type h vs = some (v, h')) :
    Does P B ρ h w ((execOp a.eval o).run P w) v h' := by
  have h1 := evalL_sound tr hv
  have h2 : All2 (VR ρ) vs (c.args.map a.eval).toList := by simpa using h1
  have := builtinE_sound (cs := (c.args.map fun | .const _ => true | _ => false)) t hB h2 hr
  simp only [execOp, ho, resolve, hc, Sem.run_bind, Sem.run_pure, Result.andThen_ok, invoke]
  exact this
end
end Go.Ev
namespace Go.Ev
open Go

def FW (ro : Option Nat) : Fence := { Fence.wide with round := ro }
theorem FW_n (ro : Option Nat) : (FW ro).depth.isSome = true → 1 ≤ 0 := fun h => by simp [FW, Fence.wide] at h
inductive DD (ρ : Ren) : Nat → Deferred → Prop where
  | mk {d L} : ρ d = some L → DD ρ d { target := .collected L.block, args := #[] }
def Ex.out : Ex → Exit
  | .nrm => .normal
  | .ret => .ret
  | .exit id => .exit id
structure Post (P : Program) (B : Nat) (ρ : Ren) (h : H) (w : World) (e : Ex) (t' : T) (h' : H) (rd : Bool) (e' : Exit) (a' : Act) (w' : World) : Prop where
  exit : e' = e.out
  rd : t'.rd = rd
  out : ∃ ρ', Out P B ρ h w ρ' h' w' ∧ TR ρ' t'.g t'.n a'.tmps ∧ All2 (DD ρ') t'.ds a'.defers
structure RecOK (P : Program) (rec : Rec) : Prop where
  ok : ∀ {c : Code} {t : T} {h : H} {e : Ex} {t' : T} {h' : H}, rec c t h = some (e, t', h') →
  ∀ {ρ : Ren} {B : Nat} {a : Act} {w : World} {ro : Option Nat}, WR P ρ h B w → B ≤ w.heap.size → TR ρ t.g t.n a.tmps → All2 (DD ρ) t.ds a.defers → ro.isSome = t.rd →
  c.wpIn (FW ro) 0 P (Post P B ρ h w e t' h' t.rd) a w
/-- Names that are not given out yet stand for nothing. -/
def Bd (h : H) : Prop := ∀ n, h.next ≤ n → h.objs.get n = none
structure Gr (h h' : H) : Prop where
  bd : Bd h → Bd h'
  le : h.next ≤ h'.next
  fz : h'.fz = h.fz
/-- How a call ends. -/
def Ret (P : Program) (B : Nat) (ρ : Ren) (h : H) (w : World) (v : Value) (h' : H) (e : Ending) (w' : World) : Prop :=
  ∃ v' ρ', e = .returned v' ∧ VR ρ' v v' ∧ Out P B ρ h w ρ' h' w'

/-- What is asked of a function of which only the answers are known. -/
structure OrcOK (P : Program) (f : FuncId) (o : List Value → H → Option (Value × H)) : Prop where
  fn : ∃ fn, P.funcs[f]? = some fn ∧ fn.body.isSome ∧ (fn.name == "runtime.NumGoroutine") = false
  gr : ∀ args h v h', o args h = some (v, h') → Gr h h'
  ok : ∀ args h v h', o args h = some (v, h') → ∀ (ρ : Ren) (B : Nat) (w : World) (args' : Array Value), WR P ρ h B w → B ≤ w.heap.size → All2 (VR ρ) args args'.toList →
    CallsIn (FW none) 0 P f args' w (Ret P B ρ h w v h')
/-- What is known of the table of functions. -/
structure FOK (P : Program) (F : Nat → Option FO) : Prop where
  get : ∀ f fn, F f = some (.code fn) → P.funcs[f]? = some fn
  name : ∀ f fn, F f = some (.code fn) → (fn.name == "runtime.NumGoroutine") = false
  orc : ∀ f o, F f = some (.orc o) → OrcOK P f o
section
variable {P : Program} {ρ ρ' : Ren} {B : Nat} {h h' : H} {w w' : World} {g : Tr Value} {n : Nat} {a : Act}

theorem DD.mono (hE : Ext ρ ρ') {d : Nat} {d' : Deferred} (k : DD ρ d d') : DD ρ' d d' := by
  cases k with
  | mk h1 => exact .mk (hE _ _ h1)
theorem argsT_get : ∀ (vs : List Value) (i : Nat) (g : Tr Value) (d : Nat), (argsT vs i g).get d = if i ≤ d ∧ d < i + vs.length then vs[d - i]? else g.get d
  | [], i, g, d => by simp only [argsT, List.length_nil]; rw [if_neg (by omega)]
  | v :: vs, i, g, d => by
    simp only [argsT]
    rw [argsT_get vs (i + 1), Tr.get_put]
    simp only [List.length_cons]
    by_cases h1 : d = i
    · subst h1
      rw [if_neg (by omega), if_pos rfl, if_pos (by omega)]; simp
    · by_cases h2 : i + 1 ≤ d ∧ d < i + 1 + vs.length
      · rw [if_pos h2, if_pos (by omega)]
        obtain ⟨k, rfl⟩ : ∃ k, d = i + 1 + k := ⟨d - (i + 1), by omega⟩
        rw [show i + 1 + k - (i + 1) = k by omega, show i + 1 + k - i = k + 1 by omega]
        simp
      · rw [if_neg h2, if_neg h1, if_neg (by omega)]
theorem tr_args {vs : List Value} {vs' : Array Value} (hv : All2 (VR ρ) vs vs'.toList) (m : Nat) :
    TR ρ (argsT vs 0 .nil) (vs.length + (m - vs.length)) (vs' ++ Array.replicate (m - vs'.size) undef) := by
  have hl := hv.length
  simp only [Array.length_toList] at hl
  refine ⟨by simp [hl], fun d v hd => ?_⟩
  rw [argsT_get] at hd
  by_cases h1 : 0 ≤ d ∧ d < 0 + vs.length
  · rw [if_pos h1] at hd
    obtain ⟨v', h2, h3⟩ := hv.get hd
    refine ⟨v', ?_, h3⟩
    rw [Array.getElem?_append_left (by omega)]
    simpa using h2
  · rw [if_neg h1] at hd; simp at hd

theorem takeDeferred_run {b : Nat} (hg : w.heap[b]? = some (.deferred (some []))) : (Instr.takeDeferred b).run P w = .ok [] { w with heap := w.heap.setIfInBounds b (.deferred none) } := by
  simp [Instr.takeDeferred, getObj, setObj, Sem.run, hg]
theorem leaves_ok {fn : Func} {tmps : Array Value} {R : Ending → World → Prop} {F : Fence} {m : Nat} : ∀ {ds : List Nat} {ds' : List Deferred} {h h'' : H} {w : World}, All2 (DD ρ) ds ds' → dropMarks ds h = some h'' → WR P ρ h B w →
    (∀ w', Out P B ρ h w ρ h'' w' → ∃ v, (results fn tmps).run P w' = .ok v w' ∧ R (.returned v) w') → LeavesInM F m P fn tmps R ds' .returning w := by
  intro ds
  induction ds with
  | nil =>
    intro ds' h h'' w hd hm t hk
    cases hd
    simp only [dropMarks, Option.some.injEq] at hm
    subst hm
    exact hk w (.refl t)
  | cons d ds ih =>
    intro ds' h h'' w hd hm t hk
    cases hd with
    | cons hd1 hd2 =>
      cases hd1 with
      | @mk L hL =>
        simp only [dropMarks] at hm
        split at hm
        case h_2 => cases hm
        rename_i ho
        obtain ⟨L', ob, h1, h2, h3, h4⟩ := t.obj _ _ ho
        rw [hL] at h1; cases h1
        cases h4
        have o1 : Out P B ρ h w ρ (h.set d none) { w with heap := w.heap.setIfInBounds L.block (.deferred none) } :=
          out_set t (by simp [ho]) hL none (.deferred none) (fun x hx => by cases hx) rfl rfl rfl rfl
        refine ⟨by simp, .inl ⟨L.block, _, rfl, takeDeferred_run h3, ih hd2 hm o1.wr fun w' o2 => hk w' (o1.trans t o2)⟩⟩
theorem resE_sound (t : WR P ρ h B w) {tmps : Array Value} (tr : TR ρ g n tmps) : ∀ {rs : List ResultVar} {vs : List Value}, resE P g h rs = some vs →
    ∃ vs', ((rs.mapM fun | .tmp t => pure (tmps.getD t undef) | .cell a t => do loadVar t (← asAddr (tmps.getD a undef)) : Sem (List Value))).run P w = .ok vs' w ∧ All2 (VR ρ) vs vs'
  | [], vs, hr => by simp only [resE, Option.some.injEq] at hr; subst hr; exact ⟨[], by simp, .nil⟩
  | r :: rs, vs, hr => by
    simp only [resE, Option.bind_eq_some_iff, Option.map_eq_some_iff] at hr
    obtain ⟨v, h1, ws, h2, rfl⟩ := hr
    obtain ⟨ws', k1, k2⟩ := resE_sound t tr h2
    cases r with
    | tmp d =>
      obtain ⟨v', e1, e2⟩ := tr.get d v h1
      refine ⟨v' :: ws', ?_, .cons e2 k2⟩
      have : tmps.getD d undef = v' := by simp [Array.getD_eq_getD_getElem?, e1]
      rw [List.mapM_cons]
      simp only [this, Sem.run_bind, Sem.run_pure, Result.andThen_ok, k1]
    | cell d ty =>
      simp only at h1
      split at h1
      case h_2 => cases h1
      rename_i ad hd
      obtain ⟨u, e1, e2⟩ := tr.get d _ hd
      obtain ⟨y, rfl, hA⟩ := e2.ptr
      have : tmps.getD d undef = .pointer (some y) := by simp [Array.getD_eq_getD_getElem?, e1]
      obtain ⟨v', l1, l2⟩ := loadE_sound t hA h1
      refine ⟨v' :: ws', ?_, .cons l2 k2⟩
      rw [List.mapM_cons]
      have l1' : (loadVar ty y).run P w = .ok v' w := by simpa [Instr.loadAt, Instr.sureAddr] using l1
      have ha : asAddr (.pointer (some y)) = pure y := rfl
      simp only [this, ha, Sem.run_bind, Sem.run_pure, Result.andThen_ok, l1', k1]

theorem oneOf_sound {vs vs' : List Value} {v : Value} (hv : All2 (VR ρ) vs vs') (ho : oneOf vs = some v) : VR ρ v (if h : vs'.length = 1 then vs'[0] else .tuple ⟨vs'⟩) := by
  unfold oneOf at ho
  split at ho
  · rename_i u
    cases hv with
    | cons h1 h2 => cases h2; cases ho; exact h1
  · rename_i hne
    cases hb : vs.all (fun v => !(isTuple v)) with
    | false => simp [hb] at ho
    | true =>
      simp only [hb, cond_true, Option.some.injEq] at ho
      subst ho
      have hl : ¬ vs'.length = 1 := by
        have := hv.length
        intro h1
        rw [h1] at this
        obtain ⟨x, rfl⟩ := List.length_eq_one_iff.1 this
        exact hne x rfl
      rw [dif_neg hl]
      refine .tuple ?_
      simp only
      rw [List.all_eq_true] at hb
      clear hne hl
      induction hv with
      | nil => exact .nil
      | cons h1 _ ih => exact .cons (h1.av (by simpa using hb _ List.mem_cons_self)) (ih fun x hx => hb x (List.mem_cons_of_mem _ hx))
theorem results_run {fn : Func} {tmps : Array Value} {vs' : List Value} (hr : ((fn.results.toList.mapM fun | .tmp t => pure (tmps.getD t undef) | .cell a t => do loadVar t (← asAddr (tmps.getD a undef)) : Sem (List Value))).run P w = .ok vs' w) :
    (results fn tmps).run P w = .ok (if h : vs'.length = 1 then vs'[0] else .tuple ⟨vs'⟩) w := by
  unfold results
  rw [Array.mapM_eq_mapM_toList]
  simp only [Sem.run_bind, Sem.run_map, Sem.run_pure]
  refine (congrArg (fun r : Result (List Value) => (r.andThen fun a w' => .ok a.toArray w').andThen fun a w' => .ok (if h : a.size = 1 then a[0] else .tuple a) w') hr).trans ?_
  simp only [Result.andThen_ok, List.size_toArray]
  by_cases h1 : vs'.length = 1
  · rw [dif_pos h1, dif_pos h1]; simp
  · rw [dif_neg h1, dif_neg h1]
theorem callE_sound {rec : Rec} (hrec : RecOK P rec) {F : Nat → Option FO} (hF : FOK P F) (t : WR P ρ h B w) (hB : B ≤ w.heap.size) {f : FuncId} {args : List Value} {args' : Array Value} {v : Value}
    (hv : All2 (VR ρ) args args'.toList) (hr : callE rec F P f args h = some (v, h')) : CallsIn (FW none) 0 P f args' w (Ret P B ρ h w v h') := by
  unfold callE at hr
  split at hr
  case h_3 => cases hr
  case h_2 =>
    rename_i o ho
    exact (hF.orc _ _ ho).ok _ _ _ _ hr ρ B w args' t hB hv
  rename_i fn hfn
  split at hr
  case h_2 => cases hr
  rename_i c hc
  split at hr
  case h_2 => cases hr
  rename_i e t2 h2 hrun
  have hfn := hF.get _ _ hfn
  have hsz : args'.size = args.length := by have := hv.length; simpa using this.symm
  have key : ∀ {e' : Exit} {a' : Act} {w2 : World}, Post P B ρ h w e t2 h2 false e' a' w2 → (dropMarks t2.ds h2).bind (fun h'' => (resE P t2.g h'' fn.results.toList).bind fun vs => (oneOf vs).map fun v => (v, h'')) = some (v, h') →
      LeavesInM (FW none) 0 P fn a'.tmps (Ret P B ρ h w v h') a'.defers .returning w2 := by
    intro e' a' w2 hp hq
    simp only [Option.bind_eq_some_iff, Option.map_eq_some_iff, Prod.mk.injEq] at hq
    obtain ⟨h3, d1, vs, d2, u, d3, rfl, rfl⟩ := hq
    obtain ⟨ρ2, o1, tr, dd⟩ := hp.out
    refine leaves_ok dd d1 o1.wr fun w3 o2 => ?_
    obtain ⟨vs', k1, k2⟩ := resE_sound o2.wr tr d2
    exact ⟨_, results_run k1, _, ρ2, rfl, oneOf_sound k2 d3, o1.trans t o2⟩
  refine callsIn_of_wp_marks hfn hc trivial (wpIn_mono (hrec.ok (t := ⟨argsT args 0 .nil, args.length + (fn.ntmps - args.length), [], false⟩) hrun t hB (tr_args hv fn.ntmps) .nil rfl) fun e' a' w2 hp => ?_)
  cases e with
  | exit => cases hr
  | nrm => have := hp.exit; subst this; exact key hp hr
  | ret => have := hp.exit; subst this; exact key hp hr
end
end Go.Ev
