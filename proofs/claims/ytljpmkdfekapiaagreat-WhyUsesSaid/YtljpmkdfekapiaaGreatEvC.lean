import Derived.Test.YtljpmkdfekapiaaGreatEvB
import Derived.RangeFuncLeaves
import Derived.OrdersIn
import Derived.OwnWalkIn
set_option linter.unusedVariables false
set_option linter.unusedSimpArgs false
namespace Go.Ev
open Go
section
variable {P : Program} {ρ ρ' : Ren} {B : Nat} {h h' : H} {w w' : World} {g : Tr Value} {n : Nat} {a : Act}

theorem all2_nil_arr {cs' : Array Value} {l : List Value} (h : All2 (SV ρ) l cs'.toList) (h0 : l.length = 0) : cs' = #[] := by
  have := h.length
  exact Array.eq_empty_of_size_eq_zero (by simpa [h0] using this.symm)
theorem copyE_sound (t : WR P ρ h B w) {at_ : Array TypeId} {ty : TypeId} {d d' x x' v : Value} (hd : VR ρ d d') (hx : VR ρ x x') (hr : copyE P at_ h d x = some (v, h')) :
    ∃ w' v', (Builtin.copy_ at_ ty #[d', x']).run P w = .ok v' w' ∧ VR ρ v v' ∧ Out P B ρ h w ρ h' w' := by
  unfold copyE at hr
  split at hr
  case h_2 => cases hr
  rename_i dT base dLen c h0
  split at hr
  case h_2 => cases hr
  rename_i elem hu
  split at hr
  case h_2 => cases hr
  rename_i size hs
  split at hr
  case h_2 => cases hr
  rename_i m new hsrc
  obtain ⟨q1, q2, q3⟩ := srcE_sound t hx hsrc
  simp only at hr
  obtain ⟨cs', c1, c2⟩ := q3 (Nat.min m dLen) (Nat.min_le_left _ _)
  by_cases hm : Nat.min m dLen = 0
  · rw [nbeq_t hm] at hr
    simp only [cond_true, Option.some.injEq, Prod.mk.injEq] at hr
    obtain ⟨rfl, rfl⟩ := hr
    have hcs : cs' = #[] := all2_nil_arr c2 (by simp [hm])
    subst hcs
    rw [hm] at c1
    refine ⟨w, goInt 0, ?_, .of_plain rfl, .refl t⟩
    rcases hd.sliceI with ⟨rfl, rfl, rfl, rfl⟩ | ⟨rfl, rfl, rfl, b', c', rfl⟩ | ⟨xa, y, c', rfl, rfl, _⟩
    · simp [Builtin.copy_, h0, run_underlying hu, q1, run_sizeT hs, hm, c1]
    · cases b' <;> simp [Builtin.copy_, h0, run_underlying hu, q1, run_sizeT hs, hm, c1, storeCells]
    · simp [Builtin.copy_, h0, run_underlying hu, q1, run_sizeT hs, hm, c1, storeCells]
  · rw [nbeq_f hm] at hr
    simp only [cond_false] at hr
    cases base with
    | none => cases hr
    | some ad =>
      simp only [Option.map_eq_some_iff, Prod.mk.injEq] at hr
      obtain ⟨h2, hl, rfl, rfl⟩ := hr
      rcases hd.sliceI with ⟨hh, _⟩ | ⟨hh, _⟩ | ⟨xa, y, c', hh, rfl, hA, _⟩
      · cases hh
      · cases hh
      · cases hh
        obtain ⟨w2, s1, s2⟩ := layE_sound t hA c2 hl
        refine ⟨w2, _, ?_, .of_plain (v := goInt (Nat.min m dLen)) rfl, s2⟩
        simp [Builtin.copy_, h0, run_underlying hu, q1, run_sizeT hs, c1, s1]
theorem clearE_sound (t : WR P ρ h B w) {at_ : Array TypeId} {ty : TypeId} {x x' v : Value} (hx : VR ρ x x') (hr : clearE P at_ h x = some (v, h')) :
    ∃ w' v', (Builtin.clear_ at_ ty #[x']).run P w = .ok v' w' ∧ VR ρ v v' ∧ Out P B ρ h w ρ h' w' := by
  unfold clearE at hr
  split at hr
  · rename_i l c
    cases hb : ((at_[0]?).bind P.underlying).isSome with
    | false => simp [hb] at hr
    | true =>
      simp only [hb, cond_true, Option.some.injEq, Prod.mk.injEq] at hr
      obtain ⟨rfl, rfl⟩ := hr
      obtain ⟨u, hu⟩ := Option.isSome_iff_exists.1 hb
      rw [Option.bind_eq_some_iff] at hu
      obtain ⟨t0, h0, hu⟩ := hu
      refine ⟨w, .tuple #[], ?_, .of_plain rfl, .refl t⟩
      rcases hx.sliceI with ⟨_, rfl, rfl, rfl⟩ | ⟨_, rfl, rfl, b', c', rfl⟩ | ⟨xa, y, c', hh, _⟩
      · simp [Builtin.clear_, h0, run_underlying hu]
      · cases b' <;> simp [Builtin.clear_, h0, run_underlying hu]
      · cases hh
  · rename_i ad l c
    split at hr
    case h_2 => cases hr
    rename_i elem hu
    rw [Option.bind_eq_some_iff] at hu
    obtain ⟨t0, h0, hu⟩ := hu
    rcases hx.sliceI with ⟨hh, _⟩ | ⟨hh, _⟩ | ⟨xa, y, c', hh, rfl, hA, _⟩
    · cases hh
    · cases hh
    cases hh
    by_cases hl : l = 0
    · subst hl
      simp only [nat_beq_self, cond_true, Option.some.injEq, Prod.mk.injEq] at hr
      obtain ⟨rfl, rfl⟩ := hr
      exact ⟨w, .tuple #[], by simp [Builtin.clear_, h0, run_underlying hu], .of_plain rfl, .refl t⟩
    · rw [nbeq_f hl] at hr
      simp only [cond_false] at hr
      split at hr
      case h_2 => cases hr
      rename_i z hz
      simp only [Option.map_eq_some_iff, Prod.mk.injEq] at hr
      obtain ⟨h2, hl2, rfl, rfl⟩ := hr
      obtain ⟨zv, hzv, hzz, hzp⟩ := zcells_run hz
      obtain ⟨w2, s1, s2⟩ := layE_sound t hA (all2_of_plain (repL_plain hzp l)) hl2
      obtain ⟨l', rfl⟩ : ∃ l', l = l' + 1 := ⟨l - 1, by omega⟩
      refine ⟨w2, .tuple #[], ?_, .of_plain rfl, s2⟩
      have : (Builtin.zeroCells zv.cells (l' + 1)).toList = repL z (l' + 1) := by rw [zeroCells_eq, hzz]
      simp [Builtin.clear_, h0, run_underlying hu, run_zeroT hzv, this, s1]
  · cases hr
theorem all2_two {x y : Value} {vs' : Array Value} (h : All2 (VR ρ) [x, y] vs'.toList) : ∃ x' y', vs' = #[x', y'] ∧ VR ρ x x' ∧ VR ρ y y' := by
  generalize hq : vs'.toList = q at h
  cases h with
  | cons h1 h2 => cases h2 with | cons h3 h4 => cases h4; exact ⟨_, _, by rw [← Array.toList_inj, hq], h1, h3⟩
theorem all2_one {x : Value} {vs' : Array Value} (h : All2 (VR ρ) [x] vs'.toList) : ∃ x', vs' = #[x'] ∧ VR ρ x x' := by
  generalize hq : vs'.toList = q at h
  cases h with
  | cons h1 h2 => cases h2; exact ⟨_, by rw [← Array.toList_inj, hq], h1⟩
theorem builtinE_sound (t : WR P ρ h B w) (hB : B ≤ w.heap.size) {b : Builtin} {at_ : Array TypeId} {ty : TypeId} {cs : Array Bool} {vs : List Value} {vs' : Array Value} {v : Value} (hv : All2 (VR ρ) vs vs'.toList) (hr : builtinE P b at_ ty h vs = some (v, h')) :
    Does P B ρ h w ((builtin b at_ ty cs vs').run P w) v h' := by
  unfold builtinE at hr
  split at hr
  · rename_i s x
    obtain ⟨s', x', rfl, h1, h2⟩ := all2_two hv
    obtain ⟨w', v', ρ', r1, r2, r3⟩ := appendE_sound (ty := ty) t hB h1 h2 hr
    exact does_value (by simp only [builtin]; rw [ex_value, r1]; rfl) r2 r3
  · rename_i d x
    obtain ⟨s', x', rfl, h1, h2⟩ := all2_two hv
    obtain ⟨w', v', r1, r2, r3⟩ := copyE_sound (ty := ty) t h1 h2 hr
    exact does_value (by simp only [builtin]; rw [ex_value, r1]; rfl) r2 r3
  · rename_i x
    obtain ⟨x', rfl, h1⟩ := all2_one hv
    obtain ⟨w', v', r1, r2, r3⟩ := clearE_sound (ty := ty) t h1 hr
    exact does_value (by simp only [builtin]; rw [ex_value, r1]; rfl) r2 r3
  · simp only [Option.map_eq_some_iff, Prod.mk.injEq] at hr
    obtain ⟨u, hu, rfl, rfl⟩ := hr
    obtain ⟨r1, r2⟩ := lenE_sound t hv hu
    exact does_pure t (by simp only [builtin]; rw [ex_value, r1]; rfl) (.of_plain r2)
  · cases hp : allPlain vs with
    | false => simp [hp] at hr
    | true =>
      simp only [hp, cond_true] at hr
      obtain ⟨e1, e2, rfl⟩ := plE_some hr
      rw [allPlain_eq hv hp]
      exact does_pure t (by simp only [builtin]; rw [ex_value, prun_run e1]; rfl) (.of_plain e2)
  · cases hp : allPlain vs with
    | false => simp [hp] at hr
    | true =>
      simp only [hp, cond_true] at hr
      obtain ⟨e1, e2, rfl⟩ := plE_some hr
      rw [allPlain_eq hv hp]
      exact does_pure t (by simp only [builtin]; rw [ex_value, prun_run e1]; rfl) (.of_plain e2)
  · cases hr
end
end Go.Ev

namespace Go.Ev
open Go
section
variable {P : Program} {ρ ρ' : Ren} {B : Nat} {h h' : H} {w w' : World} {g : Tr Value} {n : Nat} {a : Act}

theorem bound_of (tr : TR ρ g n a.tmps) {x : Option Operand} {v : Option Value} (hx : oEval g x = some v) : BoundOK ρ v (x.map a.eval) := by
  have := oEval_sound tr hx
  cases v with
  | none => exact this
  | some u => exact this
theorem parts_of (tr : TR ρ g n a.tmps) {ps : Array (Nat × Operand)} {vs : List (Nat × Value)} (hx : evalP g ps.toList = some vs) : All2 (NV ρ) vs (ps.map fun (i, x) => (i, a.eval x)).toList := by
  have := evalP_sound tr hx
  simpa using this
theorem opE_sound (t : WR P ρ h B w) (hB : B ≤ w.heap.size) (tr : TR ρ g n a.tmps) {o : Oper} {op : Op} {v : Value} (ho : o.op = op) (hr : opE P g h op = some (v, h')) :
    Does P B ρ h w ((execOp a.eval o).run P w) v h' := by
  unfold opE at hr
  split at hr
  · rename_i x
    split at hr
    case h_2 => cases hr
    rename_i u h1
    have h2 := hr
    cases h2
    simp only [execOp, ho, Sem.run_pure]
    exact s_move t tr h1
  · rename_i x
    split at hr
    case h_2 => cases hr
    rename_i u h1
    have h2 := hr
    cases h2
    simp only [execOp, ho, Sem.run_pure]
    exact s_move t tr h1
  · rename_i c x y
    split at hr
    case h_2 => cases hr
    rename_i b hc
    split at hr
    case h_2 => cases hr
    rename_i u h1
    have h2 := hr
    cases h2
    have hcb := (evalO_sound tr hc).bool
    simp only [execOp, ho, hcb, asBool, Sem.run_bind, Sem.run_pure, Result.andThen_ok]
    cases b with
    | true => simp only [cond_true] at h1; simpa using s_move t tr h1
    | false => simp only [cond_false] at h1; simpa using s_move t tr h1
  · rename_i e
    split at hr
    case h_2 => cases hr
    rename_i z h1
    have h2 := hr
    simp only [execOp, ho]
    exact s_alloc t hB h1 h2
  · rename_i e x
    split at hr
    case h_2 => cases hr
    rename_i u h1
    have h2 := hr
    cases hn : isTuple u with
    | true => simp [hn] at h2
    | false =>
      simp only [hn, cond_false] at h2
      simp only [execOp, ho]
      exact s_box t hB (evalO_sound tr h1) hn h2
  · rename_i ty ps
    split at hr
    · rename_i vs z fs e1 e2 e3
      split at hr
      case h_2 => cases hr
      rename_i pl h1
      have h2 := hr
      split at h2
      case h_2 => cases h2
      rename_i cs h3
      have h4 := h2
      cases h4
      simp only [execOp, ho]
      exact s_build_struct t (parts_of tr e1) e2 e3 h1 h3
    · rename_i vs z m e e1 e2 e3
      split at hr
      case h_2 => cases hr
      rename_i s h1
      have h2 := hr
      split at h2
      case h_2 => cases h2
      rename_i cs h3
      have h4 := h2
      cases h4
      simp only [execOp, ho]
      exact s_build_array t (parts_of tr e1) e2 e3 h1 h3
    · cases hr
  · rename_i ty m ps
    split at hr
    case h_2 => cases hr
    rename_i vs e e1 e2
    split at hr
    case h_2 => cases hr
    rename_i s z e3 e4
    cases hb : (Nat.beq z.length s && Nat.ble (m * s) 16777216 && Nat.blt 0 s) with
    | false => simp [hb] at hr
    | true =>
      simp only [hb, cond_true] at hr
      simp only [Bool.and_eq_true] at hb
      split at hr
      case h_2 => cases hr
      rename_i cs h3
      have h4 := hr
      simp only [execOp, ho]
      exact s_buildSlice t hB (parts_of tr e1) e2 e3 e4 (nbeq_e hb.1.1) (nble_e hb.1.2) (nblt_e hb.2) h3 h4
  · rename_i ty x
    split at hr
    case h_2 => cases hr
    rename_i ad hx
    split at hr
    case h_2 => cases hr
    rename_i u h1
    have h2 := hr
    cases h2
    obtain ⟨y, hy, hA⟩ := (evalO_sound tr hx).ptr
    simp only [execOp, ho, hy]
    exact s_load t hA h1
  · rename_i ty x y
    split at hr
    case h_2 => cases hr
    rename_i ad u hx hu
    split at hr
    case h_2 => cases hr
    rename_i h2 h1
    have h3 := hr
    cases h3
    obtain ⟨y', hy, hA⟩ := (evalO_sound tr hx).ptr
    simp only [execOp, ho, hy]
    exact s_store t hA (evalO_sound tr hu) h1
  · rename_i x
    split at hr
    · rename_i ad hx
      cases hr
      exact s_nilCheck t (evalO_sound tr hx) (.inl ⟨_, rfl⟩) ho
    · rename_i f b c hx
      cases hr
      exact s_nilCheck t (evalO_sound tr hx) (.inr ⟨_, _, _, rfl⟩) ho
    · cases hr
  · rename_i bo ty x y yt
    split at hr
    case h_2 => cases hr
    rename_i u1 u2 hx hy
    split at hr
    case h_2 => cases hr
    rename_i u h1
    have h2 := hr
    cases h2
    exact s_bin t (evalO_sound tr hx) (evalO_sound tr hy) h1 ho
  · rename_i bo ty x
    split at hr
    case h_2 => cases hr
    rename_i u1 hx
    cases hp : plainV u1 with
    | false => simp [hp] at hr
    | true =>
      simp only [hp, cond_true] at hr
      split at hr
      case h_2 => cases hr
      rename_i u h1
      have h2 := hr
      cases hp2 : plainV u with
      | false => simp [hp2] at h2
      | true =>
        simp only [hp2, cond_true] at h2
        cases h2
        exact s_unOp t (evalO_sound tr hx) hp h1 hp2 ho
  · rename_i s d x
    split at hr
    case h_2 => cases hr
    rename_i u h1
    have h2 := hr
    exact s_conv t hB (evalO_sound tr h1) h2 ho
  · rename_i f first cap
    split at hr
    case h_2 => cases hr
    rename_i f' vs hc
    cases hb : (first.toList.isEmpty && vs.all capOk) with
    | false => rw [hb] at hr; cases hr
    | true =>
      simp only [hb, cond_true, Option.some.injEq, Prod.mk.injEq] at hr
      obtain ⟨rfl, rfl⟩ := hr
      simp only [Bool.and_eq_true] at hb
      exact s_makeFunc t hb.1 (evalL_sound tr hc) hb.2 ho
  · rename_i ty
    simp only [Option.some.injEq] at hr
    have e1 := congrArg Prod.fst hr
    have e2 := congrArg Prod.snd hr
    subst e1
    simp only at e2
    subst e2
    simp only [execOp, ho, Option.map_none]
    exact s_makeMap t hB
  · rename_i ty l c
    split at hr
    case h_2 => cases hr
    rename_i l' c' hl hc
    have hl' := (evalO_sound tr hl).int
    have hc' := (evalO_sound tr hc).int
    simp only [execOp, ho, hl', hc']
    exact s_makeSlice t hB hr
  · rename_i ty x lo hi mx
    split at hr
    case h_2 => cases hr
    rename_i v1 l1 h1 m1 k1 k2 k3 k4
    split at hr
    case h_2 => cases hr
    rename_i u e1
    have e2 := hr
    cases e2
    obtain ⟨r', r1, r2⟩ := sliceE_sound (evalO_sound tr k1) (bound_of tr k2) (bound_of tr k3) (bound_of tr k4) e1 w
    simp only [execOp, ho]
    rw [ex_value, r1]
    exact does_pure t rfl r2
  · rename_i s x f
    split at hr
    case h_2 => cases hr
    rename_i ad fs hx hu
    split at hr
    case h_2 => cases hr
    rename_i fl e1
    have e2 := hr
    split at e2
    case h_2 => cases e2
    rename_i m e3
    have e4 := e2
    by_cases h0 : m = 0
    · rw [nbeq_t h0] at e4; cases e4
    rw [nbeq_f h0] at e4
    simp only [cond_false] at e4
    cases e4
    obtain ⟨y, hy, hA⟩ := (evalO_sound tr hx).ptr
    obtain ⟨r1, r2⟩ := fieldAddr_sound (P := P) hu e1 e3 h0 hA w
    simp only [execOp, ho, hy]
    rw [ex_value, r1]
    exact does_pure t rfl r2
  · rename_i ty x f
    split at hr
    case h_2 => cases hr
    rename_i cs fs hx hu
    split at hr
    case h_2 => cases hr
    rename_i fl e1
    have e2 := hr
    split at e2
    case h_2 => cases e2
    rename_i u e3
    have e4 := e2
    cases e4
    obtain ⟨cs', hy, hA⟩ := (evalO_sound tr hx).aggI
    obtain ⟨r', r1, r2⟩ := field_sound hu e1 hA e3 w
    simp only [execOp, ho, hy]
    rw [ex_value, r1]
    exact does_pure t rfl r2
  · rename_i ty x i
    split at hr
    case h_2 => cases hr
    rename_i u1 u2 hx hi
    split at hr
    case h_2 => cases hr
    rename_i u e1
    have e2 := hr
    cases e2
    obtain ⟨r', r1, r2⟩ := idxAddrE_sound (evalO_sound tr hx) (evalO_sound tr hi) e1 w
    simp only [execOp, ho]
    rw [ex_value, r1]
    exact does_pure t rfl r2
  · rename_i ty x i
    split at hr
    case h_2 => cases hr
    rename_i u1 u2 hx hi
    split at hr
    case h_2 => cases hr
    rename_i u e1
    have e2 := hr
    cases e2
    obtain ⟨r', r1, r2⟩ := indexE_sound (evalO_sound tr hx) (evalO_sound tr hi) e1 w
    simp only [execOp, ho]
    rw [ex_value, r1]
    exact does_pure t rfl r2
  · rename_i ty x i ok
    split at hr
    case h_2 => cases hr
    rename_i u1 u2 hx hi
    split at hr
    case h_2 => cases hr
    rename_i u e1
    have e2 := hr
    cases e2
    obtain ⟨r', r1, r2⟩ := lookupE_sound t (evalO_sound tr hx) (evalO_sound tr hi) e1
    simp only [execOp, ho]
    rw [ex_value, r1]
    exact does_pure t rfl r2
  · rename_i ty m k x
    split at hr
    case h_2 => cases hr
    rename_i u1 u2 u3 hm hk hx
    split at hr
    case h_2 => cases hr
    rename_i h2 e1
    have e2 := hr
    cases e2
    obtain ⟨w', r1, r2⟩ := updateE_sound t (evalO_sound tr hm) (evalO_sound tr hk) (evalO_sound tr hx) e1
    simp only [execOp, ho]
    rw [ex_skip, r1]
    exact does_skip rfl r2
  · rename_i ty m k x
    split at hr
    case h_2 => cases hr
    rename_i u1 u2 u3 hm hk hx
    split at hr
    case h_2 => cases hr
    rename_i h2 e1
    have e2 := hr
    cases e2
    obtain ⟨w', r1, r2⟩ := updateE_sound t (evalO_sound tr hm) (evalO_sound tr hk) (evalO_sound tr hx) e1
    simp only [execOp, ho]
    rw [ex_skip, r1]
    exact does_skip rfl r2
  · rename_i ty m k
    split at hr
    case h_2 => cases hr
    rename_i u1 u2 hm hk
    obtain ⟨w', v', r1, r2, r3⟩ := entryE_sound t (evalO_sound tr hm) (evalO_sound tr hk) hr
    simp only [execOp, ho]
    rw [ex_value, r1]
    exact does_value rfl r2 r3
  · rename_i ty m s x
    split at hr
    case h_2 => cases hr
    rename_i u1 u2 u3 hm hs hx
    split at hr
    case h_2 => cases hr
    rename_i h2 e1
    have e2 := hr
    cases e2
    obtain ⟨w', r1, r2⟩ := entryStoreE_sound (ty := ty) t (evalO_sound tr hm) (evalO_sound tr hs) (evalO_sound tr hx) e1
    simp only [execOp, ho]
    rw [ex_skip, r1]
    exact does_skip rfl r2
  · rename_i ty x
    split at hr
    case h_2 => cases hr
    rename_i u e1
    have e2 := hr
    obtain ⟨w', v', ρ', r1, r2, r3⟩ := rangeE_sound t hB (evalO_sound tr e1) e2
    simp only [execOp, ho]
    rw [ex_value, r1]
    exact does_value rfl r2 r3
  · rename_i x isS
    split at hr
    case h_2 => cases hr
    rename_i u e1
    have e2 := hr
    obtain ⟨w', v', r1, r2, r3⟩ := nextE_sound (ty := o.type) t (evalO_sound tr e1) e2
    simp only [execOp, ho]
    rw [ex_value, r1]
    exact does_value rfl r2 r3
  · rename_i x
    split at hr
    case h_2 => cases hr
    rename_i u e1
    have e2 := hr
    split at e2
    case h_2 => cases e2
    rename_i v' e3
    have e4 := e2
    cases e4
    obtain ⟨r', r1, r2⟩ := stepE_sound t (evalO_sound tr e1) e3
    simp only [execOp, ho]
    rw [ex_value, r1]
    exact does_pure t rfl r2
  · rename_i x i
    split at hr
    case h_2 => cases hr
    rename_i vs hx
    split at hr
    case h_2 => cases hr
    rename_i v' e3
    have e4 := hr
    cases e4
    obtain ⟨r', r1, r2⟩ := extract_sound (P := P) (evalO_sound tr hx) e3 w
    simp only [execOp, ho]
    rw [ex_value, r1]
    exact does_pure t rfl r2
  · cases hr
theorem builtin_op (t : WR P ρ h B w) (hB : B ≤ w.heap.size) (tr : TR ρ g n a.tmps) {o : Oper} {c : Call} {b : Builtin} {vs : List Value} {v : Value} (ho : o.op = .call c) (hc : c.callee = .builtin b) (hv : evalL g c.args.toList = some vs) (hr : builtinE P b c.argTypes o.type h vs = some (v, h')) :
    Does P B ρ h w ((execOp a.eval o).run P w) v h' := by
  have h1 := evalL_sound tr hv
  have h2 : All2 (VR ρ) vs (c.args.map a.eval).toList := by simpa using h1
  have := builtinE_sound (cs := (c.args.map fun | .const _ => true | _ => false)) t hB h2 hr
  simp only [execOp, ho, resolve, hc, Sem.run_bind, Sem.run_pure, Result.andThen_ok, invoke]
  exact this
end
end Go.Ev

namespace Go.Ev
open Go

def FW (ro : Option Nat) : Fence := { Fence.wide with round := ro }
theorem FW_n (ro : Option Nat) : (FW ro).depth.isSome = true → 1 ≤ 0 := fun h => by simp [FW, Fence.wide] at h
inductive DD (ρ : Ren) : Nat → Deferred → Prop where
  | mk {d L} : ρ d = some L → DD ρ d { target := .collected L.block, args := #[] }
def Ex.out : Ex → Exit
  | .nrm => .normal
  | .ret => .ret
  | .exit id => .exit id
structure Post (P : Program) (B : Nat) (ρ : Ren) (h : H) (w : World) (e : Ex) (t' : T) (h' : H) (rd : Bool) (e' : Exit) (a' : Act) (w' : World) : Prop where
  exit : e' = e.out
  rd : t'.rd = rd
  out : ∃ ρ', Out P B ρ h w ρ' h' w' ∧ TR ρ' t'.g t'.n a'.tmps ∧ All2 (DD ρ') t'.ds a'.defers
structure RecOK (P : Program) (rec : Rec) : Prop where
  ok : ∀ {c : Code} {t : T} {h : H} {e : Ex} {t' : T} {h' : H}, rec c t h = some (e, t', h') →
  ∀ {ρ : Ren} {B : Nat} {a : Act} {w : World} {ro : Option Nat}, WR P ρ h B w → B ≤ w.heap.size → TR ρ t.g t.n a.tmps → All2 (DD ρ) t.ds a.defers → ro.isSome = t.rd →
  c.wpIn (FW ro) 0 P (Post P B ρ h w e t' h' t.rd) a w
/-- How a call ends. -/
def Ret (P : Program) (B : Nat) (ρ : Ren) (h : H) (w : World) (v : Value) (h' : H) (e : Ending) (w' : World) : Prop :=
  ∃ v' ρ', e = .returned v' ∧ VR ρ' v v' ∧ Out P B ρ h w ρ' h' w'

section
variable {P : Program} {ρ ρ' : Ren} {B : Nat} {h h' : H} {w w' : World} {g : Tr Value} {n : Nat} {a : Act}

theorem DD.mono (hE : Ext ρ ρ') {d : Nat} {d' : Deferred} (k : DD ρ d d') : DD ρ' d d' := by
  cases k with
  | mk h1 => exact .mk (hE _ _ h1)
theorem argsT_get : ∀ (vs : List Value) (i : Nat) (g : Tr Value) (d : Nat), (argsT vs i g).get d = if i ≤ d ∧ d < i + vs.length then vs[d - i]? else g.get d
  | [], i, g, d => by simp only [argsT, List.length_nil]; rw [if_neg (by omega)]
  | v :: vs, i, g, d => by
    simp only [argsT]
    rw [argsT_get vs (i + 1), Tr.get_put]
    simp only [List.length_cons]
    by_cases h1 : d = i
    · subst h1
      rw [if_neg (by omega), if_pos rfl, if_pos (by omega)]; simp
    · by_cases h2 : i + 1 ≤ d ∧ d < i + 1 + vs.length
      · rw [if_pos h2, if_pos (by omega)]
        obtain ⟨k, rfl⟩ : ∃ k, d = i + 1 + k := ⟨d - (i + 1), by omega⟩
        rw [show i + 1 + k - (i + 1) = k by omega, show i + 1 + k - i = k + 1 by omega]
        simp
      · rw [if_neg h2, if_neg h1, if_neg (by omega)]
theorem tr_args {vs : List Value} {vs' : Array Value} (hv : All2 (VR ρ) vs vs'.toList) (m : Nat) :
    TR ρ (argsT vs 0 .nil) (vs.length + (m - vs.length)) (vs' ++ Array.replicate (m - vs'.size) undef) := by
  have hl := hv.length
  simp only [Array.length_toList] at hl
  refine ⟨by simp [hl], fun d v hd => ?_⟩
  rw [argsT_get] at hd
  by_cases h1 : 0 ≤ d ∧ d < 0 + vs.length
  · rw [if_pos h1] at hd
    obtain ⟨v', h2, h3⟩ := hv.get hd
    refine ⟨v', ?_, h3⟩
    rw [Array.getElem?_append_left (by omega)]
    simpa using h2
  · rw [if_neg h1] at hd; simp at hd

theorem takeDeferred_run {b : Nat} (hg : w.heap[b]? = some (.deferred (some []))) : (Instr.takeDeferred b).run P w = .ok [] { w with heap := w.heap.setIfInBounds b (.deferred none) } := by
  simp [Instr.takeDeferred, getObj, setObj, Sem.run, hg]
theorem leaves_ok {fn : Func} {tmps : Array Value} {R : Ending → World → Prop} {F : Fence} {m : Nat} : ∀ {ds : List Nat} {ds' : List Deferred} {h h'' : H} {w : World}, All2 (DD ρ) ds ds' → dropMarks ds h = some h'' → WR P ρ h B w →
    (∀ w', Out P B ρ h w ρ h'' w' → ∃ v, (results fn tmps).run P w' = .ok v w' ∧ R (.returned v) w') → LeavesInM F m P fn tmps R ds' .returning w := by
  intro ds
  induction ds with
  | nil =>
    intro ds' h h'' w hd hm t hk
    cases hd
    simp only [dropMarks, Option.some.injEq] at hm
    subst hm
    exact hk w (.refl t)
  | cons d ds ih =>
    intro ds' h h'' w hd hm t hk
    cases hd with
    | cons hd1 hd2 =>
      cases hd1 with
      | @mk L hL =>
        simp only [dropMarks] at hm
        split at hm
        case h_2 => cases hm
        rename_i ho
        obtain ⟨L', ob, h1, h2, h3, h4⟩ := t.obj _ _ ho
        rw [hL] at h1; cases h1
        cases h4
        have o1 : Out P B ρ h w ρ (h.set d none) { w with heap := w.heap.setIfInBounds L.block (.deferred none) } :=
          out_set t (by simp [ho]) hL none (.deferred none) (fun x hx => by cases hx) rfl rfl rfl rfl
        refine ⟨by simp, .inl ⟨L.block, _, rfl, takeDeferred_run h3, ih hd2 hm o1.wr fun w' o2 => hk w' (o1.trans t o2)⟩⟩
theorem resE_sound (t : WR P ρ h B w) {tmps : Array Value} (tr : TR ρ g n tmps) : ∀ {rs : List ResultVar} {vs : List Value}, resE P g h rs = some vs →
    ∃ vs', ((rs.mapM fun | .tmp t => pure (tmps.getD t undef) | .cell a t => do loadVar t (← asAddr (tmps.getD a undef)) : Sem (List Value))).run P w = .ok vs' w ∧ All2 (VR ρ) vs vs'
  | [], vs, hr => by simp only [resE, Option.some.injEq] at hr; subst hr; exact ⟨[], by simp, .nil⟩
  | r :: rs, vs, hr => by
    simp only [resE, Option.bind_eq_some_iff, Option.map_eq_some_iff] at hr
    obtain ⟨v, h1, ws, h2, rfl⟩ := hr
    obtain ⟨ws', k1, k2⟩ := resE_sound t tr h2
    cases r with
    | tmp d =>
      obtain ⟨v', e1, e2⟩ := tr.get d v h1
      refine ⟨v' :: ws', ?_, .cons e2 k2⟩
      have : tmps.getD d undef = v' := by simp [Array.getD_eq_getD_getElem?, e1]
      rw [List.mapM_cons]
      simp only [this, Sem.run_bind, Sem.run_pure, Result.andThen_ok, k1]
    | cell d ty =>
      simp only at h1
      split at h1
      case h_2 => cases h1
      rename_i ad hd
      obtain ⟨u, e1, e2⟩ := tr.get d _ hd
      obtain ⟨y, rfl, hA⟩ := e2.ptr
      have : tmps.getD d undef = .pointer (some y) := by simp [Array.getD_eq_getD_getElem?, e1]
      obtain ⟨v', l1, l2⟩ := loadE_sound t hA h1
      refine ⟨v' :: ws', ?_, .cons l2 k2⟩
      rw [List.mapM_cons]
      have l1' : (loadVar ty y).run P w = .ok v' w := by simpa [Instr.loadAt, Instr.sureAddr] using l1
      have ha : asAddr (.pointer (some y)) = pure y := rfl
      simp only [this, ha, Sem.run_bind, Sem.run_pure, Result.andThen_ok, l1', k1]

theorem oneOf_sound {vs vs' : List Value} {v : Value} (hv : All2 (VR ρ) vs vs') (ho : oneOf vs = some v) : VR ρ v (if h : vs'.length = 1 then vs'[0] else .tuple ⟨vs'⟩) := by
  unfold oneOf at ho
  split at ho
  · rename_i u
    cases hv with
    | cons h1 h2 => cases h2; cases ho; exact h1
  · rename_i hne
    cases hb : vs.all (fun v => !(isTuple v)) with
    | false => simp [hb] at ho
    | true =>
      simp only [hb, cond_true, Option.some.injEq] at ho
      subst ho
      have hl : ¬ vs'.length = 1 := by
        have := hv.length
        intro h1
        rw [h1] at this
        obtain ⟨x, rfl⟩ := List.length_eq_one_iff.1 this
        exact hne x rfl
      rw [dif_neg hl]
      refine .tuple ?_
      simp only
      rw [List.all_eq_true] at hb
      clear hne hl
      induction hv with
      | nil => exact .nil
      | cons h1 _ ih => exact .cons (h1.av (by simpa using hb _ List.mem_cons_self)) (ih fun x hx => hb x (List.mem_cons_of_mem _ hx))
theorem results_run {fn : Func} {tmps : Array Value} {vs' : List Value} (hr : ((fn.results.toList.mapM fun | .tmp t => pure (tmps.getD t undef) | .cell a t => do loadVar t (← asAddr (tmps.getD a undef)) : Sem (List Value))).run P w = .ok vs' w) :
    (results fn tmps).run P w = .ok (if h : vs'.length = 1 then vs'[0] else .tuple ⟨vs'⟩) w := by
  unfold results
  rw [Array.mapM_eq_mapM_toList]
  simp only [Sem.run_bind, Sem.run_map, Sem.run_pure]
  refine (congrArg (fun r : Result (List Value) => (r.andThen fun a w' => .ok a.toArray w').andThen fun a w' => .ok (if h : a.size = 1 then a[0] else .tuple a) w') hr).trans ?_
  simp only [Result.andThen_ok, List.size_toArray]
  by_cases h1 : vs'.length = 1
  · rw [dif_pos h1, dif_pos h1]; simp
  · rw [dif_neg h1, dif_neg h1]
theorem callE_sound {rec : Rec} (hrec : RecOK P rec) {F : Nat → Option Func} (hF : ∀ f fn, F f = some fn → P.funcs[f]? = some fn) (t : WR P ρ h B w) (hB : B ≤ w.heap.size) {f : FuncId} {args : List Value} {args' : Array Value} {v : Value}
    (hv : All2 (VR ρ) args args'.toList) (hr : callE rec F P f args h = some (v, h')) : CallsIn (FW none) 0 P f args' w (Ret P B ρ h w v h') := by
  unfold callE at hr
  split at hr
  case h_2 => cases hr
  rename_i fn hfn
  split at hr
  case h_2 => cases hr
  rename_i c hc
  split at hr
  case h_2 => cases hr
  rename_i e t2 h2 hrun
  have hfn := hF _ _ hfn
  have hsz : args'.size = args.length := by have := hv.length; simpa using this.symm
  have key : ∀ {e' : Exit} {a' : Act} {w2 : World}, Post P B ρ h w e t2 h2 false e' a' w2 → (dropMarks t2.ds h2).bind (fun h'' => (resE P t2.g h'' fn.results.toList).bind fun vs => (oneOf vs).map fun v => (v, h'')) = some (v, h') →
      LeavesInM (FW none) 0 P fn a'.tmps (Ret P B ρ h w v h') a'.defers .returning w2 := by
    intro e' a' w2 hp hq
    simp only [Option.bind_eq_some_iff, Option.map_eq_some_iff, Prod.mk.injEq] at hq
    obtain ⟨h3, d1, vs, d2, u, d3, rfl, rfl⟩ := hq
    obtain ⟨ρ2, o1, tr, dd⟩ := hp.out
    refine leaves_ok dd d1 o1.wr fun w3 o2 => ?_
    obtain ⟨vs', k1, k2⟩ := resE_sound o2.wr tr d2
    exact ⟨_, results_run k1, _, ρ2, rfl, oneOf_sound k2 d3, o1.trans t o2⟩
  refine callsIn_of_wp_marks hfn hc trivial (wpIn_mono (hrec.ok (t := ⟨argsT args 0 .nil, args.length + (fn.ntmps - args.length), [], false⟩) hrun t hB (tr_args hv fn.ntmps) .nil rfl) fun e' a' w2 hp => ?_)
  cases e with
  | exit => cases hr
  | nrm => have := hp.exit; subst this; exact key hp hr
  | ret => have := hp.exit; subst this; exact key hp hr
end
end Go.Ev

namespace Go.Ev
open Go
section
variable {P : Program} {ρ ρ' ρ₁ ρ₂ : Ren} {B : Nat} {h h' h₁ h₂ : H} {w w' w₁ w₂ w₃ : World} {g : Tr Value} {n : Nat} {a : Act}

/-- A block that no living name stands for. -/
def Far (ρ : Ren) (h : H) (b : Nat) : Prop := ∀ n L, (h.objs.get n).isSome → ρ n = some L → L.block ≠ b
theorem WR.dead (t : WR P ρ h B w) {b : Nat} {ob : Obj} (hb : Far ρ h b) (hw : w'.heap = w.heap.setIfInBounds b ob) : WR P ρ h B w' := by
  refine ⟨fun n o hn => ?_, t.inj, t.new⟩
  obtain ⟨L, ob', h1, h2, h3, h4⟩ := t.obj n o hn
  refine ⟨L, ob', h1, h2, ?_, h4⟩
  rw [hw, Array.getElem?_setIfInBounds, if_neg (Ne.symm (hb n L (by simp [hn]) h1))]
  exact h3
theorem Out.far (o : Out P B ρ h w ρ' h' w') {b : Nat} (hlt : b < w.heap.size) (hb : Far ρ h b) : Far ρ' h' b := by
  intro n L hn hL he
  rcases Nat.lt_or_ge n h.next with h1 | h1
  · exact hb n L (o.live n h1 hn) (by rw [← o.dom n h1]; exact hL) he
  · rcases o.own n L h1 hL with h2 | ⟨m, Lm, h2, h3, h4⟩
    · omega
    · exact hb m Lm h2 h3 (h4.trans he)
theorem get_set_self (h : H) (l : Nat) (x : Option AObj) : (h.set l x).objs.get l = x := by simp [H.set, Tr.get_put]
theorem get_set_ne (h : H) {l m : Nat} (x : Option AObj) (hm : m ≠ l) : (h.set l x).objs.get m = h.objs.get m := by simp [H.set, Tr.get_put, hm]
/-- An object is lent out, and comes back. -/
theorem out_lend (t : WR P ρ h B w) {l : Nat} {L : Loc} {ob₁ ob₃ : Obj} {obj : AObj} (hl : (h.objs.get l).isSome) (hL : ρ l = some L)
    (o₁ : Out P B ρ (h.set l none) w ρ₁ h₁ w₁) (e₁ : w' = { w₁ with heap := w₁.heap.setIfInBounds L.block ob₁ }) (o₂ : Out P B ρ₁ h₁ w' ρ₂ h₂ w₂)
    (e₃ : w₃ = { w₂ with heap := w₂.heap.setIfInBounds L.block ob₃ }) (hO : OR P ρ₂ L obj ob₃) : Out P B ρ h w ρ₂ (h₂.set l (some obj)) w₃ := by
  subst e₁ e₃
  obtain ⟨o0, ho0⟩ := Option.isSome_iff_exists.1 hl
  obtain ⟨L0, ob0, a1, a2, a3, a4⟩ := t.obj l o0 ho0
  rw [hL] at a1; cases a1
  have hlt : L.block < w.heap.size := (Array.getElem?_eq_some_iff.1 a3).1
  have hln : l < h.next := t.lt hl
  have hsub : ∀ m, ((h.set l none).objs.get m).isSome → m ≠ l ∧ (h.objs.get m).isSome := fun m hm => by
    by_cases e : m = l
    · subst e; rw [get_set_self] at hm; cases hm
    · rw [get_set_ne _ _ e] at hm; exact ⟨e, hm⟩
  have f0 : Far ρ (h.set l none) L.block := fun m Lm hm hLm he => (hsub m hm).1 (t.inj m l Lm L (hsub m hm).2 hl hLm hL he)
  have f1 := o₁.far hlt f0
  have s1 := o₁.size
  have s2 := o₂.size
  simp only [Array.size_setIfInBounds] at s2
  have f2 := o₂.far (b := L.block) (by simp only [Array.size_setIfInBounds]; omega) f1
  have n1 : h.next ≤ h₁.next := o₁.nx
  have n2 := o₂.nx
  have hρ : ∀ m, m < h.next → ρ₂ m = ρ m := fun m hm => by rw [o₂.dom m (by omega), o₁.dom m hm]
  refine ⟨⟨?_, ?_, ?_⟩, ?_, by simp only [Array.size_setIfInBounds]; omega, o₂.os.trans o₁.os, o₂.tape.trans o₁.tape, o₂.output.trans o₁.output, Nat.le_trans n1 n2, hρ, ?_, ?_⟩
  · intro m o hm
    by_cases e : m = l
    · subst e
      rw [get_set_self] at hm; cases hm
      refine ⟨L, ob₃, by rw [hρ _ hln]; exact hL, a2, ?_, hO⟩
      rw [Array.getElem?_setIfInBounds, if_pos rfl, if_pos (by omega)]
    · rw [get_set_ne _ _ e] at hm
      obtain ⟨L', ob', b1, b2, b3, b4⟩ := o₂.wr.obj m o hm
      refine ⟨L', ob', b1, b2, ?_, b4⟩
      rw [Array.getElem?_setIfInBounds, if_neg (Ne.symm (f2 m L' (by simp [hm]) b1))]
      exact b3
  · intro m k Lm Lk hm hk b1 b2 he
    by_cases e1 : m = l
    · by_cases e2 : k = l
      · rw [e1, e2]
      · rw [get_set_ne _ _ e2] at hk
        subst e1
        rw [hρ _ hln, hL] at b1; cases b1
        exact absurd he.symm (f2 k Lk hk b2)
    · rw [get_set_ne _ _ e1] at hm
      by_cases e2 : k = l
      · subst e2
        rw [hρ _ hln, hL] at b2; cases b2
        exact absurd he (f2 m Lm hm b1)
      · rw [get_set_ne _ _ e2] at hk
        exact o₂.wr.inj m k Lm Lk hm hk b1 b2 he
  · intro m hm; exact o₂.wr.new m hm
  · intro b hb hfar
    have hne : L.block ≠ b := hfar l L hl hL
    have hf0 : Far ρ (h.set l none) b := fun m Lm hm hLm => hfar m Lm (hsub m hm).2 hLm
    have hf1 := o₁.far hb hf0
    have q1 := o₁.fr b hb hf0
    have q2 := o₂.fr b (by simp only [Array.size_setIfInBounds]; omega) hf1
    simp only [Array.getElem?_setIfInBounds, if_neg hne] at q2 ⊢
    rw [q2, q1]
  · intro m hm hlive
    by_cases e : m = l
    · rw [e]; exact hl
    · rw [get_set_ne _ _ e] at hlive
      exact (hsub m (o₁.live m hm (o₂.live m (by omega) hlive))).2
  · intro m Lm hm hLm
    have via : ∀ k Lk, (h₁.objs.get k).isSome → ρ₁ k = some Lk → Lk.block = Lm.block → w.heap.size ≤ Lm.block ∨ ∃ m' Lm', (h.objs.get m').isSome ∧ ρ m' = some Lm' ∧ Lm'.block = Lm.block := fun k Lk k1 k2 k3 => by
      rcases Nat.lt_or_ge k h.next with h3 | h3
      · exact .inr ⟨k, Lk, (hsub k (o₁.live k h3 k1)).2, by rw [← o₁.dom k h3]; exact k2, k3⟩
      · rcases o₁.own k Lk h3 k2 with h4 | ⟨m', Lm', j1, j2, j3⟩
        · exact .inl (by omega)
        · exact .inr ⟨m', Lm', (hsub m' j1).2, j2, j3.trans k3⟩
    rcases Nat.lt_or_ge m h₁.next with h1 | h1
    · rw [o₂.dom m h1] at hLm
      rcases o₁.own m Lm hm hLm with h4 | ⟨m', Lm', j1, j2, j3⟩
      · exact .inl h4
      · exact .inr ⟨m', Lm', (hsub m' j1).2, j2, j3⟩
    · rcases o₂.own m Lm h1 hLm with h2 | ⟨k, Lk, k1, k2, k3⟩
      · simp only [Array.size_setIfInBounds] at h2; exact .inl (by omega)
      · exact via k Lk k1 k2 k3

theorem tr_put {m : Nat} {tmps : Array Value} (tr : TR ρ g m tmps) {v v' : Value} (hv : VR ρ v v') (d : Nat) : TR ρ (putT g m d v) m (tmps.setIfInBounds d v') := by
  refine ⟨by simp [tr.size], fun k u hk => ?_⟩
  unfold putT at hk
  cases hb : Nat.blt d m with
  | false =>
    simp only [hb, cond_false] at hk
    obtain ⟨u', h1, h2⟩ := tr.get k u hk
    refine ⟨u', ?_, h2⟩
    have hkm : k < tmps.size := (Array.getElem?_eq_some_iff.1 h1).1
    have hd : ¬ d < m := fun hlt => by rw [show Nat.blt d m = true from Nat.ble_eq_true_of_le hlt] at hb; cases hb
    rw [Array.getElem?_setIfInBounds, if_neg (by have := tr.size; omega)]; exact h1
  | true =>
    have hd := nblt_e hb
    simp only [hb, cond_true, Tr.get_put] at hk
    by_cases e : k = d
    · subst e
      rw [if_pos rfl] at hk; cases hk
      exact ⟨v', by rw [Array.getElem?_setIfInBounds, if_pos rfl, if_pos (by have := tr.size; omega)], hv⟩
    · rw [if_neg e] at hk
      obtain ⟨u', h1, h2⟩ := tr.get k u hk
      exact ⟨u', by rw [Array.getElem?_setIfInBounds, if_neg (Ne.symm e)]; exact h1, h2⟩
theorem tr_act {t : T} (tr : TR ρ t.g t.n a.tmps) {v v' : Value} (hv : VR ρ v v') (d : Option Tmp) : TR ρ (t.put d v).g (t.put d v).n (a.put d v').tmps := by
  cases d with
  | none => exact tr
  | some d => exact tr_put tr hv d
theorem tr_putArgs {m : Nat} : ∀ {ps : List Tmp} {vs vs' : List Value} {g : Tr Value} {tmps : Array Value}, TR ρ g m tmps → All2 (VR ρ) vs vs' →
    TR ρ (putArgs ps vs g m) m ((ps.zip vs').foldl (fun tmps (x : Tmp × Value) => tmps.setIfInBounds x.1 x.2) tmps)
  | [], _, _, _, _, tr, _ => by simpa [putArgs] using tr
  | p :: ps, [], _, _, _, tr, hv => by cases hv; simpa [putArgs] using tr
  | p :: ps, v :: vs, _, _, _, tr, hv => by
    cases hv with
    | cons h1 h2 =>
      simp only [putArgs, List.zip_cons_cons, List.foldl_cons]
      exact tr_putArgs (tr_put tr h1 p) h2

theorem getLoop_run {b : Nat} {r : Loop} (hg : w.heap[b]? = some (.loop r)) : (Instr.getLoop b).run P w = .ok r w := by
  simp [Instr.getLoop, getObj, Sem.run, hg]
theorem setLoop_run {b : Nat} {r : Loop} (o : Obj) (hg : w.heap[b]? = some (.loop r)) : (setObj b o).run P w = .ok () { w with heap := w.heap.setIfInBounds b o } := by
  simp [setObj, Sem.run, hg]
theorem beginRound_run {b : Nat} {r : Loop} (hg : w.heap[b]? = some (.loop r)) (hs : r.state = .ready) :
    (Instr.beginRound b).run P w = .ok () { w with heap := w.heap.setIfInBounds b (.loop { r with state := .busy }) } := by
  simp [Instr.beginRound, getLoop_run hg, setLoop_run _ hg, hs]
theorem endRound_run {b : Nat} {r : Loop} (hg : w.heap[b]? = some (.loop r)) :
    (Instr.endRound b none).run P w = .ok (.bool true) { w with heap := w.heap.setIfInBounds b (.loop { r with state := .ready, pending := none }) } := by
  simp [Instr.endRound, getLoop_run hg, setLoop_run _ hg]
theorem yieldE_sound {rec : Rec} (hrec : RecOK P rec) (t : WR P ρ h B w) (hB : B ≤ w.heap.size) {l : Nat} {L : Loc} (hL : ρ l = some L) {args : List Value} {args' : Array Value} {v : Value} {ro : Option Nat}
    (hv : All2 (VR ρ) args args'.toList) (hr : yieldE rec l args h = some (v, h')) :
    ∃ f tmps assign body, (Instr.yield L.block args').run P w = .ok (.round L.block f tmps assign body) w ∧ RoundIn (FW ro) 0 P L.block f tmps assign body w (Ret P B ρ h w v h') := by
  unfold yieldE at hr
  split at hr
  case h_2 => cases hr
  rename_i g m ps assign body ho
  cases hb : Nat.beq ps.length args.length with
  | false => simp [hb] at hr
  | true =>
    simp only [hb, cond_true] at hr
    split at hr
    case h_2 => cases hr
    rename_i t1 h1 hra
    split at hr
    case h_2 => cases hr
    rename_i t2 h2 hrb
    split at hr
    case h_2 => cases hr
    rename_i hds
    simp only [Option.some.injEq, Prod.mk.injEq] at hr
    obtain ⟨rfl, rfl⟩ := hr
    obtain ⟨L0, ob, a1, a2, a3, a4⟩ := t.obj l _ ho
    rw [hL] at a1; cases a1
    cases a4 with
    | @loop _ _ _ _ _ r b1 b2 b3 b4 b5 b6 =>
      have hl : (h.objs.get l).isSome := by simp [ho]
      have hlt : L.block < w.heap.size := (Array.getElem?_eq_some_iff.1 a3).1
      have hsz : args'.size = r.params.size := by
        have e1 := hv.length
        have e2 := nbeq_e hb
        rw [← b3] at e2
        simp only [Array.length_toList] at e1 e2
        omega
      have hy : (Instr.yield L.block args').run P w = .ok (.round L.block r.fn ((r.params.zip args').foldl (fun tmps (x : Tmp × Value) => tmps.setIfInBounds x.1 x.2) r.tmps) r.assign r.body) w := by
        simp only [Instr.yield, Sem.run_bind, getLoop_run a3, Result.andThen_ok, hsz, ne_eq, not_true_eq_false, if_false, Sem.run_pure, Sem.run_ite]
      refine ⟨r.fn, _, r.assign, r.body, hy, ?_⟩
      have tk := out_kill t l
      have hf0 : Far ρ (h.set l none) L.block := fun m Lm hm hLm he => by
        by_cases e : m = l
        · subst e; rw [get_set_self] at hm; cases hm
        · rw [get_set_ne _ _ e] at hm
          exact e (t.inj m l Lm L hm hl hLm hL he)
      have tr0 : TR ρ (putArgs ps args g m) m ((r.params.zip args').foldl (fun tmps (x : Tmp × Value) => tmps.setIfInBounds x.1 x.2) r.tmps) := by
        have := tr_putArgs (ps := ps) b2 hv
        rw [← b3, ← Array.toList_zip, Array.foldl_toList] at this
        rw [← b3]
        exact this
      rw [b4, b5]
      refine roundIn_of_wpIn trivial (wpIn_mono (hrec.ok (t := ⟨putArgs ps args g m, m, [], true⟩) (ro := some L.block) hra tk.wr hB tr0 .nil rfl) fun e₁ a₁ w₁ p₁ => ?_)
      have := p₁.exit; subst this
      obtain ⟨ρ₁, o₁, tr₁, dd₁⟩ := p₁.out
      have q1 : w₁.heap[L.block]? = some (.loop r) := by rw [o₁.fr _ hlt hf0]; exact a3
      refine ⟨_, beginRound_run q1 b1, ?_⟩
      have f1 := o₁.far hlt hf0
      have wr1 : WR P ρ₁ h1 B { w₁ with heap := w₁.heap.setIfInBounds L.block (.loop { r with state := .busy }) } := o₁.wr.dead f1 rfl
      have s1 := o₁.size
      refine wpIn_mono (hrec.ok (ro := some L.block) hrb wr1 (by simp only [Array.size_setIfInBounds]; omega) tr₁ dd₁ (by rw [p₁.rd]; rfl)) fun e₂ a₂ w₂ p₂ => ?_
      have := p₂.exit; subst this
      obtain ⟨ρ₂, o₂, tr₂, dd₂⟩ := p₂.out
      have hlt1 : L.block < w₁.heap.size := by omega
      have q2 : w₂.heap[L.block]? = some (.loop { r with state := .busy }) := by
        rw [o₂.fr _ (by simpa using hlt1) f1, Array.getElem?_setIfInBounds, if_pos rfl, if_pos hlt1]
      have q3 := endRound_run (P := P) q2
      refine ⟨_, _, q3, .bool true, ρ₂, rfl, .of_plain rfl, ?_⟩
      refine out_lend t hl hL o₁ rfl o₂ rfl (.loop rfl ?_ b3 b4 b5 rfl)
      refine b2.mono fun k Lk hk => ?_
      have hk' : k < h.next := by
        rcases Nat.lt_or_ge k h.next with h3 | h3
        · exact h3
        · rw [t.new k h3] at hk; cases hk
      rw [o₂.dom k (Nat.lt_of_lt_of_le hk' o₁.nx), o₁.dom k hk']; exact hk
end
end Go.Ev

namespace Go.Ev
open Go
/-- What is known of the table of functions. -/
structure FOK (P : Program) (F : Nat → Option Func) : Prop where
  get : ∀ f fn, F f = some fn → P.funcs[f]? = some fn
  name : ∀ f fn, F f = some fn → (fn.name == "runtime.NumGoroutine") = false
section
variable {P : Program} {ρ ρ' ρ₁ ρ₂ : Ren} {B : Nat} {h h' h₁ h₂ : H} {w w' w₁ w₂ w₃ : World} {g : Tr Value} {n : Nat} {a : Act}

theorem VR.yieldI {l : Nat} {fi ca : Array Value} {v : Value} (h : VR ρ (.func (.yield l) fi ca) v) : fi = #[] ∧ ca = #[] ∧ ∃ L, ρ l = some L ∧ v = .func (.yield L.block) #[] #[] := by
  cases h with
  | a h => cases h with
    | s h => cases h with
      | same h => simp [plainS] at h
      | yield h => exact ⟨rfl, rfl, _, h, rfl⟩
theorem does_oper {o : Oper} {v : Value} {ro : Option Nat} {K : Act → World → Prop} {Q : Exit → Act → World → Prop} (hnc : ∀ c, o.op ≠ .call c ∨ ∃ b, c.callee = .builtin b) (hnd : ∀ c, o.op ≠ .defer c) (hd : Does P B ρ h w ((execOp a.eval o).run P w) v h')
    (hK : ∀ v' w' ρ', VR ρ' v v' → Out P B ρ h w ρ' h' w' → K (a.put o.dst v') w') : o.wpIn (FW ro) 0 P a w K Q := by
  refine ⟨fun _ _ => trivial, ?_⟩
  rw [Oper.semAt_plain _ _ _ hnd]
  obtain ⟨nx, v', w', ρ', h1, h2, h3, h4⟩ := hd
  rw [h1]
  rcases h2 with rfl | ⟨rfl, rfl⟩
  · exact hK v' w' ρ' h3 h4
  · exact hK undef w' ρ' h3 h4
theorem AV.args {vs : List Value} {vs' : List Value} (h : All2 (PV ρ) vs vs') : All2 (VR ρ) vs vs' := by
  refine h.mono fun u u' k => ?_
  cases k with
  | same hp => exact .s (.same hp)
  | ptr hp => exact .s (.ptr hp)
theorem enter_run {F : Nat → Option Func} (hF : FOK P F) {f : FuncId} {fn : Func} (hf : F f = some fn) (hb : fn.body.isSome) (args : Array Value) (w : World) : (callFunc f args).run P w = .ok (.enter f args) w := by
  have h1 := hF.get _ _ hf
  have h2 := hF.name _ _ hf
  obtain ⟨c, hc⟩ := Option.isSome_iff_exists.1 hb
  have h4 : ¬ (fn.name = "runtime.NumGoroutine") := by simpa using h2
  simp [callFunc, h1, h4, hc]
theorem callE_fn {rec : Rec} {F : Nat → Option Func} {f : FuncId} {args : List Value} {r : Value × H} (hr : callE rec F P f args h = some r) : ∃ fn, F f = some fn ∧ fn.body.isSome := by
  unfold callE at hr
  split at hr
  case h_2 => cases hr
  rename_i fn hfn
  split at hr
  case h_2 => cases hr
  rename_i c hc
  exact ⟨fn, hfn, by simp [hc]⟩
theorem oper_ok {rec : Rec} (hrec : RecOK P rec) {F : Nat → Option Func} (hF : FOK P F) (t : WR P ρ h B w) (hB : B ≤ w.heap.size) (tr : TR ρ g n a.tmps) {o : Oper} {v : Value} {ro : Option Nat} {K : Act → World → Prop} {Q : Exit → Act → World → Prop}
    (hr : operE rec F P g h o = some (v, h')) (hK : ∀ v' w' ρ', VR ρ' v v' → Out P B ρ h w ρ' h' w' → K (a.put o.dst v') w') : o.wpIn (FW ro) 0 P a w K Q := by
  unfold operE at hr
  split at hr
  · rename_i c hc
    split at hr
    · rename_i f hcal
      simp only [Option.bind_eq_some_iff] at hr
      obtain ⟨fv, e1, vs, e2, e3⟩ := hr
      have v1 := evalO_sound tr e1
      have v2 : All2 (VR ρ) vs (c.args.map a.eval).toList := by simpa using evalL_sound tr e2
      refine ⟨fun _ _ => trivial, ?_⟩
      rw [Oper.semAt_plain _ _ _ (by rw [hc]; intro c' h'; cases h')]
      have hres : ∀ u, a.eval f = u → (execOp a.eval o).run P w = ((Deferred.ofValue u (c.args.map a.eval)).run P w).andThen fun d w' => (invoke d.target d.args).run P w' := fun u hu => by
        simp only [execOp, hc, resolve, hcal, Sem.run_bind, hu]
      unfold callVal at e3
      split at e3
      · rename_i f' first cap
        obtain ⟨rfl, ca', hu, hca⟩ := v1.funcI
        obtain ⟨fn, k1, k2⟩ := callE_fn e3
        rw [hres _ hu]
        simp only [Deferred.ofValue, Sem.run_pure, Result.andThen_ok, invoke]
        rw [enter_run hF k1 k2]
        refine ⟨FW_n ro, ?_⟩
        have hargs : All2 (VR ρ) ((#[] : Array Value).toList ++ vs ++ cap.toList) ((#[] ++ c.args.map a.eval) ++ ca').toList := by
          simp only [Array.toList_append, List.nil_append]
          exact v2.append (AV.args hca)
        refine CallsIn.mono (F := FW none) (callE_sound hrec hF.get t hB hargs e3) fun e w' hR => ?_
        obtain ⟨v', ρ', rfl, r1, r2⟩ := hR
        exact hK v' w' ρ' r1 r2
      · rename_i l first cap
        obtain ⟨rfl, rfl, L, hL, hu⟩ := v1.yieldI
        simp only [List.isEmpty_nil, cond_true] at e3
        rw [hres _ hu]
        simp only [Deferred.ofValue, Sem.run_pure, Result.andThen_ok, invoke]
        have hargs : All2 (VR ρ) vs (#[] ++ c.args.map a.eval).toList := by simpa using v2
        obtain ⟨f', tmps, asg, bod, r1, r2⟩ := yieldE_sound (ro := ro) hrec t hB hL hargs e3
        rw [r1]
        refine ⟨FW_n ro, RoundIn.mono r2 fun e w' hR => ?_⟩
        obtain ⟨v', ρ', rfl, r1, r2⟩ := hR
        exact hK v' w' ρ' r1 r2
      · cases e3
    · rename_i b hcal
      simp only [Option.bind_eq_some_iff] at hr
      obtain ⟨vs, e2, e3⟩ := hr
      refine does_oper (fun c' => ?_) (by rw [hc]; intro c' h'; cases h') (builtin_op t hB tr hc hcal e2 e3) hK
      by_cases e : c' = c
      · subst e; exact .inr ⟨_, hcal⟩
      · exact .inl (by rw [hc]; intro h'; cases h'; exact e rfl)
    · cases hr
  · rename_i op hop
    refine does_oper (fun c' => .inl (hop c')) (fun c' hd => ?_) (opE_sound t hB tr rfl hr) hK
    rw [hd] at hr
    simp [opE] at hr

theorem want_ok {ops : Array Oper} {o : Oper} {b : Bool} (tr : TR ρ g n a.tmps) (hw : wantE ops g o = some b) : Region.wanted o (yielded ops a.tmps) = b := by
  unfold wantE at hw
  unfold Region.wanted
  split at hw
  · rename_i hg
    cases hw
    rw [hg]
  · rename_i j want hg
    rw [hg]
    simp only
    split at hw
    · rename_i hn
      cases hw
      simp [yielded, hn]
    · rename_i d hd
      split at hw
      · rename_i u hu
        cases hw
        obtain ⟨u', e1, e2⟩ := tr.get _ _ hu
        have := e2.bool; subst this
        simp only [yielded, hd, Option.bind_some, e1]
        cases u <;> cases want <;> rfl
      · rename_i u hne hu
        cases hw
        obtain ⟨u', e1, e2⟩ := tr.get _ _ hu
        simp only [yielded, hd, Option.bind_some, e1]
        have : ∀ b, u' ≠ .bool b := fun b hb => by
          subst hb
          cases e2 with
          | a k => cases k with
            | s k => cases k with
              | same k => exact hne b rfl
        cases u' <;> first | rfl | exact absurd rfl (this _)
      · cases hw

theorem ops_ok {rec : Rec} (hrec : RecOK P rec) {F : Nat → Option Func} (hF : FOK P F) {ops : Array Oper} {ro : Option Nat} {Q : Exit → Act → World → Prop} : ∀ {os pre : List Oper} {t t' : T} {h : H} {ρ : Ren} {a : Act} {w : World}, ops.toList = pre ++ os →
    opsE rec F P ops os t h = some (t', h') → WR P ρ h B w → B ≤ w.heap.size → TR ρ t.g t.n a.tmps →
    (∀ a' w' ρ', Out P B ρ h w ρ' h' w' → TR ρ' t'.g t'.n a'.tmps → a'.defers = a.defers → t'.ds = t.ds → t'.rd = t.rd → Q .normal a' w') → wpOpsIn (FW ro) 0 P ops Q (List.range' pre.length os.length) a w := by
  intro os
  induction os with
  | nil =>
    intro pre t t' h ρ a w _ hr wr hB tr hQ
    simp only [opsE, Option.some.injEq, Prod.mk.injEq] at hr
    obtain ⟨rfl, rfl⟩ := hr
    exact hQ a w ρ (.refl wr) tr rfl rfl rfl
  | cons o os ih =>
    intro pre t t' h ρ a w hops hr wr hB tr hQ
    have hi : ops[pre.length]? = some o := by
      rw [← Array.getElem?_toList, hops]; simp
    simp only [List.length_cons, List.range'_succ]
    simp only [wpOpsIn, hi]
    have hops' : ops.toList = (pre ++ [o]) ++ os := by simp [hops]
    simp only [opsE] at hr
    have ih' := fun {t : T} {h : H} {ρ : Ren} {a : Act} {w : World} => ih (pre := pre ++ [o]) (t := t) (t' := t') (h := h) (ρ := ρ) (a := a) (w := w) hops'
    simp only [List.length_append, List.length_cons, List.length_nil, Nat.zero_add] at ih'
    split at hr
    · rename_i hw
      rw [want_ok tr hw, if_pos rfl]
      split at hr
      · rename_i v h1 he
        refine oper_ok hrec hF wr hB tr he fun v' w' ρ' hv o1 => ?_
        refine ih' hr o1.wr (Nat.le_trans hB o1.size) (tr_act (t := t) ⟨tr.mono (o1.ext wr) |>.size, (tr.mono (o1.ext wr)).get⟩ hv o.dst) fun a2 w2 ρ2 o2 tr2 d1 d2 d3 => ?_
        refine hQ a2 w2 ρ2 (o1.trans wr o2) tr2 (d1.trans ?_) (d2.trans ?_) (d3.trans ?_)
        · cases o.dst <;> rfl
        · cases o.dst <;> rfl
        · cases o.dst <;> rfl
      · cases hr
    · rename_i hw
      rw [want_ok tr hw, if_neg (by simp)]
      refine ⟨fun _ _ => trivial, ih' hr wr hB (tr_act (t := t) tr (.of_plain (v := .tuple #[]) rfl) o.dst) fun a2 w2 ρ2 o2 tr2 d1 d2 d3 => ?_⟩
      refine hQ a2 w2 ρ2 o2 tr2 (d1.trans ?_) (d2.trans ?_) (d3.trans ?_)
      · cases o.dst <;> rfl
      · cases o.dst <;> rfl
      · cases o.dst <;> rfl
    · cases hr
end
end Go.Ev

namespace Go.Ev
open Go
structure DrawOK (P : Program) (F : Nat → Option Func) (rec : Rec) : Prop where
  ok : ∀ {id : Nat} {ops : Array Oper} {t t' : T} {h h' : H}, drawE rec F P ops (befs ops.toList []) (orderE (befs ops.toList []) ops.toList ops.size 0) 0 [] t h = some (t', h') →
  ∀ {ρ : Ren} {B : Nat} {a : Act} {w : World} {ro : Option Nat}, WR P ρ h B w → B ≤ w.heap.size → TR ρ t.g t.n a.tmps → All2 (DD ρ) t.ds a.defers → (Code.region id ops true).wpIn (FW ro) 0 P (Post P B ρ h w .nrm t' h' t.rd) a w
section
variable {P : Program} {ρ ρ' ρ₁ ρ₂ : Ren} {B : Nat} {h h' h₁ h₂ : H} {w w' w₁ w₂ w₃ : World} {g : Tr Value} {n : Nat} {a : Act}

theorem DD.all (hE : Ext ρ ρ') {ds : List Nat} {ds' : List Deferred} (k : All2 (DD ρ) ds ds') : All2 (DD ρ') ds ds' := k.mono fun _ _ => DD.mono hE
theorem Post.after (t : WR P ρ h B w) (o : Out P B ρ h w ρ₁ h₁ w₁) {e : Ex} {t' : T} {rd rd' : Bool} {e' : Exit} {a' : Act} (p : Post P B ρ₁ h₁ w₁ e t' h' rd e' a' w') (hrd : rd = rd') : Post P B ρ h w e t' h' rd' e' a' w' :=
  ⟨p.exit, p.rd.trans hrd, let ⟨ρ', o', tr, dd⟩ := p.out; ⟨ρ', o.trans t o', tr, dd⟩⟩
theorem least {p : Nat → Prop} : (∃ m, p m) → ∃ m, p m ∧ ∀ k, k < m → ¬ p k := by
  rintro ⟨m, hm⟩
  induction m using Nat.strongRecOn with
  | _ m ih =>
    by_cases hk : ∃ k, k < m ∧ p k
    · obtain ⟨k, h1, h2⟩ := hk; exact ih k h1 h2
    · exact ⟨m, hm, fun k h1 h2 => hk ⟨k, h1, h2⟩⟩
theorem endLoop_run {b : Nat} {r : Loop} (hg : w.heap[b]? = some (.loop r)) (hs : r.state = .ready) (hp : r.pending = none) :
    (Instr.endLoop b).run P w = .ok none { w with heap := w.heap.setIfInBounds b (.loop { r with state := .exhausted }) } := by
  simp [Instr.endLoop, getLoop_run hg, setLoop_run _ hg, hs, hp]

theorem main_ok {F : Nat → Option Func} (hF : FOK P F) (hdraw : ∀ k, RecOK P (ev F P k) → DrawOK P F (ev F P k)) : ∀ (k m : Nat), m ≤ k → RecOK P (ev F P m) := by
  intro k
  induction k with
  | zero =>
    intro m hm
    obtain rfl : m = 0 := by omega
    refine ⟨fun {c t h e t' h'} hr => ?_⟩
    simp [ev] at hr
  | succ k ih =>
    intro m hm
    by_cases hmk : m ≤ k
    · exact ih m hmk
    obtain rfl : m = k + 1 := by omega
    have hrec : RecOK P (ev F P k) := ih k (Nat.le_refl k)
    refine ⟨fun {c t h e t' h'} hr {ρ B a w ro} wr hB tr dd hro => ?_⟩
    have hr0 := hr
    change body (ev F P k) F P c t h = some (e, t', h') at hr
    unfold body at hr
    split at hr
    · cases hr
      exact wpIn_skip ⟨rfl, rfl, ρ, .refl wr, tr, dd⟩
    · rename_i id ops
      simp only [Option.map_eq_some_iff, Prod.mk.injEq, Prod.exists] at hr
      obtain ⟨t2, h2, hr, rfl, rfl, rfl⟩ := hr
      refine wpIn_region ?_
      have := ops_ok (pre := []) (ro := ro) (Q := Post P B ρ h w .nrm t2 h2 t.rd) hrec hF (by simp) hr wr hB tr fun a' w' ρ' o tr' d1 d2 d3 => ⟨rfl, d3, ρ', o, tr', by rw [d1, d2]; exact DD.all (o.ext wr) dd⟩
      simpa [List.range_eq_range'] using this
    · rename_i id ops
      simp only [Option.map_eq_some_iff, Prod.mk.injEq, Prod.exists] at hr
      obtain ⟨t2, h2, hr, rfl, rfl, rfl⟩ := hr
      exact (hdraw _ hrec).ok hr wr hB tr dd
    · rename_i x y
      split at hr
      · rename_i t1 h1 hx
        refine wpIn_seq (wpIn_mono (hrec.ok hx wr hB tr dd hro) fun e1 a1 w1 p => ?_)
        have := p.exit; subst this
        obtain ⟨ρ1, o1, tr1, dd1⟩ := p.out
        exact wpIn_mono (hrec.ok hr o1.wr (Nat.le_trans hB o1.size) tr1 dd1 (hro.trans p.rd.symm)) fun e2 a2 w2 q => q.after wr o1 p.rd
      · rename_i hne
        refine wpIn_seq (wpIn_mono (hrec.ok hr wr hB tr dd hro) fun e1 a1 w1 p => ?_)
        have hp := p.exit
        subst hp
        cases e with
        | nrm => exact absurd hr (hne _ _)
        | ret => exact p
        | exit => exact p
    · rename_i c x y
      split at hr
      · rename_i hc
        exact wpIn_cond_true (evalO_sound tr hc).bool (hrec.ok hr wr hB tr dd hro)
      · rename_i hc
        exact wpIn_cond_false (evalO_sound tr hc).bool (hrec.ok hr wr hB tr dd hro)
      · cases hr
    · rename_i id c
      split at hr
      · rename_i j t1 h1 hx
        simp only [Option.some.injEq, Prod.mk.injEq] at hr
        obtain ⟨rfl, rfl, rfl⟩ := hr
        refine wpIn_block (wpIn_mono (hrec.ok hx wr hB tr dd hro) fun e1 a1 w1 p => ?_)
        have := p.exit; subst this
        simp only [Ex.out, Exit.inBlock]
        by_cases hj : j = id
        · rw [if_pos hj, nbeq_t hj]; exact ⟨rfl, p.rd, p.out⟩
        · rw [if_neg hj, nbeq_f hj]; exact ⟨rfl, p.rd, p.out⟩
      · rename_i hne
        refine wpIn_block (wpIn_mono (hrec.ok hr wr hB tr dd hro) fun e1 a1 w1 p => ?_)
        have hp := p.exit
        subst hp
        cases e with
        | nrm => exact p
        | ret => exact p
        | exit j => exact absurd hr (hne _ _ _)
    · rename_i c
      let J : Nat → Act → World → Prop := fun m a1 w1 => m ≤ k + 1 ∧ ∃ t1 h1 ρ1, ev F P m (.loop c) t1 h1 = some (e, t', h') ∧ Out P B ρ h w ρ1 h1 w1 ∧ TR ρ1 t1.g t1.n a1.tmps ∧ All2 (DD ρ1) t1.ds a1.defers ∧ t1.rd = t.rd
      have hμ : ∀ (a1 : Act) (w1 : World), ∃ m, (∃ m', J m' a1 w1) → J m a1 w1 ∧ ∀ j, j < m → ¬ J j a1 w1 := fun a1 w1 => by
        by_cases hj : ∃ m', J m' a1 w1
        · obtain ⟨m, h1, h2⟩ := least hj; exact ⟨m, fun _ => ⟨h1, h2⟩⟩
        · exact ⟨0, fun h => absurd h hj⟩
      refine wpIn_loop (fun a1 w1 => ∃ m, J m a1 w1) (fun a1 w1 => Classical.choose (hμ a1 w1)) ⟨k + 1, Nat.le_refl _, t, h, ρ, hr0, .refl wr, tr, dd, rfl⟩ ?_
      intro a1 w1 hI
      obtain ⟨⟨hm1, t1, h1, ρ1, e1, o1, tr1, dd1, rd1⟩, hleast⟩ := Classical.choose_spec (hμ a1 w1) hI
      generalize Classical.choose (hμ a1 w1) = m at *
      cases m with
      | zero => simp [ev] at e1
      | succ m =>
        have hrec' : RecOK P (ev F P m) := ih m (by omega)
        change body (ev F P m) F P (.loop c) t1 h1 = some (e, t', h') at e1
        simp only [body] at e1
        have hB1 := Nat.le_trans hB o1.size
        split at e1
        · rename_i t2 h2 hx
          refine wpIn_mono (hrec'.ok hx o1.wr hB1 tr1 dd1 (hro.trans rd1.symm)) fun e2 a2 w2 p => ?_
          have := p.exit; subst this
          obtain ⟨ρ2, o2, tr2, dd2⟩ := p.out
          have hJ : J m a2 w2 := ⟨by omega, t2, h2, ρ2, e1, o1.trans wr o2, tr2, dd2, p.rd.trans rd1⟩
          refine ⟨⟨m, hJ⟩, ?_⟩
          have hs := Classical.choose_spec (hμ a2 w2) ⟨m, hJ⟩
          have : Classical.choose (hμ a2 w2) ≤ m := by
            rcases Nat.lt_or_ge m (Classical.choose (hμ a2 w2)) with h3 | h3
            · exact absurd hJ (hs.2 m h3)
            · exact h3
          omega
        · rename_i hne
          refine wpIn_mono (hrec'.ok e1 o1.wr hB1 tr1 dd1 (hro.trans rd1.symm)) fun e2 a2 w2 p => ?_
          have hp := p.exit
          subst hp
          cases e with
          | nrm => exact absurd e1 (hne _ _)
          | ret => exact p.after wr o1 rd1
          | exit => exact p.after wr o1 rd1
    · rename_i f ps asg bod
      cases hrd : t.rd with
      | true => simp [hrd] at hr
      | false =>
        simp only [hrd, cond_false] at hr
        obtain rfl : ro = none := by cases ro <;> simp_all
        split at hr
        case h_2 => cases hr
        rename_i gf first cap hf
        obtain ⟨rfl, ca', hu, hca⟩ := (evalO_sound tr hf).funcI
        split at hr
        case h_2 => cases hr
        rename_i v3 h3 hcall
        split at hr
        case h_2 => cases hr
        rename_i g1 n1 p1 a1 b1 hl3
        simp only [Option.some.injEq, Prod.mk.injEq] at hr
        obtain ⟨rfl, rfl, rfl⟩ := hr
        obtain ⟨fn0, k1, k2⟩ := callE_fn hcall
        refine wpIn_rangeFunc fun fn _ => ?_
        obtain ⟨ρ1, L1, c1, c2, c3, c4, o1⟩ := s_newObj (P := P) (o := .marks) (ob := .deferred (some [])) wr hB (fun L _ => .marks)
        let w1 : World := { w with heap := w.heap.push (.deferred (some [])) }
        have tr1 := tr.mono (o1.ext wr)
        let r0 : Loop := { state := .ready, pending := none, fn, tmps := a.tmps, params := ps, assign := asg, body := bod, defers := w.heap.size }
        obtain ⟨ρ2, L2, d1, d2, d3, d4, o2⟩ := s_newObj (P := P) (o := .loop t.g t.n ps.toList asg bod) (ob := .loop r0) o1.wr (Nat.le_trans hB o1.size) (fun L _ => .loop rfl tr1 rfl rfl rfl rfl)
        have o12 := o1.trans wr o2
        have hE := o12.ext wr
        rw [d4] at hcall
        rw [d4] at hl3
        have hargs : All2 (VR ρ2) ((#[] : Array Value).toList ++ [Value.func (.yield (h.new .marks).2.next) #[] #[]] ++ cap.toList) ((#[] ++ #[Value.func (.yield L2.block) #[] #[]]) ++ ca').toList := by
          simp only [Array.toList_append, List.nil_append]
          exact (All2.cons (.s (.yield d1)) .nil).append (AV.args (hca.mono fun _ _ => PV.mono hE))
        have hsz1 : w1.heap.size = w.heap.size + 1 := by simp [w1]
        have hB2 : B ≤ (w1.heap.push (.loop r0)).size := by simp [w1]; omega
        have hc := callE_sound hrec hF.get (w := { w1 with heap := w1.heap.push (.loop r0) }) o12.wr hB2 hargs hcall
        refine ⟨L2.block, [{ target := .collected w.heap.size, args := #[] }], { w1 with heap := w1.heap.push (.loop r0) }, { target := .fn (.func gf) ca', args := #[] ++ #[Value.func (.yield L2.block) #[] #[]] }, { w1 with heap := w1.heap.push (.loop r0) }, gf, _, _, ?_, ?_, fun _ _ => trivial, ?_, FW_n none, CallsIn.mono hc fun e4 w4 hR => ?_⟩
        · simp only [Instr.enterLoop, FW, Sem.run_bind, run_newObj, Sem.run_pure, Result.andThen_ok, d2]
          rfl
        · have hcon : a.eval (.const (.func (.yield L2.block) #[] #[])) = .func (.yield L2.block) #[] #[] := rfl
          simp only [resolve, hu, List.map_toArray, List.map_cons, List.map_nil, Deferred.ofValue, Sem.run_pure, hcon]
        · simp only [invoke]
          exact enter_run hF k1 k2 _ _
        · obtain ⟨v4, ρ4, rfl, r1, r2⟩ := hR
          obtain ⟨L4, ob, x1, x2, x3, x4⟩ := r2.wr.obj _ _ hl3
          have hnl : (h.new .marks).2.next < ((h.new .marks).2.new (.loop t.g t.n ps.toList asg bod)).2.next := by simp [new_eq]
          rw [r2.dom _ hnl, d1] at x1
          cases x1
          cases x4 with
          | @loop _ _ _ _ _ r4 y1 y2 y3 y4 y5 y6 =>
            refine ⟨none, _, endLoop_run x3 y1 y6, ?_⟩
            have hlive : (h3.objs.get (h.new .marks).2.next).isSome := by simp [hl3]
            have o4 : Out P B ρ4 h3 w4 ρ4 (h3.set (h.new .marks).2.next none) { w4 with heap := w4.heap.setIfInBounds L2.block (.loop { r4 with state := .exhausted }) } :=
              out_set r2.wr hlive (by rw [r2.dom _ hnl]; exact d1) none _ (fun x hx => by cases hx) rfl rfl rfl rfl
            have hE4 := r2.ext o12.wr
            refine ⟨rfl, rfl, ρ4, ?_, ?_, ?_⟩
            · rw [d4]
              exact (o12.trans wr r2).trans wr o4
            · exact (tr.mono hE).mono hE4
            · rw [c4]
              refine .cons ?_ (DD.all hE4 (DD.all hE dd))
              have e1 : ρ4 h.next = some L1 := by
                refine hE4 _ _ (o2.ext o1.wr _ _ c1)
              rw [← c2]
              exact .mk e1
      
    · cases hr
      exact wpIn_exit ⟨rfl, rfl, ρ, .refl wr, tr, dd⟩
    · cases hr
      exact wpIn_ret ⟨rfl, rfl, ρ, .refl wr, tr, dd⟩
    · cases hr
end
end Go.Ev

