/-
Proved here: slices, maps, strings and appends of the evaluator are sound.
Conditions: none beyond those that the statements name.
-/
import Derived.Test.YtiljcnaeckeilaaGreatDoorEvB
namespace Go.Ev
open Go

/-! strings as numbers -/
theorem StrR.size {len n : Nat} {s : ByteArray} (h : StrR len n s) : s.size = len := by rw [← h.1]; simp
theorem strNat_at (l : List UInt8) (i : Nat) (b : UInt8) (h : l[i]? = some b) : strAt l.length (strNat l 0) i = b.toNat := by
  obtain ⟨hlt, hv⟩ := List.getElem?_eq_some_iff.1 h
  have e : l = l.take i ++ ([b] ++ l.drop (i + 1)) := by
    rw [← hv]; simp
  have el : l.length = i + (1 + (l.drop (i + 1)).length) := by simp; omega
  have e2 : l.length - 1 - i = (l.drop (i + 1)).length := by omega
  have hd := strNat_lt (l.drop (i + 1))
  have e3 : strNat l 0 = (strNat (l.take i) 0 * 256 + b.toNat) * 256 ^ (l.drop (i + 1)).length + strNat (l.drop (i + 1)) 0 := by
    conv => lhs; rw [e]
    rw [strNat_append, strNat_append]
    have : strNat [b] 0 = b.toNat := by simp [strNat]
    rw [this]
    simp only [List.length_append, List.length_singleton, Nat.pow_add, Nat.pow_one]
    rw [Nat.add_mul, Nat.mul_assoc, Nat.add_assoc]
  show (strNat l 0 / 256 ^ (l.length - 1 - i)) % 256 = b.toNat
  rw [e2, e3]
  generalize hm : 256 ^ (l.drop (i + 1)).length = m at *
  have hm0 : 0 < m := by rw [← hm]; exact Nat.pow_pos (by omega)
  rw [Nat.mul_comm _ m, Nat.mul_add_div hm0, Nat.div_eq_of_lt hd, Nat.add_zero]
  have := b.toNat_lt
  omega
theorem strNat_sub (l : List UInt8) (lo hi : Nat) (h1 : lo ≤ hi) (h2 : hi ≤ l.length) : strSub l.length (strNat l 0) lo hi = strNat ((l.take hi).drop lo) 0 := by
  have e : l = l.take lo ++ ((l.take hi).drop lo ++ l.drop hi) := by
    have a1 : l.take hi = l.take lo ++ (l.take hi).drop lo := by
      have := (List.take_append_drop lo (l.take hi)).symm
      rw [List.take_take, Nat.min_eq_left h1] at this
      exact this
    have a2 : l = l.take hi ++ l.drop hi := (List.take_append_drop hi l).symm
    rw [← List.append_assoc, ← a1]; exact a2
  have e2 : l.length - hi = (l.drop hi).length := by simp
  have e4 : hi - lo = ((l.take hi).drop lo).length := by simp; omega
  have hd := strNat_lt (l.drop hi)
  have hm := strNat_lt ((l.take hi).drop lo)
  have e3 : strNat l 0 = (strNat (l.take lo) 0 * 256 ^ ((l.take hi).drop lo).length + strNat ((l.take hi).drop lo) 0) * 256 ^ (l.drop hi).length + strNat (l.drop hi) 0 := by
    conv => lhs; rw [e]
    rw [strNat_append, strNat_append]
    simp only [List.length_append, Nat.pow_add]
    rw [Nat.add_mul, Nat.mul_assoc, Nat.add_assoc]
  show (strNat l 0 / 256 ^ (l.length - hi)) % 256 ^ (hi - lo) = _
  rw [e2, e3, e4]
  generalize hm1 : 256 ^ (l.drop hi).length = m at *
  generalize hm2 : 256 ^ ((l.take hi).drop lo).length = k at *
  have hm0 : 0 < m := by rw [← hm1]; exact Nat.pow_pos (by omega)
  rw [Nat.mul_comm _ m, Nat.mul_add_div hm0, Nat.div_eq_of_lt hd, Nat.add_zero, Nat.mul_comm, Nat.mul_add_mod]
  exact Nat.mod_eq_of_lt hm
theorem StrR.sub {len n : Nat} {s : ByteArray} (h : StrR len n s) {lo hi : Nat} (h1 : lo ≤ hi) (h2 : hi ≤ len) : StrR (hi - lo) (strSub len n lo hi) (s.extract lo hi) := by
  obtain ⟨rfl, rfl⟩ := h
  have e : (s.extract lo hi).data.toList = (s.data.toList.take hi).drop lo := by
    simp [ByteArray.data_extract, List.drop_take]
  refine ⟨?_, ?_⟩
  · rw [e]; simp at *; omega
  · rw [e, strNat_sub _ _ _ h1 (by simpa using h2)]
theorem StrR.at {len n : Nat} {s : ByteArray} (h : StrR len n s) {i : Nat} (hi : i < len) : ∃ b, s[i]? = some b ∧ b.toNat = strAt len n i ∧ s.data.toList[i]? = some b := by
  obtain ⟨rfl, rfl⟩ := h
  have hb : s.data.toList[i]? = some s.data.toList[i] := List.getElem?_eq_getElem hi
  have hs : i < s.size := by simpa using hi
  refine ⟨s.data.toList[i], ?_, ?_, hb⟩
  · rw [getElem?_pos s i hs]; rfl
  · rw [strNat_at _ _ _ hb]

section
variable {P : Program} {ρ : Nat → Value} {w0 : World} {φ : Key → Option Pl} {σ : St} {w : World}

theorem add_off (g o k : Nat) : (⟨g, o, none⟩ : Addr).add k = ⟨g, o + k, none⟩ := by
  unfold Addr.add; split <;> simp_all

/-- a bound -/
theorem bnd_ok (hC : Ctx P ρ w0) {nt : Nat} {e : Env} {a : Act} (hE : ER ρ φ nt e a.tmps) {x : Option Operand} {x' : Option Opd} (hx : lOpt P x = some x') {d top r : Nat} (h : bnd x' e d top = some r) :
    (x = none ∧ r = d) ∨ ∃ y k, x = some y ∧ a.eval y = .int k (Int.ofNat r) ∧ r ≤ top := by
  cases x with
  | none => simp only [lOpt] at hx; cases hx; exact .inl ⟨rfl, by simpa [bnd] using h.symm⟩
  | some y =>
    simp only [lOpt] at hx
    split at hx
    case h_2 => cases hx
    rename_i z hz
    cases hx
    have h : (z.ev e).natV none (fun n => bcond (Nat.ble n top) (some n) none) = some r := h
    obtain ⟨k, n, hn, h2⟩ := natV_val h (by simp)
    obtain ⟨h3, h4⟩ := bcond_none h2
    cases h4
    have hv := lOpd_VR hC.one hz hE
    rw [hn] at hv
    exact .inr ⟨y, k, rfl, intK_VR hv, Nat.le_of_ble_eq_true h3⟩
theorem sliceBound_ok {k : IntKind} {r top : Nat} (h : r ≤ top) (c : BoundsCode) (w : World) : (Instr.sliceBound (.int k (Int.ofNat r)) top c).run P w = .ok r w := by
  have : (0 : Int) ≤ Int.ofNat r ∧ Int.ofNat r ≤ (top : Int) := ⟨Int.natCast_nonneg _, by show (r : Int) ≤ top; omega⟩
  simp only [Instr.sliceBound, asIntOf, Sem.run_bind, Sem.run_pure, Result.andThen_ok, this, and_self, if_true]
  rfl
theorem sliceBounds_ok (hC : Ctx P ρ w0) {nt : Nat} {e : Env} {a : Act} (hE : ER ρ φ nt e a.tmps) {lo hi mx : Option Operand} {lo' hi' mx' : Option Opd} (h1 : lOpt P lo = some lo') (h2 : lOpt P hi = some hi') (h3 : lOpt P mx = some mx')
    (hmx : mx.isSome → hi.isSome) (b : Bool) {len cap t1 t2 l h m : Nat} (g1 : bnd mx' e cap t1 = some m) (gt1 : t1 ≤ cap) (g2 : bnd hi' e len t2 = some h) (gt2 : hi.isSome → t2 ≤ m) (g3 : bnd lo' e 0 h = some l) (w : World) :
    (Instr.sliceBounds b len cap (lo.map a.eval) (hi.map a.eval) (mx.map a.eval)).run P w = .ok (l, h, m) w := by
  have r1 := bnd_ok hC hE h3 g1
  have r2 := bnd_ok hC hE h2 g2
  have r3 := bnd_ok hC hE h1 g3
  unfold Instr.sliceBounds
  rcases r1 with ⟨rfl, rfl⟩ | ⟨y, k, rfl, e1, e2⟩
  · rcases r2 with ⟨rfl, rfl⟩ | ⟨y2, k2, rfl, e3, e4⟩
    · simp only [Option.map_none, Sem.run_bind, Sem.run_pure, Result.andThen_ok]
      rcases r3 with ⟨rfl, rfl⟩ | ⟨y3, k3, rfl, e5, e6⟩
      · rfl
      · simp only [Option.map_some, e5, Sem.run_bind, Sem.run_pure]
        refine (congrArg (fun z => Result.andThen z _) (sliceBound_ok e6 _ w)).trans ?_
        rfl
    · simp only [Option.map_none, Option.map_some, Sem.run_bind, Sem.run_pure, Result.andThen_ok, e3]
      refine (congrArg (fun z => Result.andThen z _) (sliceBound_ok (Nat.le_trans e4 (gt2 rfl)) _ w)).trans ?_
      simp only [Result.andThen_ok]
      rcases r3 with ⟨rfl, rfl⟩ | ⟨y3, k3, rfl, e5, e6⟩
      · rfl
      · simp only [Option.map_some, e5, Sem.run_bind, Sem.run_pure]
        refine (congrArg (fun z => Result.andThen z _) (sliceBound_ok e6 _ w)).trans ?_
        rfl
  · rcases r2 with ⟨rfl, rfl⟩ | ⟨y2, k2, rfl, e3, e4⟩
    · simp at hmx
    · simp only [Option.map_some, Sem.run_bind, e1, e3]
      refine (congrArg (fun z => Result.andThen z _) (sliceBound_ok (Nat.le_trans e2 gt1) _ w)).trans ?_
      simp only [Result.andThen_ok]
      refine (congrArg (fun z => Result.andThen z _) (sliceBound_ok (Nat.le_trans e4 (gt2 rfl)) _ w)).trans ?_
      simp only [Result.andThen_ok]
      rcases r3 with ⟨rfl, rfl⟩ | ⟨y3, k3, rfl, e5, e6⟩
      · rfl
      · simp only [Option.map_some, e5, Sem.run_bind, Sem.run_pure]
        refine (congrArg (fun z => Result.andThen z _) (sliceBound_ok e6 _ w)).trans ?_
        rfl
end
end Go.Ev
namespace Go.Ev
open Go

section
variable {P : Program} {ρ : Nat → Value} {w0 : World} {φ : Key → Option Pl} {σ : St} {w : World}
variable (hC : Ctx P ρ w0) (hW : WR P ρ w0 φ σ w) {nt : Nat} {e : Env} {a : Act} (hE : ER ρ φ nt e a.tmps) {cf : Cf} {v : AV} {σ' : St} {o : Oper}
include hC hW hE

theorem sliS_ok {t : TypeId} {x : Operand} {lo hi : Option Operand} {x' : Opd} {lo' hi' : Option Opd} (ho : o.op = .slice t x lo hi none) (ht : P.underlying t = some .string) (h1 : lOpd P x = some x') (h2 : lOpt P lo = some lo') (h3 : lOpt P hi = some hi')
    (h : A.sliS x' lo' hi' cf e σ = .val v σ') : ValOk P ρ w0 φ σ w (execOp a.eval o) v σ' := by
  obtain ⟨len, n, hx, h⟩ := strV_val h (by simp)
  obtain ⟨h', rfl⟩ := ofV_val h
  obtain ⟨hh, g1, h4⟩ := obind_some h'
  obtain ⟨l, g2, h5⟩ := obind_some h4
  simp only [natK_eq] at h5
  cases h5
  have hv := lOpd_VR hC.one h1 hE
  rw [hx] at hv
  cases hx' : a.eval x <;> rw [hx'] at hv <;> cases hv
  rename_i s hs
  have hb := sliceBounds_ok (P := P) hC hE h2 h3 (mx := none) (mx' := none) rfl (by simp) false (cap := len) (t1 := len) rfl (Nat.le_refl _) g1 (fun _ => Nat.le_refl _) g2 w
  have hle : l ≤ hh ∧ hh ≤ len := by
    have b1 := bnd_ok hC hE h3 g1
    have b2 := bnd_ok hC hE h2 g2
    constructor
    · rcases b2 with ⟨_, rfl⟩ | ⟨_, _, _, _, h⟩
      · omega
      · exact h
    · rcases b1 with ⟨_, rfl⟩ | ⟨_, _, _, _, h⟩
      · omega
      · exact h
  refine .pure hW ?_ (.str _ _ _ (hs.sub hle.1 hle.2))
  rw [← hs.size] at hb
  simp only [Option.map_none] at hb
  simp [execOp, ho, Instr.sliceAt, run_underlying ht, Instr.slice, hx', hb]
omit hW hE in
theorem sliAt_VR {b : Key} {off esz l h m c : Nat} {pl : Pl} (hp : φ b = some pl) (hc : c = m - l) : VR ρ φ (A.sliAt b off esz l h m) (.slice (some (if m = l then ⟨pl.blk, pl.base + off, none⟩ else (⟨pl.blk, pl.base + off, none⟩ : Addr).add (l * esz))) (h - l) c) := by
  have _ := hC
  subst hc
  unfold A.sliAt
  rw [bcond_eq]
  split
  · rename_i he
    have he := Nat.eq_of_beq_eq_true he
    rw [if_pos he]
    exact .sliE _ _ _ _ _ hp
  · rename_i he
    have he : ¬ m = l := by rintro rfl; exact he (Nat.beq_refl _)
    rw [if_neg he]
    simp only [natK_eq, add_off]
    have := VR.sliE (ρ := ρ) (φ := φ) b (off + l * esz) (h - l) (m - l) pl hp
    rw [← Nat.add_assoc] at this
    exact this
theorem sliA_ok {t et : TypeId} {x : Operand} {lo hi mx : Option Operand} {x' : Opd} {lo' hi' mx' : Option Opd} {n esz : Nat} (ho : o.op = .slice t x lo hi mx) (ht : P.underlying t = some (.array n et)) (hs : sizeT P et = some esz) (h1 : lOpd P x = some x') (h2 : lOpt P lo = some lo') (h3 : lOpt P hi = some hi') (h4 : lOpt P mx = some mx')
    (hm : mx.isSome → hi.isSome) (h : A.sliA n esz x' lo' hi' mx' cf e σ = .val v σ') : ValOk P ρ w0 φ σ w (execOp a.eval o) v σ' := by
  obtain ⟨b, off, hx, h⟩ := ptrK_val h (by simp)
  obtain ⟨h', rfl⟩ := ofV_val h
  obtain ⟨m, g0, h5⟩ := obind_some h'
  obtain ⟨hh, g1, h6⟩ := obind_some h5
  obtain ⟨l, g2, h7⟩ := obind_some h6
  cases h7
  have hv := lOpd_VR hC.one h1 hE
  rw [hx] at hv
  cases hx' : a.eval x <;> rw [hx'] at hv <;> cases hv
  rename_i pl hpl
  have hb := sliceBounds_ok (P := P) hC hE h2 h3 h4 hm false g0 (Nat.le_refl _) g1 (fun _ => Nat.le_refl _) g2 w
  refine .pure hW ?_ (sliAt_VR hC hpl rfl)
  simp [execOp, ho, Instr.sliceAt, run_underlying ht, Instr.sureAddr, hx', hb, run_sizeOf' hs]
theorem sli_ok {t et : TypeId} {x : Operand} {lo hi mx : Option Operand} {x' : Opd} {lo' hi' mx' : Option Opd} {esz : Nat} (ho : o.op = .slice t x lo hi mx) (ht : P.underlying t = some (.slice et)) (hs : sizeT P et = some esz) (h1 : lOpd P x = some x') (h2 : lOpt P lo = some lo') (h3 : lOpt P hi = some hi') (h4 : lOpt P mx = some mx')
    (hm : mx.isSome → hi.isSome) (h0 : esz ≠ 0) (h : A.sli esz x' lo' hi' mx' cf e σ = .val v σ') : ValOk P ρ w0 φ σ w (execOp a.eval o) v σ' := by
  have hv := lOpd_VR hC.one h1 hE
  have fin : ∀ {base : Option Addr} {len cap l hh m : Nat} {v : AV}, a.eval x = .slice base len cap → (Instr.sliceBounds true len cap (lo.map a.eval) (hi.map a.eval) (mx.map a.eval)).run P w = .ok (l, hh, m) w →
      VR ρ φ v (.slice (if m = l then base else base.map (·.add (l * esz))) (hh - l) (m - l)) → ValOk P ρ w0 φ σ w (execOp a.eval o) v σ := by
    intro base len cap l hh m v e1 e2 e3
    refine .pure hW ?_ e3
    simp [execOp, ho, Instr.sliceAt, run_underlying ht, Instr.slice, e1, e2, run_sizeOf' hs]
  unfold A.sli at h
  split at h
  · rename_i hx
    rw [hx] at hv
    obtain ⟨h', rfl⟩ := ofV_val h
    obtain ⟨m, g0, h5⟩ := obind_some h'
    obtain ⟨hh, g1, h6⟩ := obind_some h5
    obtain ⟨l, g2, h7⟩ := obind_some h6
    cases h7
    cases hx' : a.eval x <;> rw [hx'] at hv <;> cases hv
    have hb := sliceBounds_ok (P := P) hC hE h2 h3 h4 hm true g0 (Nat.le_refl _) g1 (fun _ => Nat.le_refl _) g2 w
    have m0 : m = 0 := by
      rcases bnd_ok hC hE h4 g0 with ⟨_, rfl⟩ | ⟨_, _, _, _, h⟩ <;> omega
    have hh0 : hh = 0 := by
      rcases bnd_ok hC hE h3 g1 with ⟨_, rfl⟩ | ⟨_, _, _, _, h⟩ <;> omega
    have l0 : l = 0 := by
      rcases bnd_ok hC hE h2 g2 with ⟨_, rfl⟩ | ⟨_, _, _, _, h⟩ <;> omega
    subst m0 hh0 l0
    exact fin hx' hb (by simpa using VR.nils)
  · rename_i b off len cap hx
    rw [hx] at hv
    have sub : ∀ {pl : Pl} {m l hh : Nat}, φ b = some pl → VR ρ φ (A.sliAt b off esz l hh m) (.slice (if m = l then some ⟨pl.blk, pl.base + off, none⟩ else (some ⟨pl.blk, pl.base + off, none⟩ : Option Addr).map (·.add (l * esz))) (hh - l) (m - l)) := by
      intro pl m l hh hpl
      have := sliAt_VR (ρ := ρ) hC (off := off) (esz := esz) (l := l) (h := hh) (m := m) hpl rfl
      split at this
      · rename_i he; rw [if_pos he]; exact this
      · rename_i he; rw [if_neg he]; exact this
    split at h
    · rename_i c
      obtain ⟨h', rfl⟩ := ofV_val h
      obtain ⟨m, g0, h5⟩ := obind_some h'
      obtain ⟨hh, g1, h6⟩ := obind_some h5
      obtain ⟨l, g2, h7⟩ := obind_some h6
      cases h7
      cases hx' : a.eval x <;> rw [hx'] at hv <;> cases hv
      rename_i pl hpl
      have hb := sliceBounds_ok (P := P) hC hE h2 h3 h4 hm true g0 (Nat.le_refl _) g1 (fun _ => Nat.le_refl _) g2 w
      exact fin hx' hb (sub hpl)
    · rename_i z
      cases hx' : a.eval x <;> rw [hx'] at hv <;> cases hv
      rename_i c pl hpl hlen hsz
      cases mx' with
      | some mo =>
        have h : OR.ofV (obind (bnd (some mo) e 0 len) fun m => obind (bnd hi' e len m) fun h => obind (bnd lo' e 0 h) fun l => some (A.sliAt b off esz l h m)) σ = .val v σ' := h
        obtain ⟨h', rfl⟩ := ofV_val h
        obtain ⟨m, g0, h5⟩ := obind_some h'
        obtain ⟨hh, g1, h6⟩ := obind_some h5
        obtain ⟨l, g2, h7⟩ := obind_some h6
        cases h7
        have hb := sliceBounds_ok (P := P) (cap := c) hC hE h2 h3 h4 hm true (t1 := len) g0 hlen g1 (fun _ => Nat.le_refl _) g2 w
        exact fin hx' hb (sub hpl)
      | none =>
        have hmx : mx = none := by
          cases mx with
          | none => rfl
          | some y => simp only [lOpt] at h4; split at h4 <;> cases h4
        subst hmx
        have h : bcond (Nat.beq z esz) (OR.ofV (obind (Option.rec (some len) (fun _ => obind (σ.cells b) fun p => some (Nat.div (Nat.sub (lenL p.2) off) esz)) hi') fun top =>
          obind (bnd hi' e len top) fun h => obind (bnd lo' e 0 h) fun l =>
          bcond (Nat.beq l 0) (some (.sli b off h (.op esz)))
            (bcond (Nat.blt l (bcond (Nat.ble len h) h len)) (natK (Nat.add off (Nat.mul l esz)) fun o => natK (Nat.sub h l) fun k => some (.sli b o k (.op esz)))
              (some .esl))) σ) .bad = .val v σ' := h
        obtain ⟨hz, h⟩ := bcond_val h (by simp)
        have hz := Nat.eq_of_beq_eq_true hz
        subst hz
        obtain ⟨h', rfl⟩ := ofV_val h
        obtain ⟨top, g0, h5⟩ := obind_some h'
        obtain ⟨hh, g1, h6⟩ := obind_some h5
        obtain ⟨l, g2, h7⟩ := obind_some h6
        have htop : hi.isSome → top ≤ c := by
          intro hs
          cases hi with
          | none => cases hs
          | some y =>
            cases hi' with
            | none => simp only [lOpt] at h3; split at h3 <;> cases h3
            | some y' =>
              have g0 : (obind (σ'.cells b) fun p => some (Nat.div (Nat.sub (lenL p.2) off) z)) = some top := g0
              obtain ⟨p, k1, k2⟩ := obind_some g0
              cases k2
              obtain ⟨cc, fz, q1, _, q2, q3, _⟩ := hW.row hpl (St.cells_some k1)
              rw [lenL_eq]
              show (p.2.length - off) / z ≤ c
              apply Nat.div_le_of_le_mul
              rw [Nat.mul_comm]
              omega
        have hb := sliceBounds_ok (P := P) (cap := c) (mx := none) (mx' := none) hC hE h2 h3 h4 hm true (t1 := c) rfl (Nat.le_refl _) g1 htop g2 w
        have hhc : hh ≤ c := by
          rcases bnd_ok hC hE h3 g1 with ⟨_, rfl⟩ | ⟨y, _, rfl, _, h⟩
          · exact hlen
          · exact Nat.le_trans h (htop rfl)
        have hlh : l ≤ hh := by
          rcases bnd_ok hC hE h2 g2 with ⟨_, rfl⟩ | ⟨y, _, rfl, _, h⟩
          · omega
          · exact h
        refine fin hx' hb ?_
        rw [bcond_eq] at h7
        split at h7
        · rename_i hl
          have hl := Nat.eq_of_beq_eq_true hl
          subst hl
          cases h7
          have r := VR.sliO (ρ := ρ) (φ := φ) b off hh z c pl hpl hsz hhc
          split
          · simpa using r
          · have e0 : (⟨pl.blk, pl.base + off, none⟩ : Addr).add (0 * z) = ⟨pl.blk, pl.base + off, none⟩ := by rw [add_off]; simp
            simp only [Option.map_some, e0]
            simpa using r
        · rename_i hl
          rw [bcond_eq] at h7
          split at h7
          · rename_i hlt
            have hlt : l < bcond (Nat.ble len hh) hh len := Nat.blt_eq ▸ hlt
            have hlc : l < c := by
              rw [bcond_eq] at hlt
              split at hlt <;> omega
            simp only [natK_eq] at h7
            cases h7
            have e2 : pl.base + (off + l * z) + (c - l) * z = pl.size := by
              rw [← hsz, Nat.sub_mul]
              have : l * z ≤ c * z := Nat.mul_le_mul_right z (by omega)
              omega
            have r := VR.sliO (ρ := ρ) (φ := φ) b (off + l * z) (hh - l) z (c - l) pl hpl e2 (by omega)
            rw [if_neg (by omega)]
            simp only [Option.map_some, add_off]
            rw [Nat.add_assoc]
            exact r
          · rename_i hlt
            cases h7
            have : ¬ l < bcond (Nat.ble len hh) hh len := by
              intro h; rw [← Nat.blt_eq] at h; exact hlt h
            have hl2 : hh - l = 0 := by
              rw [bcond_eq] at this
              split at this
              · omega
              · rename_i hle
                have : ¬ len ≤ hh := by intro h; exact hle (Nat.ble_eq_true_of_le h)
                omega
            rw [hl2]
            split
            · exact .esl _ _
            · exact .esl _ _
  · cases h
end
end Go.Ev
namespace Go.Ev
open Go

section
variable {P : Program} {ρ : Nat → Value} {w0 : World} {φ : Key → Option Pl} {σ : St} {w : World}
variable (hC : Ctx P ρ w0) (hW : WR P ρ w0 φ σ w) {nt : Nat} {e : Env} {a : Act} (hE : ER ρ φ nt e a.tmps) {cf : Cf} {v : AV} {σ' : St} {o : Oper}
include hC hW hE

theorem ixA_ok {t et : TypeId} {x i : Operand} {x' i' : Opd} {esz : Nat} (ho : o.op = .indexAddr t x i) (ht : P.underlying t = some (.slice et)) (hs : sizeT P et = some esz) (h1 : lOpd P x = some x') (h2 : lOpd P i = some i')
    (h : A.ixA esz x' i' cf e σ = .val v σ') : ValOk P ρ w0 φ σ w (execOp a.eval o) v σ' := by
  have hv := lOpd_VR hC.one h1 hE
  have hi := lOpd_VR hC.one h2 hE
  unfold A.ixA at h
  split at h
  · rename_i b off len cap hx
    obtain ⟨k, n, hn, h⟩ := natV_val h (by simp)
    obtain ⟨hlt, h⟩ := bcond_val h (by simp)
    have hlt : n < len := Nat.blt_eq ▸ hlt
    simp only [natK_eq] at h
    cases h
    rw [hx] at hv
    rw [hn] at hi
    have hi := intK_VR hi
    have hlt' : (0 : Int) ≤ Int.ofNat n ∧ Int.ofNat n < (len : Int) := ⟨Int.natCast_nonneg _, by show (n : Int) < len; omega⟩
    have fin : ∀ {pl : Pl} {c : Nat}, φ b = some pl → a.eval x = .slice (some ⟨pl.blk, pl.base + off, none⟩) len c → ValOk P ρ w0 φ σ w (execOp a.eval o) (.ptr b (Nat.add off (Nat.mul n esz))) σ := by
      intro pl c hpl hx'
      refine .pure hW ?_ (.ptr _ _ _ hpl)
      simp only [execOp, ho, Instr.indexAt, hi, asIntOf, hx', Sem.run_bind, Sem.run_pure, Result.andThen_ok, run_underlying ht, hlt', and_self, if_true, run_sizeOf' hs, add_off]
      simp [Nat.add_assoc]
    cases hx' : a.eval x <;> rw [hx'] at hv <;> cases hv
    · rename_i pl hpl
      exact fin hpl hx'
    · rename_i hpl _ _
      exact fin hpl hx'
  · cases h
theorem ixAA_ok {t et : TypeId} {x i : Operand} {x' i' : Opd} {n esz : Nat} (ho : o.op = .indexAddr t x i) (ht : P.underlying t = some (.array n et)) (hs : sizeT P et = some esz) (h1 : lOpd P x = some x') (h2 : lOpd P i = some i')
    (h : A.ixAA n esz x' i' cf e σ = .val v σ') : ValOk P ρ w0 φ σ w (execOp a.eval o) v σ' := by
  have hv := lOpd_VR hC.one h1 hE
  have hi := lOpd_VR hC.one h2 hE
  obtain ⟨b, off, hx, h⟩ := ptrK_val h (by simp)
  obtain ⟨k, m, hn, h⟩ := natV_val h (by simp)
  obtain ⟨hlt, h⟩ := bcond_val h (by simp)
  have hlt : m < n := Nat.blt_eq ▸ hlt
  simp only [natK_eq] at h
  cases h
  rw [hx] at hv
  rw [hn] at hi
  have hi := intK_VR hi
  cases hx' : a.eval x <;> rw [hx'] at hv <;> cases hv
  rename_i pl hpl
  have hlt' : (0 : Int) ≤ Int.ofNat m ∧ Int.ofNat m < (n : Int) := ⟨Int.natCast_nonneg _, by show (m : Int) < n; omega⟩
  refine .pure hW ?_ (.ptr _ _ _ hpl)
  simp only [execOp, ho, Instr.indexAt, hi, asIntOf, hx', Instr.sureAddr, Sem.run_bind, Sem.run_pure, Result.andThen_ok, run_underlying ht, hlt', and_self, if_true, run_sizeOf' hs, add_off]
  simp [Nat.add_assoc]
theorem ix_ok {t et : TypeId} {x i : Operand} {x' i' : Opd} {n esz : Nat} (ho : o.op = .index t x i) (ht : P.underlying t = some (.array n et)) (hs : sizeT P et = some esz) (hu : (P.underlying et).isSome) (h1 : lOpd P x = some x') (h2 : lOpd P i = some i')
    (h : A.ix n esz (isAggT P et) x' i' cf e σ = .val v σ') : ValOk P ρ w0 φ σ w (execOp a.eval o) v σ' := by
  have hv := lOpd_VR hC.one h1 hE
  have hi := lOpd_VR hC.one h2 hE
  obtain ⟨l, hx, h⟩ := aggV_val h (by simp)
  obtain ⟨k, m, hn, h⟩ := natV_val h (by simp)
  obtain ⟨hlt, h⟩ := bcond_val h (by simp)
  have hlt : m < n := Nat.blt_eq ▸ hlt
  rw [hx] at hv
  rw [hn] at hi
  have hi := intK_VR hi
  cases hx' : a.eval x <;> rw [hx'] at hv <;> cases hv
  rename_i vs h1v hvs
  have hlt' : (0 : Int) ≤ Int.ofNat m ∧ Int.ofNat m < (n : Int) := ⟨Int.natCast_nonneg _, by show (m : Int) < n; omega⟩
  have fin : ∀ {v : AV} {r : Value}, (part et vs.toArray (m * esz)).run P w = .ok r w → VR ρ φ v r → ValOk P ρ w0 φ σ w (execOp a.eval o) v σ := by
    intro v r e1 e2
    refine .pure hW ?_ e2
    simp only [execOp, ho, Instr.index, hi, asIntOf, hx', Sem.run_bind, Sem.run_pure, Result.andThen_ok, run_underlying ht, hlt', and_self, if_true, run_sizeOf' hs]
    simp [e1]
  cases ha : isAggT P et with
  | true =>
    rw [ha] at h
    have h : OR.ofV (obind (takeL esz (dropL l (Nat.mul m esz))) fun l => some (AV.agg l)) σ = .val v σ' := h
    obtain ⟨h', rfl⟩ := ofV_val h
    obtain ⟨q, g1, g2⟩ := obind_some h'
    cases g2
    obtain ⟨rfl, g3⟩ := takeL_some g1
    rw [dropL_eq] at g3 ⊢
    have hl := hvs.length
    have g3 : esz ≤ (l.drop (m * esz)).length := g3
    by_cases hz : m * esz ≤ l.length
    · have := run_part hs hu vs (m * esz) (by simp at g3; omega) (by simp [ha]) w
      rw [asT, ha] at this
      refine fin this (.agg _ _ ((hvs.drop _).take _) ?_)
      intro y hy
      exact h1v y (List.mem_of_mem_drop (List.mem_of_mem_take hy))
    · -- a part of no cells behind the end
      exfalso
      have h0 : esz = 0 := by simp at g3; omega
      subst h0; simp at hz
  | false =>
    rw [ha] at h
    have h : OR.ofV (nthL l (Nat.mul m esz)) σ = .val v σ' := h
    obtain ⟨h', rfl⟩ := ofV_val h
    rw [nthL_eq] at h'
    obtain ⟨r, g1, g2⟩ := hvs.get h'
    refine fin ?_ g2
    have g1 : vs[m * esz]? = some r := g1
    unfold part
    simp [run_isAgg' et w hu, ha, g1]
theorem ixS_ok {t : TypeId} {x i : Operand} {x' i' : Opd} (ho : o.op = .index t x i) (ht : P.underlying t = some .string) (h1 : lOpd P x = some x') (h2 : lOpd P i = some i')
    (h : A.ixS x' i' cf e σ = .val v σ') : ValOk P ρ w0 φ σ w (execOp a.eval o) v σ' := by
  have hv := lOpd_VR hC.one h1 hE
  have hi := lOpd_VR hC.one h2 hE
  obtain ⟨len, n, hx, h⟩ := strV_val h (by simp)
  obtain ⟨k, m, hn, h⟩ := natV_val h (by simp)
  obtain ⟨hlt, h⟩ := bcond_val h (by simp)
  have hlt : m < len := Nat.blt_eq ▸ hlt
  simp only [natK_eq] at h
  cases h
  rw [hx] at hv
  rw [hn] at hi
  have hi := intK_VR hi
  cases hx' : a.eval x <;> rw [hx'] at hv <;> cases hv
  rename_i s hs
  obtain ⟨b, g1, g2, _⟩ := hs.at hlt
  refine .pure hW ?_ (.int .u8 (Int.ofNat (strAt len n m)))
  have h0 : (0 : Int) ≤ Int.ofNat m := Int.natCast_nonneg _
  simp only [execOp, ho, Instr.index, hi, asIntOf, hx', Sem.run_bind, Sem.run_pure, Result.andThen_ok, run_underlying ht, h0, if_true]
  have e1 : (Int.ofNat m).toNat = m := rfl
  simp [g1, g2]
omit hC hW hE in
theorem getObj_ok {g : Nat} {ob : Obj} (h : w.heap[g]? = some ob) (hn : ∀ c t f, ob ≠ .cells c t f) : (getObj g).run P w = .ok ob w := by
  cases ob <;> first | exact absurd rfl (hn _ _ _) | simp [getObj, Sem.run, h]
omit hC hW hE in
theorem Ents.length {ρ φ} {l : List (AV × AV × Nat)} {es : List MapEntry} (h : Ents ρ φ l es) : l.length = es.length := by
  induction h with
  | nil => rfl
  | cons _ _ _ _ _ _ _ _ _ _ ih => simp [ih]
omit hC hW hE in
theorem lenE_eq (l : List (AV × AV × Nat)) : lenE l = l.length := by
  induction l with
  | nil => rfl
  | cons a l ih => show lenE l + 1 = _; rw [ih]; rfl
omit hC hW hE in
/-- the map behind a value -/
theorem mapOf_ok (hW : WR P ρ w0 φ σ w) {x : AV} {v : Value} (hv : VR ρ φ x v) {es : List (AV × AV × Nat)} (h : mapOf σ x = some es) :
    (v = .map none ∧ es = []) ∨ ∃ g ents ck, v = .map (some g) ∧ w.heap[g]? = some (.map ents ck) ∧ Ents ρ φ es ents.toList := by
  unfold mapOf at h
  split at h
  · cases h; cases hv; exact .inl ⟨rfl, rfl⟩
  · rename_i b
    obtain ⟨p, h1, h2⟩ := obind_some h
    cases h2
    obtain ⟨x, h3, h4⟩ := obind_some h1
    split at h4
    case h_2 => cases h4
    rename_i es c
    cases h4
    cases hv
    rename_i pl hpl
    obtain ⟨pl', ob, g1, g2, g3⟩ := hW.live _ _ h3
    rw [hpl] at g1; cases g1
    cases ob <;> simp only [BR] at g3
    exact .inr ⟨_, _, _, rfl, g2, g3.2⟩
  · cases h
theorem len_ok {c : Call} {x : Operand} {x' : Opd} {t : TypeId} {d : TypeDesc} {k : LK} (ho : o.op = .call c) (hb : c.callee = .builtin .len) (ha : c.args = #[x]) (ht : c.argTypes[0]? = some t) (hd : P.underlying t = some d)
    (hk : match k with | .sl => ∃ e, d = .slice e | .st => d = .string | .mp => ∃ x y, d = .map x y) (h1 : lOpd P x = some x') (h : A.len k x' cf e σ = .val v σ') :
    ValOk P ρ w0 φ σ w (execOp a.eval o) v σ' := by
  have hv := lOpd_VR hC.one h1 hE
  have fin : ∀ {n : Nat}, (Builtin.len_ c.argTypes o.type #[a.eval x]).run P w = .ok (goInt n) w → ValOk P ρ w0 φ σ w (execOp a.eval o) (.int .i64 (Int.ofNat n)) σ := by
    intro n hr
    refine .pure hW ?_ (.int .i64 (Int.ofNat n))
    simp only [execOp, ho, resolve, hb, ha, Sem.run_bind, Sem.run_pure, Result.andThen_ok, invoke, builtin]
    simp [hr]
    rfl
  cases k with
  | sl =>
    obtain ⟨et, rfl⟩ := hk
    simp only [A.len] at h
    split at h
    · rename_i hx
      cases h; rw [hx] at hv
      cases hx' : a.eval x <;> rw [hx'] at hv <;> cases hv
      exact fin (by simp [Builtin.len_, ht, run_underlying hd, hx'])
    · rename_i hx
      cases h; rw [hx] at hv
      cases hx' : a.eval x <;> rw [hx'] at hv <;> cases hv
      exact fin (by simp [Builtin.len_, ht, run_underlying hd, hx'])
    · rename_i hx
      cases h; rw [hx] at hv
      cases hx' : a.eval x <;> rw [hx'] at hv <;> cases hv
      · exact fin (by simp [Builtin.len_, ht, run_underlying hd, hx'])
      · exact fin (by simp [Builtin.len_, ht, run_underlying hd, hx'])
    · cases h
  | st =>
    cases hk
    simp only [A.len] at h
    split at h
    · rename_i hx
      cases h; rw [hx] at hv
      cases hx' : a.eval x <;> rw [hx'] at hv <;> cases hv
      rename_i s hs
      refine fin ?_
      rw [← hs.size]
      simp [Builtin.len_, ht, run_underlying hd, hx']
    · cases h
  | mp =>
    obtain ⟨kt, et, rfl⟩ := hk
    simp only [A.len] at h
    obtain ⟨h', rfl⟩ := ofV_val h
    obtain ⟨es, g1, g2⟩ := obind_some h'
    rw [natK_eq, lenE_eq] at g2
    cases g2
    refine fin ?_
    rcases mapOf_ok hW hv g1 with ⟨hx', rfl⟩ | ⟨g, ents, ck, hx', q1, q2⟩
    · simp [Builtin.len_, ht, run_underlying hd, hx']
    · have := q2.length
      simp at this
      simp [Builtin.len_, ht, run_underlying hd, hx', getObj_ok (P := P) q1 (by simp), this]
end
end Go.Ev
namespace Go.Ev
open Go

section
variable {P : Program} {ρ : Nat → Value} {w0 : World} {φ : Key → Option Pl} {σ : St} {w : World}

theorem checkKey_ok {t : TypeId} {pk : PK} (ht : primT P t = some pk) (b : Bool) (v : Value) (w : World) : (Instr.checkKey b 10000 t v).run P w = .ok () w := by
  show (Instr.checkKey b (9999 + 1) t v).run P w = .ok () w
  unfold primT at ht
  split at ht <;> cases ht
  all_goals
    rename_i hu
    rw [Instr.checkKey]
    simp [run_underlying hu]
theorem putE_cons (cf : Cf) (pk : PK) (k v : AV) (p : AV × AV × Nat) (l : List (AV × AV × Nat)) {b : Bool} (hb : primEq cf pk k p.1 = some b) :
    putE cf pk k v (p :: l) = bcond b ((k, v, p.2.2) :: l) (p :: putE cf pk k v l) := by
  have : putE cf pk k v (p :: l) = Option.rec (motive := fun _ => List (AV × AV × Nat)) (p :: putE cf pk k v l) (fun b => bcond b ((k, v, p.2.2) :: l) (p :: putE cf pk k v l)) (primEq cf pk k p.1) := rfl
  rw [this, hb]
theorem find_ok {cf : Cf} (hH : HintOk ρ cf) {pk : PK} {t : TypeId} (ht : primT P t = some pk) {d : TypeDesc} (hd : P.underlying t = some d) {k : AV} {kv : Value} (hk : VR ρ φ k kv) :
    ∀ {es : List (AV × AV × Nat)} {ents : List MapEntry} {r : Option AV} (i : Nat), lookE cf pk k es = some r → Ents ρ φ es ents →
      ∃ r', Instr.findNow d kv ents i = some r' ∧ ((r = none ∧ r' = none) ∨ ∃ j e av, r = some av ∧ r' = some (i + j, e.val) ∧ ents[j]? = some e ∧ VR ρ φ av e.val ∧ PrimR pk kv e.key true ∧
        ∀ x xv, VR ρ φ x xv → Ents ρ φ (putE cf pk k x es) (ents.modify j fun e => { e with key := kv, val := xv })) := by
  intro es ents r i h hE
  induction hE generalizing i with
  | nil => cases h; exact ⟨none, rfl, .inl ⟨rfl, rfl⟩⟩
  | cons k1 v1 b1 l e es hk1 hv1 hb1 hl ih =>
    have h : obind (primEq cf pk k k1) (fun b => bcond b (some (some v1)) (lookE cf pk k l)) = some r := h
    obtain ⟨b, hb, h2⟩ := obind_some h
    have hp := primEq_ok hH hb hk hk1
    obtain ⟨d', hd', hs⟩ := hp.sameNow ht
    rw [hd] at hd'; cases hd'
    cases b with
    | true =>
      have h2 : some (some v1) = some r := h2
      cases h2
      refine ⟨some (i, e.val), by simp only [Instr.findNow, hs], .inr ⟨0, e, v1, rfl, rfl, rfl, hv1, hp, ?_⟩⟩
      intro x xv hx
      rw [putE_cons _ _ _ _ _ _ hb]
      exact .cons _ _ _ _ _ _ hk hx hb1 hl
    | false =>
      have h2 : lookE cf pk k l = some r := h2
      obtain ⟨r', g1, g2⟩ := ih (i + 1) h2
      refine ⟨r', by simp only [Instr.findNow, hs]; exact g1, ?_⟩
      rcases g2 with ⟨rfl, rfl⟩ | ⟨j, e2, av, rfl, rfl, q1, q2, q3, q4⟩
      · exact .inl ⟨rfl, rfl⟩
      · refine .inr ⟨j + 1, e2, av, rfl, by rw [Nat.add_assoc, Nat.add_comm 1 j], by simpa using q1, q2, q3, ?_⟩
        intro x xv hx
        rw [putE_cons _ _ _ _ _ _ hb]
        exact .cons _ _ _ _ _ _ hk1 hv1 hb1 (q4 x xv hx)
theorem run_findKey {t : TypeId} {d : TypeDesc} (hd : P.underlying t = some d) {k : Value} {es : List MapEntry} {r : Option (Nat × Value)} (h : Instr.findNow d k es 0 = some r) (w : World) : (Instr.findKey t k es).run P w = .ok r w := by
  simp [Instr.findKey, run_underlying hd, h]
theorem prim_under {t : TypeId} {pk : PK} (ht : primT P t = some pk) : ∃ d, P.underlying t = some d := by
  unfold primT at ht
  split at ht <;> first | exact ⟨_, by assumption⟩ | cases ht
theorem snocE_ok {es : List (AV × AV × Nat)} {ents : List MapEntry} (h : Ents ρ φ es ents) {k v : AV} {kv vv : Value} (hk : VR ρ φ k kv) (hv : VR ρ φ v vv) (b : Nat) :
    Ents ρ φ (snocE es (k, v, b)) (ents ++ [{ key := kv, val := vv, born := b }]) := by
  induction h with
  | nil => exact .cons _ _ _ _ _ _ hk hv rfl .nil
  | cons k1 v1 b1 l e es hk1 hv1 hb1 hl ih => exact .cons _ _ _ _ _ _ hk1 hv1 hb1 ih

variable (hC : Ctx P ρ w0) (hW : WR P ρ w0 φ σ w) {nt : Nat} {e : Env} {a : Act} (hE : ER ρ φ nt e a.tmps) {cf : Cf} (hH : HintOk ρ cf) {v : AV} {σ' : St} {o : Oper}
include hC hW hE hH

theorem look_ok {t kt et : TypeId} {x i : Operand} {x' i' : Opd} {ok : Bool} {pk : PK} {z : AV} (ho : o.op = .lookup t x i ok) (ht : P.underlying t = some (.map kt et)) (hk : primT P kt = some pk) (hz : zeroT P et = some z)
    (h1 : lOpd P x = some x') (h2 : lOpd P i = some i') (h : A.look pk z x' i' ok cf e σ = .val v σ') : ValOk P ρ w0 φ σ w (execOp a.eval o) v σ' := by
  have hv := lOpd_VR hC.one h1 hE
  have hi := lOpd_VR hC.one h2 hE
  obtain ⟨zv, hzv, hrun⟩ := run_zeroValue' (P := P) hz
  have hzr := ofVal_VR (φ := φ) hC.one hzv
  obtain ⟨d, hd⟩ := prim_under hk
  obtain ⟨h', rfl⟩ := ofV_val h
  obtain ⟨es, g1, h3⟩ := obind_some h'
  obtain ⟨r, g2, h4⟩ := obind_some h3
  have tup2 : ∀ {p : AV} {p' : Value} (b : Bool), VR ρ φ p p' → VR ρ φ (bcond ok (.tup [p, .bool b]) p) (if ok = true then .tuple #[p', .bool b] else p') := by
    intro p p' b hp
    cases ok
    · exact hp
    · exact .tup _ [_, _] (.cons _ _ _ _ hp (.cons _ _ _ _ (.bool b) .nil))
  rcases mapOf_ok hW hv g1 with ⟨hx', rfl⟩ | ⟨g, ents, ck, hx', q1, q2⟩
  · cases g2
    cases h4
    have f1 : Instr.findNow d (a.eval i) [] 0 = some none := rfl
    refine .pure hW ?_ (tup2 false hzr)
    simp [execOp, ho, Instr.lookup, run_underlying ht, hx', checkKey_ok hk, run_findKey hd f1 w, hrun]
  · obtain ⟨r', f1, f2⟩ := find_ok hH hk hd hi 0 g2 q2
    have hf := run_findKey hd f1 w
    rcases f2 with ⟨rfl, rfl⟩ | ⟨j, e2, av, rfl, rfl, k1, k2, k3, k4⟩
    · cases h4
      refine .pure hW ?_ (tup2 false hzr)
      simp [execOp, ho, Instr.lookup, run_underlying ht, hx', getObj_ok (P := P) q1 (by simp), checkKey_ok hk, hf, hrun]
    · cases h4
      refine .pure hW ?_ (tup2 true k2)
      simp [execOp, ho, Instr.lookup, run_underlying ht, hx', getObj_ok (P := P) q1 (by simp), checkKey_ok hk, hf]
theorem mapUp_ok {t kt et : TypeId} {x i y : Operand} {x' i' y' : Opd} {pk : PK} (ho : o.op = .mapUpdate t x i y ∨ o.op = .insert t x i y) (ht : P.underlying t = some (.map kt et)) (hk : primT P kt = some pk)
    (h1 : lOpd P x = some x') (h2 : lOpd P i = some i') (h3 : lOpd P y = some y') (h : A.mapUp pk x' i' y' cf e σ = .val v σ') : ValOk P ρ w0 φ σ w (execOp a.eval o) v σ' := by
  have hv := lOpd_VR hC.one h1 hE
  have hi := lOpd_VR hC.one h2 hE
  have hy := lOpd_VR hC.one h3 hE
  obtain ⟨d, hd⟩ := prim_under hk
  have hex : execOp a.eval o = (do Instr.mapUpdate t (a.eval x) (a.eval i) (a.eval y); pure .skip) := by
    rcases ho with ho | ho <;> simp [execOp, ho]
  rw [hex]
  unfold A.mapUp at h
  split at h
  case h_2 => cases h
  rename_i b hx
  obtain ⟨p, g1, h⟩ := orec_val h
  obtain ⟨r, g2, h⟩ := orec_val h
  obtain ⟨q, g3, g4⟩ := obind_some g1
  split at g4
  case h_2 => cases g4
  rename_i es ck
  cases g4
  rw [hx] at hv
  cases hx' : a.eval x <;> rw [hx'] at hv <;> cases hv
  rename_i pl hpl
  obtain ⟨pl', ob, k1, k2, k3⟩ := hW.live _ _ g3
  rw [hpl] at k1; cases k1
  cases ob <;> simp only [BR] at k3
  rename_i ents ck'
  obtain ⟨rfl, k4⟩ := k3
  obtain ⟨r', f1, f2⟩ := find_ok hH hk hd hi 0 g2 k4
  have hf := run_findKey hd f1 w
  have hset : ∀ ob', (setObj pl.blk ob').run P w = .ok () (wput w pl.blk ob') := by
    intro ob'
    simp [setObj, Sem.run, k2, wput]
  rcases f2 with ⟨rfl, rfl⟩ | ⟨j, e2, av, rfl, rfl, q1, q2, q3, q4⟩
  · cases h
    refine ⟨.skip, _, φ, undef, ?_, .inr ⟨rfl, rfl⟩, undef_VR, Go1.put hW g3 hpl (.map (ents.push { key := a.eval i, val := a.eval y, born := ck' }) (ck' + 1)) ⟨rfl, by simpa using snocE_ok k4 hi hy ck'⟩⟩
    simp [Instr.mapUpdate, run_underlying ht, getObj_ok (P := P) k2 (by simp), checkKey_ok hk, hf, hset]
  · cases h
    have hsame : Instr.sameBits 10000 e2.key (a.eval i) = true := by
      cases pk
      · obtain ⟨p, q, e3, e4, e5⟩ := q3
        rw [e3, e4]; simp [Instr.sameBits]; exact (beq_iff_eq.1 e5.symm).symm
      · obtain ⟨k, p, q, e3, e4, e5⟩ := q3
        rw [e3, e4]; simp [Instr.sameBits]
        have := e5.symm; simp at this; exact this.symm
      · obtain ⟨p, q, e3, e4, e5⟩ := q3
        have := e5.symm; simp at this; subst this
        rw [e3, e4]; simp only [Instr.sameBits]; exact (ba_beq _ _).2 rfl
    have hq : ents[j]? = some e2 := by simpa using q1
    have hm := q4 _ _ hy
    refine ⟨.skip, _, φ, undef, ?_, .inr ⟨rfl, rfl⟩, undef_VR, Go1.put hW g3 hpl (.map (ents.modify j fun e => { e with key := a.eval i, val := a.eval y }) ck') ⟨rfl, by simpa using hm⟩⟩
    simp [Instr.mapUpdate, run_underlying ht, getObj_ok (P := P) k2 (by simp), checkKey_ok hk, hf, hset, hq, Instr.keyThatStays, hsame]
end
end Go.Ev
namespace Go.Ev
open Go

section
variable {P : Program} {ρ : Nat → Value} {w0 : World} {φ : Key → Option Pl} {σ : St} {w : World}
variable (hC : Ctx P ρ w0) (hW : WR P ρ w0 φ σ w) {nt : Nat} {e : Env} {a : Act} (hE : ER ρ φ nt e a.tmps) {cf : Cf} {v : AV} {σ' : St} {o : Oper}

theorem setObj_ok {g : Nat} {ob ob' : Obj} (h : w.heap[g]? = some ob) (hn : ∀ c t f, ob ≠ .cells c t f) : (setObj g ob').run P w = .ok () (wput w g ob') := by
  cases ob <;> first | exact absurd rfl (hn _ _ _) | simp [setObj, Sem.run, h, wput]

include hC hW hE
theorem range_ok {t kt et : TypeId} {x : Operand} {x' : Opd} (ho : o.op = .range t x) (ht : P.underlying t = some (.map kt et)) (h1 : lOpd P x = some x') (h : A.range x' cf e σ = .val v σ') :
    ValOk P ρ w0 φ σ w (execOp a.eval o) v σ' := by
  have hv := lOpd_VR hC.one h1 hE
  unfold A.range at h
  split at h
  · rename_i hx
    cases h
    rw [hx] at hv
    cases hx' : a.eval x <;> rw [hx'] at hv <;> cases hv
    have hg := Go1.new hW (.mIter none 0) (.mapIter none 0 #[] 0) 0 ⟨rfl, rfl, rfl, rfl, rfl⟩
    refine ⟨_, _, _, .pointer (some ⟨w.heap.size, 0, none⟩), ?_, .inl rfl, .ptr _ _ _ (ext_same _ _ _), hg⟩
    simp [execOp, ho, Instr.range, run_underlying ht, hx']
  · rename_i b hx
    obtain ⟨p, g1, h⟩ := orec_val h
    obtain ⟨q, g3, g4⟩ := obind_some g1
    split at g4
    case h_2 => cases g4
    rename_i es ck
    cases g4
    cases h
    rw [hx] at hv
    cases hx' : a.eval x <;> rw [hx'] at hv <;> cases hv
    rename_i pl hpl
    obtain ⟨pl', ob, k1, k2, k3⟩ := hW.live _ _ g3
    rw [hpl] at k1; cases k1
    cases ob <;> simp only [BR] at k3
    rename_i ents ck'
    obtain ⟨rfl, k4⟩ := k3
    have hg := Go1.new hW (.mIter (some b) ck') (.mapIter (some pl.blk) ck' #[] ck') 0 ⟨rfl, rfl, rfl, rfl, ⟨pl, ext_PExt hW _ _ _ hpl, rfl⟩⟩
    refine ⟨_, _, _, .pointer (some ⟨w.heap.size, 0, none⟩), ?_, .inl rfl, .ptr _ _ _ (ext_same _ _ _), hg⟩
    simp [execOp, ho, Instr.range, run_underlying ht, hx', getObj_ok (P := P) k2 (by simp)]
  · cases h
theorem rangeS_ok {t : TypeId} {x : Operand} {x' : Opd} (ho : o.op = .range t x) (ht : P.underlying t = some .string) (h1 : lOpd P x = some x') (h : A.rangeS x' cf e σ = .val v σ') :
    ValOk P ρ w0 φ σ w (execOp a.eval o) v σ' := by
  have hv := lOpd_VR hC.one h1 hE
  obtain ⟨len, n, hx, h⟩ := strV_val h (by simp)
  cases h
  rw [hx] at hv
  cases hx' : a.eval x <;> rw [hx'] at hv <;> cases hv
  rename_i s hs
  have hg := Go1.new hW (.sIter len n 0) (.stringIter s 0) 0 ⟨rfl, hs, rfl⟩
  refine ⟨_, _, _, .pointer (some ⟨w.heap.size, 0, none⟩), ?_, .inl rfl, .ptr _ _ _ (ext_same _ _ _), hg⟩
  simp [execOp, ho, Instr.range, run_underlying ht, hx']
/-- the block of an iterator -/
theorem iter_blk {k : Key} {off : Nat} {bb : Blk} {x : Operand} {x' : Opd} (h1 : lOpd P x = some x') (hx : x'.ev e = .ptr k off) (h0 : Nat.beq off 0 = true) (hb : σ.heap.get k = some bb) (hbase : ∀ pl o, BR P ρ φ bb pl o → pl.base = 0) :
    ∃ pl o, φ k = some pl ∧ w.heap[pl.blk]? = some o ∧ BR P ρ φ bb pl o ∧ a.eval x = .pointer (some ⟨pl.blk, 0, none⟩) := by
  have hv := lOpd_VR hC.one h1 hE
  rw [hx] at hv
  cases hx' : a.eval x <;> rw [hx'] at hv <;> cases hv
  rename_i pl hpl
  obtain ⟨pl', ob, k1, k2, k3⟩ := hW.live _ _ hb
  rw [hpl] at k1; cases k1
  have := hbase pl ob k3
  have h0 := Nat.eq_of_beq_eq_true h0
  subst h0
  exact ⟨pl, ob, hpl, k2, k3, by simp [this]⟩
theorem next_ok {x : Operand} {x' : Opd} (ho : o.op = .next x false) (h1 : lOpd P x = some x') (h : A.next x' cf e σ = .val v σ') :
    ValOk P ρ w0 φ σ w (execOp a.eval o) v σ' := by
  obtain ⟨k, off, hx, h⟩ := ptrK_val h (by simp)
  obtain ⟨h0, h⟩ := bcond_val h (by simp)
  obtain ⟨bb, hb, h⟩ := orec_val h
  split at h
  · cases h
    rename_i since
    obtain ⟨pl, ob, g1, g2, g3, g4⟩ := iter_blk hC hW hE h1 hx h0 hb (by intro pl o h; cases o <;> simp only [BR] at h; exact h.1)
    cases ob <;> simp only [BR] at g3
    obtain ⟨_, rfl, rfl, rfl, rfl⟩ := g3
    refine .pure hW ?_ (.tup _ [_] (.cons _ _ _ _ (.bool false) .nil))
    simp [execOp, ho, Instr.next, g4, getObj_ok (P := P) g2 (by simp)]
  · rename_i m since
    obtain ⟨p, hp, h⟩ := orec_val h
    obtain ⟨q, g5, g6⟩ := obind_some hp
    split at g6
    case h_2 => cases g6
    rename_i es ck
    cases g6
    cases es with
    | cons _ _ => cases h
    | nil =>
      cases h
      obtain ⟨pl, ob, g1, g2, g3, g4⟩ := iter_blk hC hW hE h1 hx h0 hb (by intro pl o h; cases o <;> simp only [BR] at h; exact h.1)
      cases ob <;> simp only [BR] at g3
      obtain ⟨_, rfl, rfl, rfl, pk, q1, rfl⟩ := g3
      obtain ⟨pl', ob, k1, k2, k3⟩ := hW.live _ _ g5
      rw [q1] at k1; cases k1
      cases ob <;> simp only [BR] at k3
      rename_i ents ck'
      obtain ⟨rfl, k4⟩ := k3
      have he : ents = #[] := by
        have := k4.length
        simp at this
        exact Array.size_eq_zero_iff.1 this.symm
      subst he
      refine .pure hW ?_ (.tup _ [_] (.cons _ _ _ _ (.bool false) .nil))
      simp [execOp, ho, Instr.next, g4, getObj_ok (P := P) g2 (by simp), getObj_ok (P := P) k2 (by simp), choose, Sem.run, Question.forced]
  · cases h
theorem nextS_ok {x : Operand} {x' : Opd} (ho : o.op = .next x true) (h1 : lOpd P x = some x') (h : A.nextS x' cf e σ = .val v σ') :
    ValOk P ρ w0 φ σ w (execOp a.eval o) v σ' := by
  obtain ⟨k, off, hx, h⟩ := ptrK_val h (by simp)
  obtain ⟨h0, h⟩ := bcond_val h (by simp)
  obtain ⟨bb, hb, h⟩ := orec_val h
  split at h
  case h_2 => cases h
  rename_i len n pos
  obtain ⟨pl, ob, g1, g2, g3, g4⟩ := iter_blk hC hW hE h1 hx h0 hb (by intro pl o h; cases o <;> simp only [BR] at h; exact h.1)
  cases ob <;> simp only [BR] at g3
  rename_i s p
  obtain ⟨_, hs, rfl⟩ := g3
  rw [bcond_eq] at h
  split at h
  · rename_i hlt
    have hlt : p < len := Nat.blt_eq ▸ hlt
    simp only [natK_eq] at h
    obtain ⟨hc, h⟩ := bcond_val h (by simp)
    have hc : strAt len n p < 128 := Nat.blt_eq ▸ hc
    cases h
    obtain ⟨b, f1, f2, f3⟩ := hs.at hlt
    have hdec : Utf8.decode s p = (b.toNat, 1) := by
      have hg : s.get! p = b := by
        cases s with
        | mk d =>
          have hb' : d[p]? = some b := by simpa using f3
          simp [ByteArray.get!, Array.getElem!_eq_getD, Array.getD_eq_getD_getElem?, hb']
      unfold Utf8.decode
      simp only [Nat.add_zero, hg]
      rw [if_pos (by omega)]
    have hsz := hs.size
    refine ⟨_, _, φ, _, ?_, .inl rfl, .tup _ [_, _, _] (.cons _ _ _ _ (.bool true) (.cons _ _ _ _ (.int .i64 (Int.ofNat p)) (.cons _ _ _ _ (.int .i32 (Int.ofNat (strAt len n p))) .nil))),
      Go1.put hW hb g1 (.stringIter s (p + 1)) ⟨by assumption, hs, rfl⟩⟩
    simp [execOp, ho, Instr.next, g4, getObj_ok (P := P) g2 (by simp), hsz, hlt, hdec, setObj_ok (P := P) g2 (by simp), f2]
    rfl
  · rename_i hlt
    have hlt : ¬ p < len := by intro h; rw [← Nat.blt_eq] at h; exact hlt h
    cases h
    have hsz := hs.size
    refine .pure hW ?_ (.tup _ [_] (.cons _ _ _ _ (.bool false) .nil))
    simp [execOp, ho, Instr.next, g4, getObj_ok (P := P) g2 (by simp), hsz, hlt]
end
end Go.Ev
namespace Go.Ev
open Go

section
variable {P : Program} {ρ : Nat → Value} {w0 : World} {φ : Key → Option Pl} {σ : St} {w : World}

theorem strBytes_len (len n : Nat) : ∀ (k i : Nat), (strBytes len n k i).length = k
  | 0, i => rfl
  | k + 1, i => by
    show (natK (strAt len n i) fun c => AV.int .u8 (Int.ofNat c) :: strBytes len n k (Nat.add i 1)).length = _
    rw [natK_eq]; simp [strBytes_len len n k]
theorem strBytes_VRs {len n : Nat} {s : ByteArray} (hs : StrR len n s) : ∀ (k i : Nat), i + k ≤ len → VRs ρ φ (strBytes len n k i) (((s.data.toList.drop i).take k).map fun b => Value.int .u8 b.toNat)
  | 0, i, _ => by simp; exact .nil
  | k + 1, i, h => by
    obtain ⟨b, _, h2, h3⟩ := hs.at (i := i) (by omega)
    have e : (s.data.toList.drop i) = b :: s.data.toList.drop (i + 1) := by
      obtain ⟨hl, he⟩ := List.getElem?_eq_some_iff.1 h3
      rw [← he]; exact List.drop_eq_getElem_cons hl
    have ih := strBytes_VRs hs k (i + 1) (by omega)
    rw [e]
    show VRs ρ φ (natK (strAt len n i) fun c => AV.int .u8 (Int.ofNat c) :: strBytes len n k (Nat.add i 1)) _
    rw [natK_eq, ← h2]
    simp only [List.take_succ_cons, List.map_cons]
    exact .cons _ _ _ _ (.int .u8 (Int.ofNat b.toNat)) ih

/-- the cells of the first n elements of a slice or a string -/
theorem elems_ok (hW : WR P ρ w0 φ σ w) {esz n m : Nat} {x : AV} {v : Value} {l : List AV} (h : elems σ esz x n = some l) (hl : lenV σ x = some m) (hn : n ≤ m) (hv : VR ρ φ x v) :
    ∃ vs, (∀ w' : World, w'.heap = w.heap → (Builtin.firstCells esz n v).run P w' = .ok vs.toArray w') ∧ VRs ρ φ l vs ∧ (∀ y ∈ vs, y.oneCell' = true) ∧ vs.length = n * esz ∧ (Builtin.lenOf v).run P w = .ok m w := by
  unfold elems at h
  split at h
  · cases h; cases hl; cases hv
    have : n = 0 := by omega
    subst this
    exact ⟨[], by intro w' _; simp [Builtin.firstCells], .nil, by simp, by simp, by simp [Builtin.lenOf]⟩
  · cases h; cases hl; cases hv
    have : n = 0 := by omega
    subst this
    exact ⟨[], by intro w' _; simp [Builtin.firstCells, loadCells, loadCellsFrom], .nil, by simp, by simp, by simp [Builtin.lenOf]⟩
  · rename_i b off len cap
    have hm : len = m := by simpa [lenV] using hl
    have fin : ∀ {pl : Pl} {c : Nat}, φ b = some pl → v = .slice (some ⟨pl.blk, pl.base + off, none⟩) len c →
        ∃ vs, (∀ w' : World, w'.heap = w.heap → (Builtin.firstCells esz n v).run P w' = .ok vs.toArray w') ∧ VRs ρ φ l vs ∧ (∀ y ∈ vs, y.oneCell' = true) ∧ vs.length = n * esz ∧ (Builtin.lenOf v).run P w = .ok m w := by
      intro pl c hpl hv
      subst hv hm
      rw [bcond_eq] at h
      split at h
      · rename_i h0
        have h0 := Nat.eq_of_beq_eq_true h0
        subst h0
        cases h
        exact ⟨[], by intro w' _; simp [Builtin.firstCells, loadCells, loadCellsFrom], .nil, by simp, by simp, by simp [Builtin.lenOf]⟩
      · obtain ⟨vs, h1, h2, h3, h4⟩ := loadN_ok hW hpl h
        refine ⟨vs, fun w' hw' => ?_, h3, h4, h1, by simp [Builtin.lenOf]⟩
        have hr := run_loadCells_list (P := P) w' ⟨pl.blk, pl.base + off, none⟩ vs (fun j u hj => by
          have := h2 j u hj
          rw [add_off]
          unfold World.cell? at this ⊢
          rw [hw']; exact this)
        rw [h1] at hr
        simpa [Builtin.firstCells] using hr
    cases hv
    · rename_i pl hpl
      exact fin hpl rfl
    · rename_i hpl _ _
      exact fin hpl rfl
  · rename_i len s0
    obtain ⟨he, h⟩ := bcond_none h
    have he := Nat.eq_of_beq_eq_true he
    subst he
    cases h
    have hm : len = m := by simpa [lenV] using hl
    subst hm
    cases hv with
    | str _ _ s hs =>
    refine ⟨_, ?_, strBytes_VRs hs n 0 (by omega), ?_, ?_, ?_⟩
    · intro w' _
      simp only [Builtin.firstCells, Sem.run_pure]
      congr 1
      apply Array.ext'
      simp
    · intro y hy
      simp only [List.mem_map] at hy
      obtain ⟨b, _, rfl⟩ := hy
      rfl
    · have := hs.1
      simp at this
      simp; omega
    · simp [Builtin.lenOf, hs.size]
  · cases h

theorem growBy_le (newLen : Nat) : ∀ (k c : Nat), Builtin.growBy newLen k c ≤ max c (2 * newLen + 192)
  | 0, c => by simp [Builtin.growBy]; omega
  | k + 1, c => by
    simp only [Builtin.growBy]
    split
    · omega
    · have := growBy_le newLen k (c + (c + 768) / 4)
      omega
theorem nextslicecap_le {newLen old : Nat} (h : old < newLen) : Builtin.nextslicecap newLen old ≤ 2 * newLen + 192 := by
  unfold Builtin.nextslicecap
  split
  · omega
  · split
    · omega
    · have := growBy_le newLen 4 old
      omega
theorem zeroCells_size (z : Array Value) (n : Nat) : (Builtin.zeroCells z n).size = n * z.size := by simp [Builtin.zeroCells]

structure AppT (P : Program) (ts : Array TypeId) (el : TypeId) (esz bytes : Nat) (zv : Value) : Prop where
  s : ∃ t, ts[0]? = some t ∧ P.underlying t = some (.slice el)
  x : ∃ t d, ts[1]? = some t ∧ P.underlying t = some d ∧ ∀ k, d ≠ .int k
  hsz : sizeT P el = some esz
  by' : bytesT P el = some bytes
  zero : ∀ w, (zeroValue el).run P w = .ok zv w
  zsz : zv.cells.size = esz

theorem run_append_grow {ts : Array TypeId} {el : TypeId} {esz bytes : Nat} {zv : Value} (hT : AppT P ts el esz bytes zv) {ty : TypeId} {base : Option Addr} {sLen sCap n : Nat} {x : Value} {old new : List Value}
    (hn : (Builtin.lenOf x).run P w = .ok n w) (hgt : sCap < sLen + n) (h1 : (sLen + n) * bytes ≤ 1000000000) (h2 : sLen + n ≤ 1000000000)
    (ho : ∀ w', w'.heap = w.heap → (Builtin.firstCells esz sLen (.slice base sLen sCap)).run P w' = .ok old.toArray w') (hx : ∀ w', w'.heap = w.heap → (Builtin.firstCells esz n x).run P w' = .ok new.toArray w') :
    ∃ newCap extra, sLen + n ≤ newCap ∧ extra.length = (newCap - (sLen + n)) * esz ∧ (Builtin.append_ ts ty #[.slice base sLen sCap, x]).run P w =
      .ok (.slice (some ⟨w.heap.size, 0, none⟩) (sLen + n) newCap) { w with drawn := w.drawn + 1, heap := w.heap.push (.cells (old ++ new ++ extra).toArray el) } := by
  obtain ⟨t0, a1, a2⟩ := hT.s
  obtain ⟨t1, d1, a3, a4, a5⟩ := hT.x
  obtain ⟨i, i1, i2⟩ := bytesT_info hT.by'
  have hz : (match d1 with | .int _ => true | _ => false : Bool) = false := by
    cases d1 <;> first | rfl | exact absurd rfl (a5 _)
  have hle : ¬ sLen + n ≤ sCap := by omega
  have hmax : ¬ (((sLen + n : Nat) : Int) > IntKind.i64.max) := by simp [IntKind.max, IntKind.signed, IntKind.bits]; omega
  have hns := nextslicecap_le hgt
  have hroom : ¬ (Builtin.nextslicecap (sLen + n) sCap * bytes > 2 ^ 48) := by
    have b1 : bytes ≤ 1000000000 := by
      have : 1 * bytes ≤ (sLen + n) * bytes := Nat.mul_le_mul_right _ (by omega)
      omega
    have b2 : Builtin.nextslicecap (sLen + n) sCap * bytes ≤ (2 * (sLen + n) + 192) * bytes := Nat.mul_le_mul_right _ hns
    rw [Nat.add_mul, Nat.mul_assoc] at b2
    omega
  generalize hcap : Question.cut (.appendCap (sLen + n) sCap el) (w.tape w.drawn (.appendCap (sLen + n) sCap el)) = newCap
  have hge : sLen + n ≤ newCap := by rw [← hcap]; simp [Question.cut]
  refine ⟨newCap, (Builtin.zeroCells zv.cells (newCap - (sLen + n))).toList, hge, ?_, ?_⟩
  · simp [zeroCells_size, hT.zsz]
  · have hask : ∀ (b : Nat) (w : World), (askRoom b).run P w = .ok () w := by
      intro b w; unfold askRoom; split <;> rfl
    have hch : (choose (.appendCap (sLen + n) sCap el)).run P w = .ok newCap { w with drawn := w.drawn + 1 } := by
      simp only [choose, Sem.run, Question.forced, hcap]; rfl
    have hu2 : ∀ (w : World), (underlying t1).run P w = .ok d1 w := fun w => run_underlying a4 w
    have hsz := fun (w : World) => run_sizeOf' (w := w) hT.hsz
    have hti := fun (w : World) => run_typeInfo' (w := w) i1
    have hu1 := fun (w : World) => run_underlying a2 w
    have ho1 := ho w.drew rfl
    have hx1 := hx w.drew rfl
    have hf : (Question.appendCap (sLen + n) sCap el).forced = false := rfl
    have hm1 : ¬ ((9223372036854775807 : Int) < (sLen : Int) + (n : Int)) := by omega
    unfold Builtin.append_
    simp only [List.getElem?_toArray, List.getElem?_cons_zero, List.getElem?_cons_succ, a1, a3, Sem.run_bind, Sem.run_pure, Result.andThen_ok, hu1, hu2, hsz]
    simp [hroom, hti, i2, hask, ho1, hx1, hT.zero, hn, hle, newRow, newObj, hf, hm1, hcap]
    have ea : ∀ z : Array Value, (old ++ (new ++ z.toList)).toArray = old.toArray ++ (new.toArray ++ z) := by
      intro z; apply Array.ext'; simp
    rw [ea]
    rfl
end
end Go.Ev
namespace Go.Ev
open Go

section
variable {P : Program} {ρ : Nat → Value} {w0 : World} {φ : Key → Option Pl} {σ : St} {w : World}

theorem run_append_fit {ts : Array TypeId} {el : TypeId} {esz bytes : Nat} {zv : Value} (hT : AppT P ts el esz bytes zv) {ty : TypeId} {a : Addr} {sLen sCap n : Nat} {x : Value} {new : List Value} {w' : World}
    (hn : (Builtin.lenOf x).run P w = .ok n w) (hle : sLen + n ≤ sCap) (hx : (Builtin.firstCells esz n x).run P w = .ok new.toArray w) (hs : (storeCells (a.add (sLen * esz)) new).run P w = .ok () w') :
    (Builtin.append_ ts ty #[.slice (some a) sLen sCap, x]).run P w = .ok (.slice (some a) (sLen + n) sCap) w' := by
  obtain ⟨t0, a1, a2⟩ := hT.s
  obtain ⟨t1, d1, a3, a4, a5⟩ := hT.x
  have hz : (match d1 with | .int _ => true | _ => false : Bool) = false := by
    cases d1 <;> first | rfl | exact absurd rfl (a5 _)
  have hu2 : ∀ (w : World), (underlying t1).run P w = .ok d1 w := fun w => run_underlying a4 w
  have hsz := fun (w : World) => run_sizeOf' (w := w) hT.hsz
  have hu1 := fun (w : World) => run_underlying a2 w
  unfold Builtin.append_
  simp only [List.getElem?_toArray, List.getElem?_cons_zero, List.getElem?_cons_succ, a1, a3, Sem.run_bind, Sem.run_pure, Result.andThen_ok, hu1, hu2, hsz]
  simp [hx, hs, hn, hle]
theorem run_append_none {ts : Array TypeId} {el : TypeId} {esz bytes : Nat} {zv : Value} (hT : AppT P ts el esz bytes zv) {ty : TypeId} {x : Value} {c : Nat}
    (hn : (Builtin.lenOf x).run P w = .ok 0 w) (hx : (Builtin.firstCells esz 0 x).run P w = .ok #[] w) :
    (Builtin.append_ ts ty #[.slice none 0 c, x]).run P w = .ok (.slice none 0 c) w := by
  obtain ⟨t0, a1, a2⟩ := hT.s
  obtain ⟨t1, d1, a3, a4, a5⟩ := hT.x
  have hz : (match d1 with | .int _ => true | _ => false : Bool) = false := by
    cases d1 <;> first | rfl | exact absurd rfl (a5 _)
  have hu2 : ∀ (w : World), (underlying t1).run P w = .ok d1 w := fun w => run_underlying a4 w
  have hsz := fun (w : World) => run_sizeOf' (w := w) hT.hsz
  have hu1 := fun (w : World) => run_underlying a2 w
  unfold Builtin.append_
  simp only [List.getElem?_toArray, List.getElem?_cons_zero, List.getElem?_cons_succ, a1, a3, Sem.run_bind, Sem.run_pure, Result.andThen_ok, hu1, hu2, hsz]
  simp [hx, hn]

theorem esz_ne {n m k esz : Nat} (h : (n + m) * esz ≤ k * esz) (h0 : esz ≠ 0) : n + m ≤ k := Nat.le_of_mul_le_mul_right h (Nat.pos_of_ne_zero h0)

variable (hC : Ctx P ρ w0) (hW : WR P ρ w0 φ σ w) {nt : Nat} {e : Env} {a : Act} (hE : ER ρ φ nt e a.tmps) {cf : Cf} {v : AV} {σ' : St} {o : Oper}
include hC hW hE
theorem append_ok {c : Call} {x y : Operand} {x' y' : Opd} {el : TypeId} {esz bytes : Nat} {zv : Value} (ho : o.op = .call c) (hb : c.callee = .builtin .append) (ha : c.args = #[x, y]) (hT : AppT P c.argTypes el esz bytes zv)
    (h0 : esz ≠ 0) (h1 : lOpd P x = some x') (h2 : lOpd P y = some y') (h : A.append el esz bytes x' y' cf e σ = .val v σ') : ValOk P ρ w0 φ σ w (execOp a.eval o) v σ' := by
  have hv := lOpd_VR hC.one h1 hE
  have hy := lOpd_VR hC.one h2 hE
  have hA := ofP_val h
  clear h
  obtain ⟨n, hn, hB⟩ := obind_some hA
  clear hA
  obtain ⟨new, hnew, h⟩ := obind_some hB
  clear hB
  obtain ⟨nv, e1, e2, e3, e4, e5⟩ := elems_ok hW hnew hn (Nat.le_refl _) hy
  have fin : ∀ {r : Value} {w' : World} {φ' : Key → Option Pl} {v : AV} {σ' : St}, (Builtin.append_ c.argTypes o.type #[a.eval x, a.eval y]).run P w = .ok r w' → VR ρ φ' v r → Go1 P ρ w0 φ σ w φ' σ' w' → ValOk P ρ w0 φ σ w (execOp a.eval o) v σ' := by
    intro r w' φ' v σ' k1 k2 k3
    refine ⟨.value r, w', φ', r, ?_, .inl rfl, k2, k3⟩
    simp only [execOp, ho, resolve, hb, ha, Sem.run_bind, Sem.run_pure, Result.andThen_ok, invoke, builtin]
    simp [k1]
  have here := e1 w rfl
  have grown : ∀ {base : Option Addr} {sLen sCap : Nat} {old : List Value} {lo : List AV} {σ1 : St}, a.eval x = .slice base sLen sCap → sCap < sLen + n → (sLen + n) * bytes ≤ 1000000000 → sLen + n ≤ 1000000000 →
      (∀ w' : World, w'.heap = w.heap → (Builtin.firstCells esz sLen (.slice base sLen sCap)).run P w' = .ok old.toArray w') → VRs ρ φ lo old → (∀ y ∈ old, y.oneCell' = true) → old.length = sLen * esz → Go1 P ρ w0 φ σ w φ σ1 w → 
      ValOk P ρ w0 φ σ w (execOp a.eval o) (.sli σ1.next 0 (sLen + n) (.op esz)) (σ1.new (.cells el (lo ++ new))) := by
    intro base sLen sCap old lo σ1 k1 k2 k3 k4 k5 k6 k7 k8 k9
    obtain ⟨nc, extra, q1, q2, q3⟩ := run_append_grow (ty := o.type) hT e5 k2 k3 k4 k5 e1
    have hg := new_cells k9.rel (k6.append e2) (by intro y hy; rcases List.mem_append.1 hy with h | h; exact k7 y h; exact e3 y h) el extra { w with drawn := w.drawn + 1 } (.inr ⟨_, rfl⟩)
    rw [← k1] at q3
    refine fin q3 ?_ (k9.trans hg)
    have hs : 0 + 0 + nc * esz = (old ++ nv ++ extra).length := by
      simp only [List.length_append, k8, e4, q2]
      rw [← Nat.add_mul, ← Nat.add_mul]
      have : sLen + n + (nc - (sLen + n)) = nc := by omega
      rw [this]; omega
    exact .sliO σ1.next 0 (sLen + n) esz nc _ (ext_same _ _ _) hs q1
  unfold appTo at h
  rw [bcond_eq] at h
  split at h
  · rename_i hz
    have hz := Nat.eq_of_beq_eq_true hz
    subst hz
    have hnv : nv = [] := by
      have := e4; simp at this; exact this
    subst hnv
    split at h
    · rename_i hx
      cases h
      rw [hx] at hv ⊢
      cases hx' : a.eval x <;> rw [hx'] at hv <;> cases hv
      refine fin ?_ .nils (Go1.refl hW)
      rw [hx']
      exact run_append_none hT e5 here
    · rename_i hx
      cases h
      rw [hx] at hv ⊢
      cases hx' : a.eval x <;> rw [hx'] at hv <;> cases hv
      rename_i c ad
      have := run_append_fit (ty := o.type) (a := ad) (sLen := 0) (sCap := c) (w' := w) hT e5 (by omega) here rfl
      rw [← hx'] at this
      exact fin this (by rw [hx']; exact .esl _ _) (Go1.refl hW)
    · rename_i b off len cap hx
      rw [hx] at hv
      cases cap with
      | ex c =>
        have h : bcond (Nat.ble len c) (some (x'.ev e, σ)) none = some (v, σ') := h
        obtain ⟨hle, h⟩ := bcond_none h
        have hle := Nat.le_of_ble_eq_true hle
        cases h
        cases hx' : a.eval x <;> rw [hx'] at hv <;> cases hv
        rename_i pl hpl
        have := run_append_fit (ty := o.type) (a := ⟨pl.blk, pl.base + off, none⟩) (sLen := len) (sCap := c) (w' := w) hT e5 (by omega) here rfl
        rw [← hx'] at this
        rw [hx]
        exact fin this (.sliE _ _ _ _ _ hpl) (Go1.refl hW)
      | op z =>
        have h : some (x'.ev e, σ) = some (v, σ') := h
        cases h
        cases hx' : a.eval x <;> rw [hx'] at hv <;> cases hv
        rename_i c pl hpl hlen hsz
        have := run_append_fit (ty := o.type) (a := ⟨pl.blk, pl.base + off, none⟩) (sLen := len) (sCap := c) (w' := w) hT e5 (by omega) here rfl
        rw [← hx'] at this
        rw [hx]
        exact fin this (.sliO _ _ _ _ _ _ hpl hsz hlen) (Go1.refl hW)
    · cases h
  · rename_i hz
    have hz : n ≠ 0 := by rintro rfl; exact hz rfl
    split at h
    · rename_i hx
      obtain ⟨k1, h⟩ := bcond_none h
      obtain ⟨k2, h⟩ := bcond_none h
      have k1 : n * bytes ≤ 1000000000 := Nat.le_of_ble_eq_true k1
      have k2 : n ≤ 1000000000 := Nat.le_of_ble_eq_true k2
      cases h
      rw [hx] at hv
      cases hx' : a.eval x <;> rw [hx'] at hv <;> cases hv
      have := grown (lo := []) (old := []) hx' (by omega) (by rw [Nat.zero_add]; exact k1) (by omega) (by intro w' _; simp [Builtin.firstCells]) .nil (by simp) (by simp) (Go1.refl hW)
      rw [Nat.zero_add, List.nil_append] at this
      exact this
    · rename_i b off len cap hx
      rw [natK_eq] at h
      obtain ⟨k1, hh1⟩ := bcond_none h
      obtain ⟨k2, hh2⟩ := bcond_none hh1
      clear h hh1
      have h := hh2
      clear hh2
      have k1 : (len + n) * bytes ≤ 1000000000 := Nat.le_of_ble_eq_true k1
      have k2 : len + n ≤ 1000000000 := Nat.le_of_ble_eq_true k2
      have hvx := hv
      rw [hx] at hv
      have elx : ∀ {lo : List AV} {base : Option Addr} {c : Nat}, a.eval x = .slice base len c → elems σ esz (.sli b off len cap) len = some lo → ∃ old, (∀ w' : World, w'.heap = w.heap → (Builtin.firstCells esz len (.slice base len c)).run P w' = .ok old.toArray w') ∧ VRs ρ φ lo old ∧ (∀ y ∈ old, y.oneCell' = true) ∧ old.length = len * esz := by
        intro lo base c hx' hel
        obtain ⟨old, q1, q2, q3, q4, _⟩ := elems_ok hW hel rfl (Nat.le_refl _) hv
        rw [hx'] at q1
        exact ⟨old, q1, q2, q3, q4⟩
      split at h
      · rename_i c
        cases hx' : a.eval x <;> rw [hx'] at hv <;> cases hv
        rename_i pl hpl
        rw [bcond_eq] at h
        split at h
        · rename_i hle
          have hle : len + n ≤ c := Nat.le_of_ble_eq_true hle
          obtain ⟨σ1, hst, h⟩ := obind_some h
          cases h
          obtain ⟨w', r1, r2⟩ := storeN_ok hW hpl e2 e3 hst
          have := run_append_fit (ty := o.type) (a := ⟨pl.blk, pl.base + off, none⟩) (sLen := len) (sCap := c) (w' := w') hT e5 hle here (by rw [add_off, Nat.add_assoc]; exact r1)
          rw [← hx'] at this
          exact fin this (.sliE _ _ _ _ _ (r2.ext _ _ hpl)) r2
        · rename_i hle
          have hle : ¬ len + n ≤ c := by intro h; exact hle (Nat.ble_eq_true_of_le h)
          obtain ⟨lo, hlo, h⟩ := obind_some h
          cases h
          obtain ⟨old, q1, q2, q3, q4⟩ := elx hx' (by rw [← hx]; exact hlo)
          have := grown (lo := lo) (old := old) hx' (by omega) k1 k2 q1 q2 q3 q4 (Go1.refl hW)
          rw [appL_eq]
          exact this
      · rename_i z
        obtain ⟨hz2, h⟩ := bcond_none h
        have hz2 := Nat.eq_of_beq_eq_true hz2
        subst hz2
        cases hx' : a.eval x <;> rw [hx'] at hv <;> cases hv
        rename_i c pl hpl hlen hsz
        obtain ⟨p, hp, h⟩ := obind_some h
        obtain ⟨cc, fz, f1, f2, f3, f4, f5⟩ := hW.row hpl (St.cells_some hp)
        rw [bcond_eq] at h
        split at h
        · rename_i hend
          have hend : off + len * z = p.2.length := by rw [← lenL_eq]; exact Nat.eq_of_beq_eq_true hend
          obtain ⟨ht, h⟩ := bcond_none h
          obtain ⟨hm, h⟩ := bcond_none h
          have ht := Nat.eq_of_beq_eq_true ht
          have hm : off % z = 0 := Nat.eq_of_beq_eq_true hm
          obtain ⟨lo, hlo, h⟩ := obind_some h
          cases h
          rw [appL_eq]
          obtain ⟨old, q1, q2, q3, q4⟩ : ∃ old, (∀ w' : World, w'.heap = w.heap → (Builtin.firstCells z len (.slice (some ⟨pl.blk, pl.base + off, none⟩) len c)).run P w' = .ok old.toArray w') ∧ VRs ρ φ lo old ∧ (∀ y ∈ old, y.oneCell' = true) ∧ old.length = len * z := by
            obtain ⟨vs, g1, g2, g3, g4⟩ := loadN_ok hW hpl hlo
            refine ⟨vs, fun w' hw' => ?_, g3, g4, g1⟩
            have hr := run_loadCells_list (P := P) w' ⟨pl.blk, pl.base + off, none⟩ vs (fun j u hj => by
              have := g2 j u hj
              rw [add_off]
              unfold World.cell? at this ⊢
              rw [hw']; exact this)
            rw [g1] at hr
            simpa [Builtin.firstCells] using hr
          by_cases hle : len + n ≤ c
          · -- there is room behind the end
            have hfit : pl.base + off + len * z + nv.length ≤ cc.size := by
              rw [e4, f3, ← hsz]
              have : (len + n) * z ≤ c * z := Nat.mul_le_mul_right z hle
              rw [Nat.add_mul] at this
              omega
            have hst := run_storeCells_fz (P := P) pl.blk (pl.base + off + len * z) p.1 fz nv 0 cc w f1 f2.1 (by omega) e3
            rw [setRow_wput f1] at hst
            have hap := run_append_fit (ty := o.type) (a := ⟨pl.blk, pl.base + off, none⟩) (sLen := len) (sCap := c) hT e5 hle here (by rw [add_off]; exact hst)
            rw [← hx'] at hap
            have q1' := q1 w rfl
            refine fin hap (.sliO σ.next 0 (len + n) z c _ (ext_same _ _ _) ?_ hle) (Go1.move (base := pl.base + off) (sz := pl.size) hW (St.cells_some hp) hpl _ ?_)
            · show pl.base + off + 0 + c * z = pl.size
              omega
            · refine ⟨ht, ⟨?_, ?_⟩, ?_, ?_, ?_⟩
              · have es : (cc.toList.take (pl.base + off + len * z + 0) ++ nv ++ cc.toList.drop (pl.base + off + len * z + 0 + nv.length)).toArray.size = cc.size := by simp; omega
                rw [es]; exact f2.1
              · show (pl.base + off) % P.cellsOf el = 0
                have hce : P.cellsOf el = z := by
                  obtain ⟨i, i1, i2⟩ := sizeT_info hT.hsz
                  simp [Program.cellsOf, i1, i2]
                have := f2.2
                rw [ht, hce] at this
                rw [hce, Nat.add_mod, this, hm]; simp
              · simp; omega
              · have := q2.length
                have := e2.length
                simp; omega
              · intro i u hi
                show ∃ v, (cc.toList.take (pl.base + off + len * z + 0) ++ nv ++ cc.toList.drop (pl.base + off + len * z + 0 + nv.length)).toArray[pl.base + off + i]? = some v ∧ _
                have hlo' := q2.length
                have hold : ∀ (j : Nat) (u : AV), lo[j]? = some u → ∃ v, cc[pl.base + off + j]? = some v ∧ VR ρ φ u v ∧ v.oneCell' = true := by
                  intro j u hj
                  obtain ⟨p', hp', hl2⟩ := obind_some hlo
                  rw [hp] at hp'; cases hp'
                  obtain ⟨rfl, _⟩ := takeL_some hl2
                  rw [dropL_eq, List.getElem?_take] at hj
                  split at hj
                  · rw [List.getElem?_drop] at hj
                    have := f5 _ _ hj
                    rw [← Nat.add_assoc] at this
                    exact this
                  · cases hj
                simp only [List.getElem?_toArray, Nat.add_zero]
                by_cases hi2 : i < lo.length
                · rw [List.getElem?_append_left hi2] at hi
                  obtain ⟨v, g1, g2, g3⟩ := hold i u hi
                  refine ⟨v, ?_, g2.mono (ext_PExt hW _), g3⟩
                  rw [List.append_assoc, List.getElem?_append_left (by simp; omega), List.getElem?_take, if_pos (by omega)]
                  simpa using g1
                · rw [List.getElem?_append_right (by omega)] at hi
                  obtain ⟨v, g1, g2⟩ := e2.get hi
                  refine ⟨v, ?_, g2.mono (ext_PExt hW _), e3 v (List.mem_of_getElem? g1)⟩
                  have hlt : i - lo.length < nv.length := (List.getElem?_eq_some_iff.1 g1).1
                  rw [List.append_assoc, List.getElem?_append_right (by simp; omega), List.getElem?_append_left (by simp; omega)]
                  have : pl.base + off + i - (cc.toList.take (pl.base + off + len * z)).length = i - lo.length := by simp; omega
                  rw [this]; exact g1
          · have := grown (lo := lo) (old := old) hx' (by omega) k1 k2 q1 q2 q3 q4 (Go1.kill hW b)
            exact this
        · obtain ⟨σ1, hst, h⟩ := obind_some h
          cases h
          obtain ⟨w', r1, r2⟩ := storeN_ok hW hpl e2 e3 hst
          have hle : len + n ≤ c := by
            obtain ⟨p', hp', hst⟩ := obind_some hst
            rw [hp] at hp'; cases hp'
            obtain ⟨cs, hcs, _⟩ := obind_some hst
            obtain ⟨_, g6⟩ := setL_some hcs
            have e6 := e2.length
            have g6 : off + len * z + new.length ≤ p.2.length := g6
            apply esz_ne (esz := z) _ h0
            rw [Nat.add_mul]
            omega
          have := run_append_fit (ty := o.type) (a := ⟨pl.blk, pl.base + off, none⟩) (sLen := len) (sCap := c) (w' := w') hT e5 hle here (by rw [add_off, Nat.add_assoc]; exact r1)
          rw [← hx'] at this
          exact fin this (.sliO _ _ _ _ _ _ (r2.ext _ _ hpl) hsz hle) r2
    · cases h
end
end Go.Ev
namespace Go.Ev
open Go

section
variable {P : Program} {ρ : Nat → Value} {w0 : World} {φ : Key → Option Pl} {σ : St} {w : World}

theorem splice_foldl (off : Nat) : ∀ (vs : List Value) (j : Nat) (cells : Array Value), off + j + vs.length ≤ cells.size →
    ((vs.zipIdx j).foldl (fun cs (x : Value × Nat) => cs.setIfInBounds (off + x.2) x.1) cells).toList = cells.toList.take (off + j) ++ vs ++ cells.toList.drop (off + j + vs.length)
  | [], j, cells, _ => by simp
  | v :: vs, j, cells, h => by
    have h' : off + (j + 1) + vs.length ≤ (cells.setIfInBounds (off + j) v).size := by simp at h ⊢; omega
    have ih := splice_foldl off vs (j + 1) (cells.setIfInBounds (off + j) v) h'
    rw [List.zipIdx_cons, List.foldl_cons, ih]
    have e := list_seg_step cells.toList (off + j) v vs (by simp at h ⊢; omega)
    simpa [Array.toList_setIfInBounds, Nat.add_assoc] using e
theorem splice_arr (off : Nat) (vs cells : Array Value) (h : off + vs.size ≤ cells.size) :
    (vs.zipIdx.foldl (fun cs (x : Value × Nat) => cs.setIfInBounds (off + x.2) x.1) cells).toList = cells.toList.take off ++ vs.toList ++ cells.toList.drop (off + vs.size) := by
  have := splice_foldl off vs.toList 0 cells (by simpa using h)
  rw [← Array.foldl_toList, Array.toList_zipIdx]
  simpa using this
/-- a row, some of whose cells are replaced -/
theorem VRs.splice {l vs' : List AV} {x vs : List Value} (h : VRs ρ φ l x) (h' : VRs ρ φ vs' vs) (off : Nat) : VRs ρ φ (l.take off ++ vs' ++ l.drop (off + vs'.length)) (x.take off ++ vs ++ x.drop (off + vs.length)) := by
  rw [h'.length]
  exact ((h.take _).append h').append (h.drop _)
theorem fill_ok (hC : Ctx P ρ w0) {nt : Nat} {e : Env} {a : Act} (hE : ER ρ φ nt e a.tmps) {place : Nat → Option (Nat × Nat)} :
    ∀ {parts : List (Nat × Operand)} {ps : List (Nat × Nat × Opd)} {l r : List AV} {cells : Array Value}, optL (lPart P place) parts = some ps → fillV ps e l = some r → VRs ρ φ l cells.toList → (∀ y ∈ cells.toList, y.oneCell' = true) →
      ∃ out, Instr.fill place cells (parts.map fun x => (x.1, a.eval x.2)) = some out ∧ VRs ρ φ r out.toList ∧ (∀ y ∈ out.toList, y.oneCell' = true)
  | [], ps, l, r, cells, h1, h2, h3, h4 => by
    simp [optL] at h1; subst h1
    cases h2
    exact ⟨cells, rfl, h3, h4⟩
  | (i, x) :: parts, ps, l, r, cells, h1, h2, h3, h4 => by
    simp only [optL] at h1
    split at h1
    case h_2 => cases h1
    rename_i p ps' hp hps
    cases h1
    unfold lPart at hp
    split at hp
    case h_2 => cases hp
    rename_i q y hq hy
    cases hp
    have h2 : (obind (y.ev e).cells fun vs => bcond (Nat.beq (lenL vs) q.2) (obind (setL vs l q.1) (fillV ps' e)) none) = some r := h2
    obtain ⟨vs', g1, g2⟩ := obind_some h2
    obtain ⟨g3, g4⟩ := bcond_none g2
    obtain ⟨l', g5, g6⟩ := obind_some g4
    obtain ⟨rfl, g7⟩ := setL_some g5
    obtain ⟨c1, c2⟩ := VR.cells hC.one (lOpd_VR hC.one hy hE) g1
    have hsz : (a.eval x).cells.size = q.2 := by
      have := c1.length
      rw [lenL_eq] at g3
      have := Nat.eq_of_beq_eq_true g3
      simp at *; omega
    have hl := h3.length
    have hc := c1.length
    simp only [Array.length_toList] at hl hc
    have hfit : q.1 + (a.eval x).cells.size ≤ cells.size := by omega
    have hs := splice_arr q.1 (a.eval x).cells cells hfit
    have hv : VRs ρ φ (l.take q.1 ++ vs' ++ l.drop (q.1 + vs'.length)) ((a.eval x).cells.zipIdx.foldl (fun cs (x : Value × Nat) => cs.setIfInBounds (q.1 + x.2) x.1) cells).toList := by
      rw [hs]
      have := h3.splice c1 q.1
      simpa using this
    have ho : ∀ y ∈ ((a.eval x).cells.zipIdx.foldl (fun cs (x : Value × Nat) => cs.setIfInBounds (q.1 + x.2) x.1) cells).toList, y.oneCell' = true := by
      rw [hs]
      intro y hy
      simp only [List.append_assoc, List.mem_append] at hy
      rcases hy with hy | hy | hy
      · exact h4 y (List.mem_of_mem_take hy)
      · exact c2 y hy
      · exact h4 y (List.mem_of_mem_drop hy)
    obtain ⟨out, k1, k2, k3⟩ := fill_ok hC hE hps g6 hv ho
    refine ⟨out, ?_, k2, k3⟩
    simp only [List.map_cons, Instr.fill, hq]
    rw [if_neg (by simp [hsz]; omega)]
    exact k1
theorem repL_get (z : List AV) : ∀ (n i : Nat), (repL n z)[i]? = if i < n * z.length then z[i % z.length]? else none
  | 0, i => by
    have : repL 0 z = [] := rfl
    rw [this]; simp
  | n + 1, i => by
    have e : repL (n + 1) z = z ++ repL n z := by show appL z (repL n z) = _; rw [appL_eq]
    rw [e, Nat.add_mul, Nat.one_mul]
    by_cases h : i < z.length
    · rw [List.getElem?_append_left h, if_pos (by omega), Nat.mod_eq_of_lt h]
    · rw [List.getElem?_append_right (by omega), repL_get z n]
      by_cases h2 : i < n * z.length + z.length
      · rw [if_pos (by omega), if_pos h2]
        have hm := Nat.mod_eq_sub_mod (a := i) (b := z.length) (by omega)
        rw [hm]
      · rw [if_neg (by omega), if_neg h2]
theorem repL_len (z : List AV) : ∀ n : Nat, (repL n z).length = n * z.length
  | 0 => by simp; rfl
  | n + 1 => by
    have e : repL (n + 1) z = z ++ repL n z := by show appL z (repL n z) = _; rw [appL_eq]
    rw [e, List.length_append, repL_len z n, Nat.add_mul]; omega
theorem catL_rep (z : List AV) : ∀ n : Nat, catL (List.replicate n z) = repL n z
  | 0 => rfl
  | n + 1 => by
    have e : repL (n + 1) z = z ++ repL n z := by show appL z (repL n z) = _; rw [appL_eq]
    rw [e, List.replicate_succ, catL, catL_rep z n]
/-- the zero row, n times -/
theorem rep_ok {z : List AV} {zc : Array Value} (hz : VRs ρ φ z zc.toList) (h1 : ∀ y ∈ zc.toList, y.oneCell' = true) (n : Nat) (zero : Array Value) (hzero : n * z.length = 0 ∨ zero = zc) :
    VRs ρ φ (repL n z) ((Array.range (n * z.length)).map (zero[· % zero.size]!)).toList ∧ ∀ y ∈ ((Array.range (n * z.length)).map (zero[· % zero.size]!)).toList, y.oneCell' = true := by
  have hl := hz.length
  simp only [Array.length_toList] at hl
  rcases hzero with h0 | rfl
  · rw [h0]
    have : repL n z = [] := List.eq_nil_of_length_eq_zero (by rw [repL_len, h0])
    rw [this]
    exact ⟨by simpa using VRs.nil, by simp⟩
  · constructor
    · apply VRs.of_get
      · rw [repL_len]; simp
      · intro i x hi
        rw [repL_get] at hi
        split at hi
        case isFalse => cases hi
        rename_i hlt
        obtain ⟨y, g1, g2⟩ := hz.get hi
        refine ⟨y, ?_, g2⟩
        rw [hl] at g1
        have g1 : zero[i % zero.size]? = some y := by simpa using g1
        have hs : i % zero.size < zero.size := by
          rw [Array.getElem?_eq_some_iff] at g1; exact g1.1
        obtain ⟨_, g1'⟩ := Array.getElem?_eq_some_iff.1 g1
        simp only [Array.toList_map, Array.toList_range, List.getElem?_map, List.getElem?_range hlt, Option.map_some]
        congr 1
        rw [getElem!_pos zero (i % zero.size) hs]; exact g1'
    · intro y hy
      simp only [Array.toList_map, Array.toList_range, List.mem_map, List.mem_range] at hy
      obtain ⟨i, hi, rfl⟩ := hy
      have hpos : 0 < zero.size := by
        rcases Nat.eq_zero_or_pos zero.size with h | h
        · rw [hl, h] at hi; simp at hi
        · exact h
      have hm : i % zero.size < zero.size := Nat.mod_lt _ hpos
      apply h1
      simp [hm]
end
end Go.Ev
namespace Go.Ev
open Go

section
variable {P : Program} {ρ : Nat → Value} {w0 : World} {φ : Key → Option Pl} {σ : St} {w : World}
variable (hC : Ctx P ρ w0) (hW : WR P ρ w0 φ σ w) {nt : Nat} {e : Env} {a : Act} (hE : ER ρ φ nt e a.tmps) {cf : Cf} {v : AV} {σ' : St} {o : Oper}
include hC hW hE

omit hE in
theorem row_ok {zs : List AV} {zv' : AV} {zv : Value} (hz : VR ρ φ zv' zv) (hzs : zv'.cells = some zs) (n m : Nat) (hm : m = n * zs.length) (el : TypeId) (zero : Array Value) (hzero : m = 0 ∨ zero = zv.cells) :
    Go1 P ρ w0 φ σ w (padd φ σ.next ⟨w.heap.size, 0, m⟩) (σ.new (.cells el (repL n zs))) { w with heap := w.heap.push (.cells ((Array.range m).map (zero[· % zero.size]!)) el) } := by
  obtain ⟨c1, c2⟩ := VR.cells hC.one hz hzs
  subst hm
  obtain ⟨r1, r2⟩ := rep_ok c1 c2 n zero hzero
  have hg := new_cells hW r1 r2 el [] w (.inl rfl)
  simp only [List.append_nil, Array.toArray_toList] at hg
  have hs : ((Array.range (n * zs.length)).map (zero[· % zero.size]!)).toList.length = n * zs.length := by simp
  rw [hs] at hg
  exact hg
theorem mkS_ok {t el : TypeId} {x y : Operand} {x' y' : Opd} {esz bytes : Nat} {z : AV} {zs : List AV} (ho : o.op = .makeSlice t x y) (ht : P.underlying t = some (.slice el)) (hs : sizeT P el = some esz) (hby : bytesT P el = some bytes)
    (hz : zeroT P el = some z) (hzs : z.cells = some zs) (hzl : zs.length = esz) (h1 : lOpd P x = some x') (h2 : lOpd P y = some y') (h : A.mkS el esz bytes zs x' y' cf e σ = .val v σ') : ValOk P ρ w0 φ σ w (execOp a.eval o) v σ' := by
  obtain ⟨k1, l, e1, h⟩ := natV_val h (by simp)
  obtain ⟨k2, c, e2, h⟩ := natV_val h (by simp)
  obtain ⟨b1, h⟩ := bcond_val h (by simp)
  obtain ⟨b2, h⟩ := bcond_val h (by simp)
  obtain ⟨b3, h⟩ := bcond_val h (by simp)
  have b1 : l ≤ c := Nat.le_of_ble_eq_true b1
  have b2 : c * bytes ≤ 1000000000 := Nat.le_of_ble_eq_true b2
  have b3 : c ≤ 1000000000 := Nat.le_of_ble_eq_true b3
  cases h
  have hx := lOpd_VR hC.one h1 hE
  have hy := lOpd_VR hC.one h2 hE
  rw [e1] at hx
  rw [e2] at hy
  have hx := intK_VR hx
  have hy := intK_VR hy
  obtain ⟨zv, hzv, hrun⟩ := run_zeroValue' (P := P) hz
  have hzr := ofVal_VR (φ := φ) hC.one hzv
  obtain ⟨i, i1, i2⟩ := bytesT_info hby
  have wl : IntKind.i64.wrap (Int.ofNat l) = (l : Int) := wrap_fits (by simp [IntKind.min, IntKind.max, IntKind.signed, IntKind.bits]; omega)
  have wc : IntKind.i64.wrap (Int.ofNat c) = (c : Int) := wrap_fits (by simp [IntKind.min, IntKind.max, IntKind.signed, IntKind.bits]; omega)
  have hg := fun zero hzero => row_ok hC hW hzr hzs c (c * esz) (by rw [hzl]) el zero hzero
  have hc : ¬ ((c : Int) < 0) := by omega
  have hl : ¬ ((l : Int) < 0) := by omega
  have hlc : ¬ ((l : Int) > (c : Int)) := by omega
  have hlc' : ¬ ((c : Int) < (l : Int)) := by omega
  have hbc : ¬ ((bytes : Int) * (c : Int) > 2 ^ 48) := by
    have : (bytes : Int) * (c : Int) = ((c * bytes : Nat) : Int) := by rw [Nat.mul_comm]; simp
    rw [this]; omega
  have hask : ∀ (b : Nat) (w : World), (askRoom b).run P w = .ok () w := by
    intro b w; unfold askRoom; split <;> rfl
  have main : ∀ (zero : Array Value), (c * esz = 0 ∧ zero = #[] ∨ c * esz ≠ 0 ∧ zero = zv.cells) → (execOp a.eval o).run P w = .ok (.value (.slice (some ⟨w.heap.size, 0, none⟩) l c)) { w with heap := w.heap.push (.cells ((Array.range (c * esz)).map (zero[· % zero.size]!)) el) } := by
    intro zero hzero
    have e3 : Instr.makeSlice t (a.eval x) (a.eval y) = Instr.makeSlice t (.int k1 (Int.ofNat l)) (.int k2 (Int.ofNat c)) := by rw [hx, hy]
    simp only [execOp, ho, e3, Sem.run_bind]
    unfold Instr.makeSlice
    simp only [Sem.run_bind, run_underlying ht, Result.andThen_ok, asInt, asIntOf, Sem.run_pure, wl, wc, run_typeInfo' i1, i2]
    have hcond : ((decide ((c : Int) < 0) || decide ((bytes : Int) * (c : Int) > 2 ^ 48)) || decide ((l : Int) < 0) || decide ((l : Int) > (c : Int))) = false := by simp [hc, hl, hlc']; omega
    have e4 : ((c : Int)).toNat = c := rfl
    have e5 : ((l : Int)).toNat = l := rfl
    rw [hcond]
    simp only [Bool.false_eq_true, if_false, Sem.run_bind, hask, Result.andThen_ok, e4, e5, run_sizeOf' hs]
    rcases hzero with ⟨h0, rfl⟩ | ⟨h0, rfl⟩
    · simp only [h0, if_true]
      rfl
    · simp only [h0, if_false, Sem.run_bind, hrun, Sem.run_pure, Result.andThen_ok]
      rfl
  by_cases h0 : c * esz = 0
  · exact ⟨_, _, _, _, main #[] (.inl ⟨h0, rfl⟩), .inl rfl, .sliE σ.next 0 l c _ (ext_same _ _ _), hg #[] (.inl h0)⟩
  · exact ⟨_, _, _, _, main _ (.inr ⟨h0, rfl⟩), .inl rfl, .sliE σ.next 0 l c _ (ext_same _ _ _), hg _ (.inr rfl)⟩
end
end Go.Ev
