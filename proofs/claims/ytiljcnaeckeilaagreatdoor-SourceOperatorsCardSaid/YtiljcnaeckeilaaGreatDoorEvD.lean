/-
Proved here: every operation of the evaluator is sound.
Conditions: none beyond those that the statements name.
-/
import Derived.Laws.Tables
import Derived.KernelRfl
import Derived.Lib.Bytealg
import Derived.Laws.Externs
import Derived.Laws.BytesString
import Derived.Test.YtiljcnaeckeilaaGreatDoorEvC
namespace Go.Ev
open Go

section
variable {P : Program} {ρ : Nat → Value} {w0 : World} {φ : Key → Option Pl} {σ : St} {w : World}

theorem optL_mapM {α β : Type} (f : α → Option β) : ∀ (l : List α), l.mapM f = optL f l
  | [] => rfl
  | a :: l => by
    rw [List.mapM_cons, optL_mapM f l, optL]
    cases f a with
    | none => rfl
    | some b => cases optL f l <;> rfl
theorem places_eq (l : List Field) : (l.mapM fun f => (P.info? f.type).map fun i => (f.offset, i.size)) = optL (fun f => do some (f.offset, ← sizeT P f.type)) l := by
  rw [optL_mapM]
  congr 1
  funext f
  unfold sizeT
  cases P.info? f.type <;> rfl

variable (hC : Ctx P ρ w0) (hW : WR P ρ w0 φ σ w) {nt : Nat} {e : Env} {a : Act} (hE : ER ρ φ nt e a.tmps) {cf : Cf} {v : AV} {σ' : St} {o : Oper}
include hC hW hE

theorem build_ok' {t : TypeId} {parts : Array (Nat × Operand)} {z : AV} {zs : List AV} {ps : List (Nat × Nat × Opd)} (ho : o.op = .build t parts) (hz : zeroT P t = some z) (hzs : z.cells = some zs) {place : Nat → Option (Nat × Nat)}
    (hpl : ∀ (zv : Value) (i : TypeInfo), P.info? t = some i → i.zero = some zv → P.built t (parts.toList.map fun x => (x.1, a.eval x.2)) = Instr.fill place zv.cells (parts.toList.map fun x => (x.1, a.eval x.2)))
    (hps : optL (lPart P place) parts.toList = some ps) (h : A.build zs ps cf e σ = .val v σ') : ValOk P ρ w0 φ σ w (execOp a.eval o) v σ' := by
  obtain ⟨h', hσ⟩ := ofV_val h
  clear h
  subst hσ
  obtain ⟨r, h1, h2⟩ := obind_some h'
  cases h2
  obtain ⟨i, zv, i1, i2, i3⟩ := zeroT_info hz
  obtain ⟨c1, c2⟩ := VR.cells (φ := φ) hC.one (ofVal_VR hC.one i3) hzs
  obtain ⟨out, k1, k2, k3⟩ := fill_ok hC hE hps h1 c1 c2
  have hb := hpl zv i i1 i2
  rw [k1] at hb
  have hrun := run_build (P := P) w t (parts.map fun x => (x.1, a.eval x.2)) out (by simpa using hb)
  have hr := VR.agg r out.toList k2 k3
  simp only [Array.toArray_toList] at hr
  refine .pure hW ?_ hr
  simp [execOp, ho, hrun]
theorem build_struct_ok {t : TypeId} {parts : Array (Nat × Operand)} {z : AV} {zs : List AV} {fs : Array Field} {pl : List (Nat × Nat)} {ps : List (Nat × Nat × Opd)} (ho : o.op = .build t parts) (ht : P.underlying t = some (.struct fs)) (hz : zeroT P t = some z) (hzs : z.cells = some zs)
    (hpl : optL (fun f => do some (f.offset, ← sizeT P f.type)) fs.toList = some pl) (hps : optL (lPart P (fun i => pl[i]?)) parts.toList = some ps) (h : A.build zs ps cf e σ = .val v σ') : ValOk P ρ w0 φ σ w (execOp a.eval o) v σ' := by
  refine build_ok' hC hW hE ho hz hzs ?_ hps h
  intro zv i i1 i2
  have := places_eq (P := P) fs.toList
  rw [hpl] at this
  simp only [Program.built, i1, ht, i2, this]
  congr 1
  funext x
  simp
theorem build_array_ok {t et : TypeId} {n s : Nat} {parts : Array (Nat × Operand)} {z : AV} {zs : List AV} {ps : List (Nat × Nat × Opd)} (ho : o.op = .build t parts) (ht : P.underlying t = some (.array n et)) (hs : sizeT P et = some s) (hz : zeroT P t = some z) (hzs : z.cells = some zs)
    (hps : optL (lPart P (fun i => some (i * s, s))) parts.toList = some ps) (h : A.build zs ps cf e σ = .val v σ') : ValOk P ρ w0 φ σ w (execOp a.eval o) v σ' := by
  refine build_ok' hC hW hE ho hz hzs ?_ hps h
  intro zv i i1 i2
  obtain ⟨j, j1, j2⟩ := sizeT_info hs
  simp only [Program.built, i1, ht, i2, j1, j2]
theorem buildS_ok {t et : TypeId} {len s : Nat} {parts : Array (Nat × Operand)} {z : AV} {zs : List AV} {ps : List (Nat × Nat × Opd)} (ho : o.op = .buildSlice t len parts) (ht : P.underlying t = some (.slice et)) (hs : sizeT P et = some s) (hz : zeroT P et = some z) (hzs : z.cells = some zs) (hl : zs.length = s)
    (hle : len * s ≤ 100000) (hps : optL (lPart P (fun i => some (i * s, s))) parts.toList = some ps) (h : A.buildS et s len (catL (List.replicate len zs)) ps cf e σ = .val v σ') : ValOk P ρ w0 φ σ w (execOp a.eval o) v σ' := by
  obtain ⟨r, h1, h2⟩ := orec_val h
  cases h2
  rw [catL_rep] at h1
  obtain ⟨i, zv, i1, i2, i3⟩ := zeroT_info hz
  obtain ⟨zv', hzv', hrun⟩ := run_zeroValue' (P := P) hz
  have hzr := ofVal_VR (φ := φ) hC.one hzv'
  obtain ⟨c1, c2⟩ := VR.cells hC.one hzr hzs
  have hlim : ¬ len * s > 2 ^ 24 := by omega
  have main : ∀ (zero : Array Value), (len * s = 0 ∧ zero = #[] ∨ len * s ≠ 0 ∧ zero = zv'.cells) → ValOk P ρ w0 φ σ w (execOp a.eval o) (.sli σ.next 0 len (.ex len)) (σ.new (.cells et r)) := by
    intro zero hzero
    obtain ⟨r1, r2⟩ := rep_ok c1 c2 len zero (by rw [hl]; rcases hzero with h | h; exact .inl h.1; exact .inr h.2)
    rw [hl] at r1 r2
    obtain ⟨out, k1, k2, k3⟩ := fill_ok hC hE hps h1 r1 r2
    have hg := new_cells hW k2 k3 et [] w (.inl rfl)
    simp only [List.append_nil, Array.toArray_toList] at hg
    refine ⟨_, _, _, .slice (some ⟨w.heap.size, 0, none⟩) len len, ?_, .inl rfl, .sliE _ _ _ _ _ (ext_same _ _ _), hg⟩
    simp only [execOp, ho, Sem.run_bind]
    unfold Instr.buildSlice
    simp only [Sem.run_bind, run_underlying ht, Result.andThen_ok, run_sizeOf' hs, hlim, if_false, Sem.run_pure, Array.toList_map]
    rcases hzero with ⟨h0, rfl⟩ | ⟨h0, rfl⟩
    · simp only [h0, if_true]
      rw [h0] at k1
      simp only [Sem.run_bind, Sem.run_pure, Result.andThen_ok, k1]
      rfl
    · simp only [h0, if_false, Sem.run_bind, hrun, Sem.run_pure, Result.andThen_ok]
      simp only [k1]
      rfl
  by_cases h0 : len * s = 0
  · exact main #[] (.inl ⟨h0, rfl⟩)
  · exact main _ (.inr ⟨h0, rfl⟩)
theorem min_ok {c : Call} {x y : Operand} {x' y' : Opd} (ho : o.op = .call c) (hb : c.callee = .builtin .min) (ha : c.args = #[x, y]) (h1 : lOpd P x = some x') (h2 : lOpd P y = some y') (h : A.min x' y' cf e σ = .val v σ') :
    ValOk P ρ w0 φ σ w (execOp a.eval o) v σ' := by
  obtain ⟨k, m, e1, h⟩ := intV_val h (by simp)
  obtain ⟨l, n, e2, h⟩ := intV_val h (by simp)
  cases h
  have hx := lOpd_VR hC.one h1 hE
  have hy := lOpd_VR hC.one h2 hE
  rw [e1] at hx; rw [e2] at hy
  have hx := intK_VR hx
  have hy := intK_VR hy
  refine .pure hW ?_ (.int _ _)
  rw [bcond_eq, ltI_eq]
  simp [execOp, ho, resolve, hb, ha, invoke, builtin, hx, hy, Builtin.min_, Builtin.min2]
theorem max_ok {c : Call} {x y : Operand} {x' y' : Opd} (ho : o.op = .call c) (hb : c.callee = .builtin .max) (ha : c.args = #[x, y]) (h1 : lOpd P x = some x') (h2 : lOpd P y = some y') (h : A.max x' y' cf e σ = .val v σ') :
    ValOk P ρ w0 φ σ w (execOp a.eval o) v σ' := by
  obtain ⟨k, m, e1, h⟩ := intV_val h (by simp)
  obtain ⟨l, n, e2, h⟩ := intV_val h (by simp)
  cases h
  have hx := lOpd_VR hC.one h1 hE
  have hy := lOpd_VR hC.one h2 hE
  rw [e1] at hx; rw [e2] at hy
  have hx := intK_VR hx
  have hy := intK_VR hy
  refine .pure hW ?_ (.int _ _)
  rw [bcond_eq, ltI_eq]
  simp [execOp, ho, resolve, hb, ha, invoke, builtin, hx, hy, Builtin.max_, Builtin.max2]
theorem min3_ok {c : Call} {x y z : Operand} {x' y' z' : Opd} (ho : o.op = .call c) (hb : c.callee = .builtin .min) (ha : c.args = #[x, y, z]) (h1 : lOpd P x = some x') (h2 : lOpd P y = some y') (h3 : lOpd P z = some z') (h : A.min3 x' y' z' cf e σ = .val v σ') :
    ValOk P ρ w0 φ σ w (execOp a.eval o) v σ' := by
  obtain ⟨k, m, e1, h⟩ := intV_val h (by simp)
  obtain ⟨l, n, e2, h⟩ := intV_val h (by simp)
  obtain ⟨j, q, e3, h⟩ := intV_val h (by simp)
  cases h
  have hx := lOpd_VR hC.one h1 hE
  have hy := lOpd_VR hC.one h2 hE
  have hz := lOpd_VR hC.one h3 hE
  rw [e1] at hx; rw [e2] at hy; rw [e3] at hz
  have hx := intK_VR hx
  have hy := intK_VR hy
  have hz := intK_VR hz
  refine .pure hW ?_ (.int _ _)
  simp only [bcond_eq, ltI_eq]
  simp [execOp, ho, resolve, hb, ha, invoke, builtin, hx, hy, hz, Builtin.min_, Builtin.min2]
end
end Go.Ev
namespace Go.Ev
open Go

section
variable {P : Program} {ρ : Nat → Value} {w0 : World} {φ : Key → Option Pl} {σ : St} {w : World}
variable (hC : Ctx P ρ w0) (hW : WR P ρ w0 φ σ w) {nt : Nat} {e : Env} {a : Act} (hE : ER ρ φ nt e a.tmps) {cf : Cf} {v : AV} {σ' : St} {o : Oper}
include hC hW hE

theorem clear_ok {c : Call} {x : Operand} {x' : Opd} {t el : TypeId} {_s : Nat} {z : AV} {zs : List AV} (ho : o.op = .call c) (hb : c.callee = .builtin .clear) (ha : c.args = #[x]) (ht : c.argTypes[0]? = some t) (hu : P.underlying t = some (.slice el))
    (hz : zeroT P el = some z) (hzs : z.cells = some zs) (h1 : lOpd P x = some x') (h : A.clear zs x' cf e σ = .val v σ') : ValOk P ρ w0 φ σ w (execOp a.eval o) v σ' := by
  have hv := lOpd_VR hC.one h1 hE
  obtain ⟨zv, hzv, hrun⟩ := run_zeroValue' (P := P) hz
  have hzr := ofVal_VR (φ := φ) hC.one hzv
  obtain ⟨c1, c2⟩ := VR.cells hC.one hzr hzs
  have nil' : VR ρ φ (.tup []) (.tuple #[]) := by simpa using VR.tup (ρ := ρ) (φ := φ) [] [] .nil
  have none' : ∀ {base : Option Addr} {n c' : Nat}, a.eval x = .slice base n c' → (base = none ∨ n = 0) → ValOk P ρ w0 φ σ w (execOp a.eval o) (.tup []) σ := by
    intro base n c' hx hn
    refine .pure hW ?_ nil'
    simp only [execOp, ho, resolve, hb, ha, Sem.run_bind, Sem.run_pure, Result.andThen_ok, invoke, builtin]
    rcases hn with rfl | rfl
    · simp [Builtin.clear_, ht, hx, run_underlying hu]
    · cases base <;> simp [Builtin.clear_, ht, hx, run_underlying hu]
  unfold A.clear at h
  split at h
  · rename_i hx
    cases h; rw [hx] at hv
    cases hx' : a.eval x <;> rw [hx'] at hv <;> cases hv
    exact none' hx' (.inl rfl)
  · rename_i hx
    cases h; rw [hx] at hv
    cases hx' : a.eval x <;> rw [hx'] at hv <;> cases hv
    exact none' hx' (.inr rfl)
  · rename_i b off n cap hx
    rw [hx] at hv
    have fin : ∀ {pl : Pl} {c' : Nat}, φ b = some pl → a.eval x = .slice (some ⟨pl.blk, pl.base + off, none⟩) n c' → ValOk P ρ w0 φ σ w (execOp a.eval o) v σ' := by
      intro pl c' hpl hx'
      rw [bcond_eq] at h
      split at h
      · rename_i h0
        have h0 := Nat.eq_of_beq_eq_true h0
        cases h
        exact none' hx' (.inr h0)
      · rename_i h0
        have h0 : n ≠ 0 := by rintro rfl; exact h0 rfl
        obtain ⟨hst, rfl⟩ := ofVS_val h
        obtain ⟨r1, r2⟩ := rep_ok c1 c2 n zv.cells (.inr rfl)
        obtain ⟨w', q1, q2⟩ := storeN_ok hW hpl r1 r2 hst
        have hzc : Builtin.zeroCells zv.cells n = (Array.range (n * zs.length)).map (zv.cells[· % zv.cells.size]!) := by
          have := c1.length
          simp at this
          simp [Builtin.zeroCells, this]
        refine ⟨_, _, _, _, ?_, .inl rfl, nil', q2⟩
        simp only [execOp, ho, resolve, hb, ha, Sem.run_bind, Sem.run_pure, Result.andThen_ok, invoke, builtin]
        have q1' : (storeCells ⟨pl.blk, pl.base + off, none⟩ (Builtin.zeroCells zv.cells n).toList).run P w = .ok () w' := by rw [hzc]; exact q1
        obtain ⟨m, rfl⟩ : ∃ m, n = m + 1 := ⟨n - 1, by omega⟩
        have hcl : (Builtin.clear_ c.argTypes o.type #[.slice (some ⟨pl.blk, pl.base + off, none⟩) (m + 1) c']).run P w = .ok (.tuple #[]) w' := by
          unfold Builtin.clear_
          simp only [ht, List.getElem?_toArray, List.getElem?_cons_zero, Sem.run_bind, run_underlying hu, Result.andThen_ok, hrun, q1']
          rfl
        simp only [List.map_toArray, List.map_cons, List.map_nil, hx', hcl]
        rfl
    cases hx' : a.eval x <;> rw [hx'] at hv <;> cases hv
    · rename_i hpl
      exact fin hpl hx'
    · rename_i hpl _ _
      exact fin hpl hx'
  · cases h
omit hC hW hE in
theorem sliLen_ok {x : AV} {v : Value} {n : Nat} (h : A.sliLen x = some n) (hv : VR ρ φ x v) : ∃ base c, v = .slice base n c ∧ (base = none → n = 0) := by
  unfold A.sliLen at h
  split at h
  · cases h; cases hv; exact ⟨_, _, rfl, fun _ => rfl⟩
  · cases h; cases hv; exact ⟨_, _, rfl, fun _ => rfl⟩
  · cases h; cases hv
    · exact ⟨_, _, rfl, by simp⟩
    · exact ⟨_, _, rfl, by simp⟩
  · cases h
theorem copy_ok {c : Call} {x y : Operand} {x' y' : Opd} {t el : TypeId} {s : Nat} (ho : o.op = .call c) (hb : c.callee = .builtin .copy) (ha : c.args = #[x, y]) (ht : c.argTypes[0]? = some t) (hu : P.underlying t = some (.slice el)) (hs : sizeT P el = some s)
    (h1 : lOpd P x = some x') (h2 : lOpd P y = some y') (h : A.copy s x' y' cf e σ = .val v σ') : ValOk P ρ w0 φ σ w (execOp a.eval o) v σ' := by
  have hv := lOpd_VR hC.one h1 hE
  have hy := lOpd_VR hC.one h2 hE
  obtain ⟨m, hm, hA⟩ := orec_val h
  obtain ⟨n, hn, hB⟩ := orec_val hA
  rw [natK_eq] at hB
  obtain ⟨cs, hcs, hD⟩ := orec_val hB
  clear h hA hB
  obtain ⟨base, cap, hx, hbase⟩ := sliLen_ok hm hv
  have hmin : bcond (Nat.ble m n) m n = Nat.min n m := by
    rw [bcond_eq]
    split
    · rename_i h; have := Nat.le_of_ble_eq_true h; show m = min n m; omega
    · rename_i h; have : ¬ m ≤ n := fun h' => h (Nat.ble_eq_true_of_le h'); show n = min n m; omega
  rw [hmin] at hcs hD
  obtain ⟨vs, e1, e2, e3, e4, e5⟩ := elems_ok (n := Nat.min n m) (m := n) hW hcs hn (Nat.min_le_left n m) hy
  have e1 := e1 w rfl
  have rl : VR ρ φ (.int .i64 (Int.ofNat (Nat.min n m))) (goInt (Nat.min n m)) := .int .i64 (Int.ofNat (Nat.min n m))
  have fin : ∀ {w' : World}, (Builtin.copy_ c.argTypes o.type #[a.eval x, a.eval y]).run P w = .ok (goInt (Nat.min n m)) w' → (execOp a.eval o).run P w = .ok (.value (goInt (Nat.min n m))) w' := by
    intro w' hst
    simp only [execOp, ho, resolve, hb, ha, Sem.run_bind, Sem.run_pure, Result.andThen_ok, invoke, builtin, List.map_toArray, List.map_cons, List.map_nil, hst]
  have run1 : ∀ (ad : Addr) (w' : World), base = some ad → (storeCells ad vs).run P w = .ok () w' → (Builtin.copy_ c.argTypes o.type #[a.eval x, a.eval y]).run P w = .ok (goInt (Nat.min n m)) w' := by
    intro ad w' hb' hst
    subst hb'
    unfold Builtin.copy_
    simp only [ht, List.getElem?_toArray, List.getElem?_cons_zero, List.getElem?_cons_succ, Sem.run_bind, run_underlying hu, Result.andThen_ok, hx, e5, run_sizeOf' hs, e1, hst]
    rfl
  rw [bcond_eq] at hD
  split at hD
  · rename_i h0
    have h0 := Nat.eq_of_beq_eq_true h0
    have hvs : vs = [] := by
      have := e4
      rw [h0] at this
      simp at this; exact this
    subst hvs
    cases hD
    rw [h0] at rl fin run1
    refine .pure hW (fin ?_) rl
    cases base with
    | some ad => exact run1 ad w rfl rfl
    | none =>
      have e1' := e1
      rw [h0] at e1'
      unfold Builtin.copy_
      simp only [ht, List.getElem?_toArray, List.getElem?_cons_zero, List.getElem?_cons_succ, Sem.run_bind, run_underlying hu, Result.andThen_ok, hx, e5, run_sizeOf' hs, h0, e1', Sem.run_pure]
  · split at hD
    · rename_i b off len cp hxx
      obtain ⟨hst, rfl⟩ := ofVS_val hD
      rw [hxx] at hv
      have fin2 : ∀ {pl : Pl} {cc : Nat}, φ b = some pl → a.eval x = .slice (some ⟨pl.blk, pl.base + off, none⟩) len cc → ValOk P ρ w0 φ σ w (execOp a.eval o) (.int .i64 (Int.ofNat (Nat.min n m))) σ' := by
        intro pl cc hpl hx2
        obtain ⟨w', q1, q2⟩ := storeN_ok hW hpl e2 e3 hst
        rw [hx] at hx2
        have hb' : base = some ⟨pl.blk, pl.base + off, none⟩ := by injection hx2
        exact ⟨_, _, _, _, fin (run1 _ w' hb' q1), .inl rfl, rl, q2⟩
      cases hx' : a.eval x <;> rw [hx'] at hv <;> cases hv
      · rename_i hpl
        exact fin2 hpl hx'
      · rename_i hpl _ _
        exact fin2 hpl hx'
    · cases hD
end
end Go.Ev
namespace Go.Ev
open Go

section
variable {P : Program} {ρ : Nat → Value} {w0 : World} {φ : Key → Option Pl} {σ : St} {w : World}

def extF : Nat → Option (Array Value → Sem Value)
  | 0 => some Extern.AbiNoEscape.same
  | 1 => some Extern.BytealgIndexByte.indexByte
  | 2 => some Extern.BytealgCount.count
  | _ => none
theorem ext_find (fn : Func) (ho : fn.origin = "") {k : Nat} {f : Array Value → Sem Value} (hk : extNo fn.name = k) (hf : extF k = some f) :
    Extern.findNext fn = none ∧ Extern.find fn = some f ∧ (fn.name == "runtime.NumGoroutine") = false := by
  have o2 : Extern.allNextRows.lookup "" = none := by kernel_rfl
  unfold extNo at hk
  split at hk
  · rename_i hn
    have hn : fn.name = "internal/abi.NoEscape" := by simpa using hn
    subst hk
    cases hf
    have e1 : Extern.allNextRows.lookup "internal/abi.NoEscape" = none := by kernel_rfl
    have e3 : Extern.allGenericRows.lookup "internal/abi.NoEscape" = none := by kernel_rfl
    have e4 : Extern.allTypedRows.lookup "internal/abi.NoEscape" = none := by kernel_rfl
    have e5 : Extern.allRows.lookup "internal/abi.NoEscape" = some Extern.AbiNoEscape.same := by kernel_rfl
    exact ⟨by simp [Extern.findNext, hn, ho, e1, o2], by simp [Extern.find, hn, e3, e4, e5], by rw [hn]; rfl⟩
  · split at hk
    · rename_i hn
      have hn : fn.name = "internal/bytealg.IndexByteString" := by simpa using hn
      subst hk
      cases hf
      have e1 : Extern.allNextRows.lookup "internal/bytealg.IndexByteString" = none := by kernel_rfl
      have e3 : Extern.allGenericRows.lookup "internal/bytealg.IndexByteString" = none := by kernel_rfl
      have e4 : Extern.allTypedRows.lookup "internal/bytealg.IndexByteString" = none := by kernel_rfl
      have e5 : Extern.allRows.lookup "internal/bytealg.IndexByteString" = some Extern.BytealgIndexByte.indexByte := by kernel_rfl
      exact ⟨by simp [Extern.findNext, hn, ho, e1, o2], by simp [Extern.find, hn, e3, e4, e5], by rw [hn]; rfl⟩
    · split at hk
      · rename_i hn
        have hn : fn.name = "internal/bytealg.CountString" := by simpa using hn
        subst hk
        cases hf
        have e1 : Extern.allNextRows.lookup "internal/bytealg.CountString" = none := by kernel_rfl
        have e3 : Extern.allGenericRows.lookup "internal/bytealg.CountString" = none := by kernel_rfl
        have e4 : Extern.allTypedRows.lookup "internal/bytealg.CountString" = none := by kernel_rfl
        have e5 : Extern.allRows.lookup "internal/bytealg.CountString" = some Extern.BytealgCount.count := by kernel_rfl
        exact ⟨by simp [Extern.findNext, hn, ho, e1, o2], by simp [Extern.find, hn, e3, e4, e5], by rw [hn]; rfl⟩
      · subst hk; cases hf

theorem findByte_ok (s : ByteArray) (len n c : Nat) (hs : StrR len n s) (hc : c < 256) : ∀ (k i : Nat), i + k = len →
    findByte len n c k i = (match (List.range' i k).find? fun i => s[i]! == c.toUInt8 with | some j => (j : Int) | none => -1)
  | 0, i, _ => rfl
  | k + 1, i, h => by
    have e : findByte len n c (k + 1) i = bcond (Nat.beq (strAt len n i) c) (Int.ofNat i) (findByte len n c k (Nat.add i 1)) := rfl
    obtain ⟨b, h1, h2, _⟩ := hs.at (i := i) (by omega)
    have ih := findByte_ok s len n c hs hc k (i + 1) (by omega)
    have hb : s[i]! = b := by
      have hlt : i < s.size := by rw [hs.size]; omega
      rw [getElem!_pos s i hlt]
      rw [getElem?_pos s i hlt] at h1
      simpa using h1
    rw [e, List.range'_succ, List.find?_cons, hb, ← h2, bcond_eq]
    have hbc : (b == c.toUInt8) = Nat.beq b.toNat c := by
      rw [Bool.eq_iff_iff, Nat.beq_eq]
      simp only [beq_iff_eq]
      constructor
      · rintro rfl
        simp [Nat.toUInt8]; omega
      · intro h; rw [← h]; simp [Nat.toUInt8]
    rw [hbc]
    cases Nat.beq b.toNat c with
    | true => rfl
    | false => exact ih
theorem countByte_ok (s : ByteArray) (len n c : Nat) (hs : StrR len n s) (hc : c < 256) : ∀ (k i acc : Nat), i + k = len →
    countByte len n c k i acc = ((s.data.toList.drop i).foldl (fun n x => if x == c.toUInt8 then n + 1 else n) acc)
  | 0, i, acc, h => by
    have : s.data.toList.drop i = [] := List.drop_eq_nil_of_le (by have := hs.1; omega)
    rw [this]; rfl
  | k + 1, i, acc, h => by
    have e : countByte len n c (k + 1) i acc = countByte len n c k (Nat.add i 1) (bcond (Nat.beq (strAt len n i) c) (Nat.add acc 1) acc) := rfl
    obtain ⟨b, h1, h2, h3⟩ := hs.at (i := i) (by omega)
    obtain ⟨hl, he⟩ := List.getElem?_eq_some_iff.1 h3
    have ed : (s.data.toList.drop i) = b :: s.data.toList.drop (i + 1) := by
      rw [← he]; exact List.drop_eq_getElem_cons hl
    have hbc : (b == c.toUInt8) = Nat.beq b.toNat c := by
      rw [Bool.eq_iff_iff, Nat.beq_eq]
      simp only [beq_iff_eq]
      constructor
      · rintro rfl
        simp [Nat.toUInt8]; omega
      · intro h; rw [← h]; simp [Nat.toUInt8]
    rw [e, ed, List.foldl_cons, countByte_ok s len n c hs hc k (i + 1) _ (by omega), ← h2, bcond_eq, hbc]

variable (hC : Ctx P ρ w0) (hW : WR P ρ w0 φ σ w) {nt : Nat} {e : Env} {a : Act} (hE : ER ρ φ nt e a.tmps) {cf : Cf} {v : AV} {σ' : St} {o : Oper}
include hC hW hE

theorem extV_ok {k : Nat} {f : Array Value → Sem Value} (hf : extF k = some f) {args : List AV} {vs : List Value} (hv : VRs ρ φ args vs) {r : AV} (h : extV k args = some r) : ∃ r', (f vs.toArray).run P w = .ok r' w ∧ VR ρ φ r r' := by
  have _ := hC
  have _ := hW
  have _ := hE
  unfold extV at h
  split at h
  · cases h
    cases hf
    cases hv with
    | cons _ v _ x h hs => cases hs; exact ⟨v, rfl, h⟩
  · rename_i len n c
    cases hf
    cases hv with
    | cons _ v _ x h1 hs =>
    cases hs with
    | cons _ v2 _ x2 h2 hs2 =>
    cases hs2
    cases h2
    cases h1 with
    | str _ _ s hs =>
    obtain ⟨hc, h⟩ := bcond_none h
    have hc : c < 256 := Nat.blt_eq ▸ hc
    simp only [intK_eq] at h
    cases h
    have := findByte_ok s len n c hs hc len 0 (by omega)
    refine ⟨.int .i64 (findByte len n c len 0), ?_, .int _ _⟩
    have hr : List.range s.size = List.range' 0 len := by rw [hs.size, List.range_eq_range']
    have e2 : (Int.ofNat c).toNat = c := rfl
    change Sem.run P (do
      let b ← Extern.Bytes.bytesOf (.string s)
      let c' ← Extern.Bytes.asByte (.int .u8 (Int.ofNat c))
      match (List.range b.size).find? fun i => b[i]! == c' with
      | some i => pure (goInt i)
      | none => pure (goInt (-1))) w = _
    simp only [Extern.Bytes.bytesOf, Extern.Bytes.asByte, Sem.run_bind, Sem.run_pure, Result.andThen_ok, e2, hr]
    rw [this]
    split <;> rfl
  · rename_i len n c
    cases hf
    cases hv with
    | cons _ v _ x h1 hs =>
    cases hs with
    | cons _ v2 _ x2 h2 hs2 =>
    cases hs2
    cases h2
    cases h1 with
    | str _ _ s hs =>
    obtain ⟨hc, h⟩ := bcond_none h
    have hc : c < 256 := Nat.blt_eq ▸ hc
    simp only [natK_eq] at h
    cases h
    have := countByte_ok s len n c hs hc len 0 0 (by omega)
    refine ⟨.int .i64 (Int.ofNat (countByte len n c len 0 0)), ?_, .int _ _⟩
    have e2 : (Int.ofNat c).toNat = c := rfl
    change Sem.run P (do
      let b ← Extern.Bytes.bytesOf (.string s)
      let c' ← Extern.Bytes.asByte (.int .u8 (Int.ofNat c))
      pure (goInt (b.foldl (fun n x => if x == c' then n + 1 else n) (0 : Nat)))) w = _
    simp only [Extern.Bytes.bytesOf, Extern.Bytes.asByte, Sem.run_bind, Sem.run_pure, Result.andThen_ok, e2]
    rw [this, Lib.foldl_data]
    have key : ∀ (l : List UInt8) (acc : Nat), l.foldl (fun (n : Int) x => if x == c.toUInt8 then n + 1 else n) (acc : Int) = ((l.foldl (fun (n : Nat) x => if x == c.toUInt8 then n + 1 else n) acc : Nat) : Int) := by
      intro l
      induction l with
      | nil => intro acc; rfl
      | cons b l ih =>
        intro acc
        rw [List.foldl_cons, List.foldl_cons]
        cases hb : (b == c.toUInt8)
        · simpa using ih acc
        · simpa using ih (acc + 1)
    have k0 := key s.data.toList 0
    simp only [List.drop_zero]
    exact congrArg (fun z => Result.ok (Value.int IntKind.i64 z) w) k0
  · cases h
theorem ext_ok {c : Call} {f : FuncId} {fn : Func} {args : List Opd} {k : Nat} (ho : o.op = .call c) (hb : c.callee = .value (.func f)) (hfn : P.funcs[f]? = some fn) (hbody : fn.body.isSome = false) (horg : fn.origin = "") (hk : extNo fn.name = k)
    (h1 : optL (lOpd P) c.args.toList = some args) (h : A.ext k args cf e σ = .val v σ') : ValOk P ρ w0 φ σ w (execOp a.eval o) v σ' := by
  obtain ⟨h', hσ⟩ := ofV_val h
  clear h; subst hσ
  have hv := evL_VRs hC.one hE h1
  cases hf : extF k with
  | none =>
    exfalso
    unfold extV at h'
    split at h' <;> first | cases hf | cases h'
  | some g =>
    obtain ⟨n1, n2, n3⟩ := ext_find fn horg hk hf
    obtain ⟨r', r1, r2⟩ := extV_ok hC hW hE hf hv h'
    refine .pure hW ?_ r2
    have hargs : (c.args.map a.eval) = (c.args.toList.map a.eval).toArray := by rw [← Array.toList_map, Array.toArray_toList]
    have hev : a.eval (.func f) = .func (.func f) #[] #[] := rfl
    have hbn : fn.body.isNone = true := by cases hh : fn.body <;> simp_all
    have hcf := run_callFunc_extern hfn n3 hbn n1 n2 (c.args.map a.eval) w
    rw [hargs, r1] at hcf
    simp only [execOp, ho, resolve, hb, Sem.run_bind, hev, Deferred.ofValue, Sem.run_pure, Result.andThen_ok, invoke, hargs]
    have e0 : (#[] : Array Value) ++ (c.args.toList.map a.eval).toArray ++ #[] = (c.args.toList.map a.eval).toArray := by simp
    rw [e0, hcf]
    rfl
end
end Go.Ev
namespace Go.Ev
open Go

section
variable {P : Program} {ρ : Nat → Value} {w0 : World} {φ : Key → Option Pl} {σ : St} {w : World}
variable (hC : Ctx P ρ w0) (hW : WR P ρ w0 φ σ w) {nt : Nat} {e : Env} {a : Act} (hE : ER ρ φ nt e a.tmps) {cf : Cf} {v : AV} {σ' : St} {o : Oper}
include hC hW hE

omit hC hW hE in
theorem run_stringToBytes (el : TypeId) (s : ByteArray) (w : World) : ∃ extra : List Value, (Conv.stringToBytes el s).run P w =
    .ok (.slice (some ⟨w.heap.size, 0, none⟩) s.size (s.size + extra.length)) { w with drawn := w.drawn + 1, heap := w.heap.push (.cells ((s.data.toList.map fun b => Value.int .u8 b.toNat) ++ extra).toArray el (s.size + extra.length, s.size + extra.length + 1)) } := by
  generalize hcap : Question.cut (.appendCap s.size 0 el) (w.tape w.drawn (.appendCap s.size 0 el)) = newCap
  have hge : s.size ≤ newCap := by rw [← hcap]; simp [Question.cut]
  refine ⟨List.replicate (newCap - s.size) (.int .u8 0), ?_⟩
  have hch : (choose (.appendCap s.size 0 el)).run P w = .ok newCap { w with drawn := w.drawn + 1 } := by
    simp only [choose, Sem.run, Question.forced, hcap]; rfl
  have hlen : s.size + (List.replicate (newCap - s.size) (Value.int .u8 0)).length = newCap := by simp; omega
  rw [hlen]
  have harr : (s.data.map fun b => Value.int .u8 b.toNat) ++ Array.replicate (newCap - s.size) (.int .u8 0) = ((s.data.toList.map fun b => Value.int .u8 b.toNat) ++ List.replicate (newCap - s.size) (Value.int .u8 0)).toArray := by
    apply Array.ext'; simp
  have hsz : ((s.data.toList.map fun b => Value.int .u8 b.toNat) ++ List.replicate (newCap - s.size) (Value.int .u8 0)).toArray.size = newCap := by simp; omega
  unfold Conv.stringToBytes
  simp only [Sem.run_bind, hch, Result.andThen_ok]
  rw [harr]
  generalize hrow : ((s.data.toList.map fun b => Value.int .u8 b.toNat) ++ List.replicate (newCap - s.size) (Value.int .u8 0)).toArray = row at *
  have hshape : (World.shape? { w with drawn := w.drawn + 1, heap := w.heap.push (.cells row el) } w.heap.size) = some (el, row.size) := by
    simp [World.shape?]
  simp only [newRow, newObj, Sem.run, Sem.run_bind, Result.andThen_ok, Sem.run_pure, markStringish, shape, hshape]
  simp only [freeze, Sem.run, hsz, Result.andThen_ok, World.freeze]
  congr 1
  simp
  apply Array.ext
  · simp
  · intro i h1 h2
    simp at h1
    rw [Array.getElem_modify]
    split
    · rename_i hi; subst hi; simp
    · rename_i hi
      have hlt : i < w.heap.size := by omega
      simp [Array.getElem_push, hlt]
theorem cS2b_ok {s d el : TypeId} {x : Operand} {x' : Opd} (ho : o.op = .convert s d x) (hs : P.underlying s = some .string) (hd : P.underlying d = some (.slice el)) (he : P.underlying el = some (.int .u8)) (h1 : lOpd P x = some x') (h : A.cS2b el x' cf e σ = .val v σ') :
    ValOk P ρ w0 φ σ w (execOp a.eval o) v σ' := by
  obtain ⟨len, n, hx, h⟩ := strV_val h (by simp)
  cases h
  have hv := lOpd_VR hC.one h1 hE
  rw [hx] at hv
  cases hx' : a.eval x <;> rw [hx'] at hv <;> cases hv
  rename_i s hs'
  obtain ⟨extra, hrun⟩ := run_stringToBytes (P := P) el s w
  have hsz := hs'.size
  have hvs := strBytes_VRs (ρ := ρ) (φ := padd φ σ.next ⟨w.heap.size, 0, len + extra.length⟩) hs' len 0 (by omega)
  have hfull : ((s.data.toList.drop 0).take len) = s.data.toList := by
    rw [List.drop_zero, List.take_of_length_le]; rw [hs'.1]; exact Nat.le_refl _
  rw [hfull] at hvs
  have hb : BR P ρ (padd φ σ.next ⟨w.heap.size, 0, len + extra.length⟩) (.cells el (strBytes len n len 0)) ⟨w.heap.size, 0, len + extra.length⟩
      (.cells ((s.data.toList.map fun b => Value.int .u8 b.toNat) ++ extra).toArray el (s.size + extra.length, s.size + extra.length + 1)) := by
    have hl := hs'.1
    simp only [Array.length_toList] at hl
    refine ⟨rfl, ⟨?_, Nat.zero_mod _⟩, by simp; omega, by rw [strBytes_len]; simp; omega, ?_⟩
    · intro o h1 h2
      simp at h1
      have h3 := h2.1
      simp only at h3
      omega
    · intro i u hi
      obtain ⟨y, g1, g2⟩ := hvs.get hi
      refine ⟨y, ?_, g2, ?_⟩
      · have hlt : i < (s.data.toList.map fun b => Value.int .u8 b.toNat).length := (List.getElem?_eq_some_iff.1 g1).1
        simp only [Nat.zero_add, List.getElem?_toArray]
        rw [List.getElem?_append_left hlt]; exact g1
      · have := List.mem_of_getElem? g1
        simp only [List.mem_map] at this
        obtain ⟨b, _, rfl⟩ := this
        rfl
  have hg := (Go1.drew hW (w.drawn + 1)).trans (Go1.new (hW.drew (w.drawn + 1)) _ _ _ hb)
  rw [hsz] at hrun hg
  refine ⟨_, _, _, _, ?_, .inl rfl, .sliO σ.next 0 len 1 (len + extra.length) _ (ext_same _ _ _) (by simp) (by omega), hg⟩
  simp only [execOp, ho, hx', convert, Sem.run_bind, run_underlying hs, run_underlying hd, run_underlying he, Result.andThen_ok, hrun]
  rfl
theorem cells_shape {b : Key} {pl : Pl} (hp : φ b = some pl) {p : Nat × List AV} (hc : σ.cells b = some p) : ∃ c fz, w.heap[pl.blk]? = some (.cells c p.1 fz) ∧ w.shape? pl.blk = some (p.1, c.size) ∧ pl.base + p.2.length ≤ c.size ∧ pl.base % P.cellsOf p.1 = 0 ∧ FzOk c.size fz := by
  have _ := hC
  have _ := hE
  obtain ⟨c, fz, e1, e2, e3, e4, e5⟩ := hW.row hp (St.cells_some hc)
  exact ⟨c, fz, e1, by simp [World.shape?, e1], e4, e2.2, e2.1⟩
theorem cP2u_ok {s d t : TypeId} {n : Nat} {x : Operand} {x' : Opd} (ho : o.op = .convert s d x) (hs : P.underlying s = some (.pointer t)) (hd : P.underlying d = some .unsafePointer) (hn : sizeT P t = some n) (h0 : n ≠ 0) (h1 : lOpd P x = some x') (h : A.cP2u n x' cf e σ = .val v σ') :
    ValOk P ρ w0 φ σ w (execOp a.eval o) v σ' := by
  have _ := hW
  have hv := lOpd_VR hC.one h1 hE
  unfold A.cP2u at h
  split at h
  · rename_i hx
    cases h; rw [hx] at hv
    cases hx' : a.eval x <;> rw [hx'] at hv <;> cases hv
    refine .pure hW ?_ .nilp
    simp [execOp, ho, convert, run_underlying hs, run_underlying hd, hx', Conv.unsafePointer]
  · rename_i b off hx
    obtain ⟨p, hp, h⟩ := orec_val h
    obtain ⟨hlt, h⟩ := bcond_val h (by simp)
    have hlt : off < p.2.length := by rw [← lenL_eq]; exact Nat.blt_eq ▸ hlt
    cases h; rw [hx] at hv
    cases hx' : a.eval x <;> rw [hx'] at hv <;> cases hv
    rename_i pl hpl
    obtain ⟨c, fz, e1, e2, e3, _⟩ := cells_shape hC hW hE hpl hp
    refine .pure hW ?_ (.ptr _ _ _ hpl)
    have hsh : (shape pl.blk).run P w = .ok (some (p.1, c.size)) w := by simp [shape, Sem.run, e2]
    have hseen : (Conv.seenAt ⟨pl.blk, pl.base + off, none⟩).run P w = .ok ⟨pl.blk, pl.base + off, none⟩ w := by
      simp [Conv.seenAt, viewAt, hsh]
    have hci : (cellsIn pl.blk).run P w = .ok (some c.size) w := by simp [cellsIn, hsh]
    have hlt2 : ¬ c.size ≤ pl.base + off := by omega
    simp only [execOp, ho, hx', convert, Sem.run_bind, run_underlying hs, run_underlying hd, Result.andThen_ok]
    simp [Conv.unsafePointer, run_underlying hs, run_underlying hd, hseen, hci, run_sizeOf' hn, h0, hlt2]
  · cases h
theorem cU2p_ok {s d t : TypeId} {n : Nat} {x : Operand} {x' : Opd} (ho : o.op = .convert s d x) (hs : P.underlying s = some .unsafePointer) (hd : P.underlying d = some (.pointer t)) (hn : sizeT P t = some n) (h0 : n ≠ 0) (h1 : lOpd P x = some x') (h : A.cU2p t n x' cf e σ = .val v σ') :
    ValOk P ρ w0 φ σ w (execOp a.eval o) v σ' := by
  have hv := lOpd_VR hC.one h1 hE
  unfold A.cU2p at h
  split at h
  · rename_i hx
    cases h; rw [hx] at hv
    cases hx' : a.eval x <;> rw [hx'] at hv <;> cases hv
    refine .pure hW ?_ .nilp
    simp [execOp, ho, convert, run_underlying hs, run_underlying hd, hx', Conv.unsafePointer]
  · rename_i b off hx
    obtain ⟨p, hp, h⟩ := orec_val h
    obtain ⟨ht, h⟩ := bcond_val h (by simp)
    obtain ⟨hof, h⟩ := bcond_val h (by simp)
    obtain ⟨hl, h⟩ := bcond_val h (by simp)
    have ht := Nat.eq_of_beq_eq_true ht
    have hof := Nat.eq_of_beq_eq_true hof
    have hl : p.2.length = n := by rw [← lenL_eq]; exact Nat.eq_of_beq_eq_true hl
    subst hof
    cases h; rw [hx] at hv
    cases hx' : a.eval x <;> rw [hx'] at hv <;> cases hv
    rename_i pl hpl
    obtain ⟨c, fz, e1, e2, e3, e4, _⟩ := cells_shape hC hW hE hpl hp
    rw [ht] at e1 e2 e4
    refine .pure hW ?_ (.ptr _ _ _ hpl)
    have hsh : (shape pl.blk).run P w = .ok (some (t, c.size)) w := by simp [shape, Sem.run, e2]
    have hseen : (Conv.seenAt ⟨pl.blk, pl.base + 0, none⟩).run P w = .ok ⟨pl.blk, pl.base + 0, none⟩ w := by
      simp [Conv.seenAt, viewAt, hsh]
    have hco : P.cellsOf t = n := by
      obtain ⟨i, i1, i2⟩ := sizeT_info hn
      simp [Program.cellsOf, i1, i2]
    have hcnt : pl.base / n + 1 ≤ c.size / n := by
      rw [hco] at e4
      have hpos : 0 < n := Nat.pos_of_ne_zero h0
      have : (pl.base + n) / n ≤ c.size / n := Nat.div_le_div_right (by omega)
      rw [Nat.add_div_right _ hpos] at this
      exact this
    have hsame : sameLayout P P.depth t t = true := by
      show sameLayout P (2 * (P.types.size + Made.depth) + 1 + 1) t t = true
      rw [sameLayout]; simp
    have hlies : liesAt P P.depth t (c.size / n) (pl.base + 0) t 1 = true := by
      show liesAt P (2 * (P.types.size + Made.depth) + 1 + 1) t (c.size / n) (pl.base + 0) t 1 = true
      have hrow : rowAt P (sameLayout P P.depth · t) P.depth t (c.size / n) (pl.base + 0) 1 = true := by
        show rowAt P (sameLayout P P.depth · t) (2 * (P.types.size + Made.depth) + 1 + 1) t (c.size / n) (pl.base + 0) 1 = true
        rw [rowAt]
        rw [hco] at e4
        simp only [hco, h0, if_false, Nat.add_zero, e4, hsame]
        simp [hcnt]
      rw [liesAt, hrow]; simp
    have hva : (variablesAt ⟨pl.blk, pl.base + 0, none⟩ t 1).run P w = .ok true w := by
      simp only [variablesAt, Sem.run_bind, run_program, Result.andThen_ok, hsh, hco, hlies, Sem.run_pure]
    simp only [execOp, ho, hx', convert, Sem.run_bind, run_underlying hs, run_underlying hd, Result.andThen_ok]
    simp only [Conv.unsafePointer, Sem.run_bind, run_underlying hs, run_underlying hd, Result.andThen_ok, hseen, hva, run_sizeOf' hn]
    simp [h0]
  · cases h
end
end Go.Ev
namespace Go.Ev
open Go

section
variable {P : Program} {ρ : Nat → Value} {w0 : World} {φ : Key → Option Pl} {σ : St} {w : World}

/-- a block is forgotten, and whatever is done to it -/
theorem Go1.dead (h : WR P ρ w0 φ σ w) {k : Key} {b0 : Blk} {pl : Pl} (hk : σ.heap.get k = some b0) (hp : φ k = some pl) (o : Obj) : Go1 P ρ w0 φ σ w φ (σ.kill k) (wput w pl.blk o) := by
  have g : ∀ i x, (σ.kill k).heap.get i = some x → k ≠ i ∧ σ.heap.get i = some x := by
    intro i x hi
    simp only [St.kill, Tr.get_set] at hi
    split at hi
    · cases hi
    · rename_i e; exact ⟨e, hi⟩
  refine ⟨PExt.refl _, ⟨?_, ?_, h.fresh, ?_, ?_, by simpa [wput] using h.top⟩, rfl, rfl, rfl, by simp [wput], ?_, ?_, Nat.le_refl _, fun _ _ h => .inl h⟩
  · intro j b' hj
    obtain ⟨hne, hj⟩ := g j b' hj
    obtain ⟨pj, oj, e1, e2, e3⟩ := h.live j b' hj
    refine ⟨pj, oj, e1, ?_, e3⟩
    have hnb : pl.blk ≠ pj.blk := fun he => hne (h.inj k j b0 b' pl pj hk hj hp e1 he)
    simp only [wput]
    rw [Array.getElem?_setIfInBounds_ne hnb]; exact e2
  · intro i j b b' p p' hi hj
    exact h.inj i j b b' p p' (g _ _ hi).2 (g _ _ hj).2
  · intro c hc
    have := h.low k b0 pl hk hp
    simp only [wput]
    rw [Array.getElem?_setIfInBounds_ne (by omega)]; exact h.base c hc
  · intro j b' pj hj hpj
    exact h.low j b' pj (g _ _ hj).2 hpj
  · intro c _ hn
    simp only [wput]
    rw [Array.getElem?_setIfInBounds_ne (fun e => hn ⟨k, b0, pl, hk, hp, e⟩)]
  · rintro c ⟨j, b', pj, hj, hpj, rfl⟩
    exact .inr ⟨j, b', pj, (g _ _ hj).2, hpj, rfl⟩

theorem bytesStr_cons (v : AV) (l : List AV) (a : Nat) {m : Nat} (h : bytesStr (v :: l) a = some m) : ∃ c, v = .int .u8 (Int.ofNat c) ∧ c < 256 ∧ bytesStr l (a * 256 + c) = some m := by
  have h : v.intV none (fun k m => bcond (kindEq k .u8) (Int.rec (fun m => bcond (Nat.blt m 256) (natK (Nat.add (Nat.mul a 256) m) (bytesStr l)) none) (fun _ => none) m) none) = some m := h
  obtain ⟨k, n, rfl, h⟩ := intV_val h (by simp)
  obtain ⟨hk, h⟩ := bcond_none h
  rw [kindEq_eq] at hk
  have hk := of_decide_eq_true hk
  subst hk
  cases n with
  | negSucc n => cases h
  | ofNat n =>
    have h : bcond (Nat.blt n 256) (natK (Nat.add (Nat.mul a 256) n) (bytesStr l)) none = some m := h
    obtain ⟨hc, h⟩ := bcond_none h
    rw [natK_eq] at h
    exact ⟨n, rfl, Nat.blt_eq ▸ hc, h⟩
theorem bytesStr_ok : ∀ (l : List AV) (vs : List Value) (n m : Nat), VRs ρ φ l vs → bytesStr l n = some m →
    ∃ ns : List Int, vs = ns.map (Value.int .u8) ∧ ∀ acc : ByteArray, strNat acc.data.toList 0 = n → (ns.foldl (fun r n => r.push (UInt8.ofNat n.toNat)) acc).data.toList.length = acc.data.toList.length + l.length ∧ strNat (ns.foldl (fun r n => r.push (UInt8.ofNat n.toNat)) acc).data.toList 0 = m
  | [], vs, n, m, hv, h => by
    cases h; cases hv
    exact ⟨[], rfl, fun acc ha => ⟨by simp, ha⟩⟩
  | v :: l, vs, n, m, hv, h => by
    obtain ⟨c, rfl, hlt, h⟩ := bytesStr_cons v l _ h
    cases hv with
    | cons _ u _ us hu hus =>
    cases hu
    obtain ⟨ns, rfl, hk⟩ := bytesStr_ok l us _ m hus h
    refine ⟨Int.ofNat c :: ns, rfl, fun acc ha => ?_⟩
    have hpush : (acc.push (UInt8.ofNat (Int.toNat (Int.ofNat c)))).data.toList = acc.data.toList ++ [UInt8.ofNat c] := by simp
    obtain ⟨k1, k2⟩ := hk (acc.push (UInt8.ofNat (Int.toNat (Int.ofNat c)))) (by
      rw [hpush, strNat_append, ha]
      have : (UInt8.ofNat c).toNat = c := by simp; omega
      simp [strNat, this])
    refine ⟨?_, k2⟩
    rw [List.foldl_cons, k1, hpush]; simp; omega
theorem loadBytes_ok : ∀ (l : List AV) (vs : List Value) (ad : Addr) (acc : ByteArray) (m : Nat), VRs ρ φ l vs → bytesStr l (strNat acc.data.toList 0) = some m → (∀ (j : Nat) (v : Value), vs[j]? = some v → w.cell? (ad.add j) = some v) →
    ∃ s, (loadBytes ad acc l.length).run P w = .ok s w ∧ s.data.toList.length = acc.data.toList.length + l.length ∧ strNat s.data.toList 0 = m
  | [], vs, ad, acc, m, hv, h, hc => by
    cases h
    exact ⟨acc, rfl, by simp, rfl⟩
  | v :: l, vs, ad, acc, m, hv, h, hc => by
    obtain ⟨c, rfl, hlt, h⟩ := bytesStr_cons v l _ h
    cases hv with
    | cons _ u _ us hu hus =>
    cases hu
    have h0 := hc 0 _ rfl
    have e0 : ad.add 0 = ad := by cases ad; rename_i g o sp; unfold Addr.add; simp
    rw [e0] at h0
    have hpush : (acc.push (Int.toNat (Int.ofNat c)).toUInt8).data.toList = acc.data.toList ++ [c.toUInt8] := by simp
    have hn : strNat (acc.push (Int.toNat (Int.ofNat c)).toUInt8).data.toList 0 = strNat acc.data.toList 0 * 256 + c := by
      rw [hpush, strNat_append]
      have : c.toUInt8.toNat = c := by simp [Nat.toUInt8]; omega
      simp [strNat, this]
    rw [← hn] at h
    obtain ⟨s, r1, r2, r3⟩ := loadBytes_ok l us (ad.add 1) (acc.push (Int.toNat (Int.ofNat c)).toUInt8) m hus h (fun j v hj => by
      have := hc (j + 1) v (by simpa using hj)
      have e1 : (ad.add 1).add j = ad.add (j + 1) := by
        cases ad; rename_i g o sp
        unfold Addr.add; split <;> (try split) <;> simp_all <;> omega
      rw [e1]; exact this)
    refine ⟨s, ?_, ?_, r3⟩
    · rw [List.length_cons, loadBytes]
      have hl : (load ad).run P w = .ok (.int .u8 (Int.ofNat c)) w := by simp [load, Sem.run, h0]
      simp only [Sem.run_bind, hl, Result.andThen_ok]
      exact r1
    · rw [r2, hpush]; simp; omega

variable (hC : Ctx P ρ w0) (hW : WR P ρ w0 φ σ w) {nt : Nat} {e : Env} {a : Act} (hE : ER ρ φ nt e a.tmps) {cf : Cf} {v : AV} {σ' : St} {o : Oper}
include hC hW hE
theorem cB2s_ok {s d el : TypeId} {x : Operand} {x' : Opd} (ho : o.op = .convert s d x) (hs : P.underlying s = some (.slice el)) (hd : P.underlying d = some .string) (he : P.underlying el = some (.int .u8)) (h1 : lOpd P x = some x') (h : A.cB2s x' cf e σ = .val v σ') :
    ValOk P ρ w0 φ σ w (execOp a.eval o) v σ' := by
  have hv := lOpd_VR hC.one h1 hE
  have fin : ∀ {str : ByteArray} {l n : Nat}, (convert s d (a.eval x)).run P w = .ok (.string str) w → StrR l n str → ValOk P ρ w0 φ σ w (execOp a.eval o) (.str l n) σ := by
    intro str l n hrun hR
    refine .pure hW ?_ (.str _ _ _ hR)
    simp [execOp, ho, hrun]
  unfold A.cB2s at h
  split at h
  · rename_i hx
    cases h
    rw [hx] at hv
    cases hx' : a.eval x <;> rw [hx'] at hv <;> cases hv
    refine fin (str := ByteArray.empty) ?_ ⟨rfl, rfl⟩
    rw [hx', run_convert_bytes_string w s d el _ _ _ hs he hd]
    simp [Conv.bytesToString]
  · rename_i b off len cap hx
    obtain ⟨h', rfl⟩ := ofV_val h
    obtain ⟨l, hl, h''⟩ := obind_some h'
    obtain ⟨n, hn, h3⟩ := obind_some h''
    cases h3
    rw [hx] at hv
    have main : ∀ {pl : Pl} {cc : Nat}, φ b = some pl → a.eval x = .slice (some ⟨pl.blk, pl.base + off, none⟩) len cc → ValOk P ρ w0 φ σ' w (execOp a.eval o) (.str len n) σ' := by
      intro pl cc hpl hx'
      obtain ⟨vs, e1, e2, e3, e4⟩ := loadN_ok hW hpl hl
      have hr := run_loadCells_list (P := P) w ⟨pl.blk, pl.base + off, none⟩ vs (fun j u hj => by
        have := e2 j u hj
        simp only [Addr.add]
        split
        · rename_i h0; subst h0; simpa using this
        · exact this)
      rw [e1] at hr
      obtain ⟨ns, rfl, hk⟩ := bytesStr_ok l vs 0 n e3 hn
      obtain ⟨k1, k2⟩ := hk ByteArray.empty rfl
      have hlen := e3.length
      refine fin (str := ns.foldl (fun r n => r.push (UInt8.ofNat n.toNat)) ByteArray.empty) ?_ ⟨?_, k2⟩
      · rw [hx', run_convert_bytes_string w s d el _ _ _ hs he hd, run_bytesToString w _ len cc ns hr]
      · rw [k1]
        have : (ByteArray.empty.data.toList : List UInt8).length = 0 := rfl
        rw [this, hlen, e1]; omega
    cases hx' : a.eval x <;> rw [hx'] at hv <;> cases hv
    · rename_i cc pl hpl
      exact main hpl hx'
    · rename_i cc z pl hpl _ _
      exact main hpl hx'
  · cases h
theorem uSliceData_ok {c : Call} {x : Operand} {x' : Opd} (ho : o.op = .call c) (hb : c.callee = .builtin .unsafeSliceData) (ha : c.args = #[x]) (h1 : lOpd P x = some x') (h : A.uSliceData x' cf e σ = .val v σ') :
    ValOk P ρ w0 φ σ w (execOp a.eval o) v σ' := by
  have hv := lOpd_VR hC.one h1 hE
  have fin : ∀ {r : Value} {v : AV}, (Builtin.unsafeSliceData_ c.argTypes o.type #[a.eval x]).run P w = .ok r w → VR ρ φ v r → ValOk P ρ w0 φ σ w (execOp a.eval o) v σ := by
    intro r v k1 k2
    refine .pure hW ?_ k2
    simp only [execOp, ho, resolve, hb, ha, Sem.run_bind, Sem.run_pure, Result.andThen_ok, invoke, builtin, List.map_toArray, List.map_cons, List.map_nil, k1]
  unfold A.uSliceData at h
  split at h
  · rename_i hx
    cases h; rw [hx] at hv
    cases hx' : a.eval x <;> rw [hx'] at hv <;> cases hv
    exact fin (by rw [hx']; rfl) .nilp
  · rename_i b off n cap hx
    rw [hx] at hv
    have ok : ∀ {pl : Pl} {c' : Nat}, φ b = some pl → a.eval x = .slice (some ⟨pl.blk, pl.base + off, none⟩) n c' → c' ≠ 0 → (Builtin.unsafeSliceData_ c.argTypes o.type #[a.eval x]).run P w = .ok (.pointer (some ⟨pl.blk, pl.base + off, none⟩)) w := by
      intro pl c' hpl hx' hc
      rw [hx']
      show Sem.run P (do if c' ≠ 0 then pure (Value.pointer (some ⟨pl.blk, pl.base + off, none⟩)) else if (← viewAt pl.blk).isSome then pure (Value.pointer (some ⟨pl.blk, pl.base + off, none⟩)) else pure (.pointer (some ⟨← newObj (.view ⟨pl.blk, pl.base + off, none⟩ (← elemOf o.type)), 0, none⟩))) w = _
      rw [if_pos hc]; rfl
    cases hx' : a.eval x <;> rw [hx'] at hv <;> cases hv
    · rename_i c' pl hpl
      have h : bcond (Nat.beq c' 0) .bad (.val (.ptr b off) σ) = OR.val v σ' := h
      rw [bcond_eq] at h
      split at h
      · cases h
      · rename_i h0
        have h0 : c' ≠ 0 := by rintro rfl; exact h0 rfl
        cases h
        exact fin (ok hpl hx' h0) (.ptr _ _ _ hpl)
    · rename_i c' z pl hpl hlen hsz
      have h : bcond (Nat.beq n 0) .bad (.val (.ptr b off) σ) = OR.val v σ' := h
      rw [bcond_eq] at h
      split at h
      · cases h
      · rename_i h0
        have h0 : n ≠ 0 := by rintro rfl; exact h0 rfl
        cases h
        exact fin (ok hpl hx' (by omega)) (.ptr _ _ _ hpl)
  · cases h
omit hC hW hE in
theorem run_uString {ts : Array TypeId} {ty pt el : TypeId} {p : Option Addr} {k : IntKind} {n : Nat} {s : ByteArray} {w' : World} (h0 : ts[0]? = some pt) (hu : P.underlying pt = some (.pointer el)) (hmax : n ≤ 1000000000)
    (hp : n = 0 ∧ s = .empty ∧ w' = w ∨ n ≠ 0 ∧ ∃ a, p = some a ∧ (variablesAt a el n).run P w = .ok true w ∧ (loadBytes a .empty n).run P w = .ok s w ∧ w' = w.freeze a n) :
    (Builtin.unsafeString_ ts ty #[.pointer p, .int k (Int.ofNat n)]).run P w = .ok (.string s) w' := by
  show Sem.run P (asInt (.int k (Int.ofNat n)) >>= _) w = _
  have hn1 : ¬ ((n : Int) < 0) := by omega
  have hn2 : ¬ ((n : Int) > IntKind.i64.max) := by simp [IntKind.max, IntKind.signed, IntKind.bits]; omega
  have ec : Int.ofNat n = (n : Int) := rfl
  have hm1 : ¬ ((9223372036854775807 : Int) < (n : Int)) := by omega
  rcases hp with ⟨rfl, rfl, rfl⟩ | ⟨hn0, a, rfl, h1, h2, rfl⟩
  · cases p <;> simp [asInt, asIntOf, h0, IntKind.max, IntKind.signed, IntKind.bits]
  · have hn3 : ¬ ((n : Int) = 0) := by omega
    have hfr : (freeze a n).run P w = .ok () (w.freeze a n) := rfl
    have hmx : IntKind.i64.max = 9223372036854775807 := rfl
    simp only [asInt, asIntOf, Sem.run_bind, Sem.run_pure, Result.andThen_ok, h0, ec, hn1, if_false, hmx, hm1, gt_iff_lt, hn3, elemOf, run_underlying hu, Int.toNat_natCast, h1, if_true, h2, hfr]
theorem uString_ok {c : Call} {x y : Operand} {x' y' : Opd} {t el : TypeId} (ho : o.op = .call c) (hb : c.callee = .builtin .unsafeString) (ha : c.args = #[x, y]) (ht : c.argTypes[0]? = some t) (hu : P.underlying t = some (.pointer el)) (hs : sizeT P el = some 1)
    (h1 : lOpd P x = some x') (h2 : lOpd P y = some y') (h : A.uString el x' y' cf e σ = .val v σ') : ValOk P ρ w0 φ σ w (execOp a.eval o) v σ' := by
  have hv := lOpd_VR hC.one h1 hE
  have hy := lOpd_VR hC.one h2 hE
  obtain ⟨k, n, hn, h⟩ := natV_val h (by simp)
  obtain ⟨hmax, h⟩ := bcond_val h (by simp)
  have hmax : n ≤ 1000000000 := Nat.le_of_ble_eq_true hmax
  rw [hn] at hy
  have hy := intK_VR hy
  have fin : ∀ {p : Option Addr} {s : ByteArray} {w' : World} {v : AV} {σ' : St}, a.eval x = .pointer p → (Builtin.unsafeString_ c.argTypes o.type #[.pointer p, .int k (Int.ofNat n)]).run P w = .ok (.string s) w' → VR ρ φ v (.string s) → Go1 P ρ w0 φ σ w φ σ' w' → ValOk P ρ w0 φ σ w (execOp a.eval o) v σ' := by
    intro p s w' v σ' hx k1 k2 k3
    refine ⟨.value (.string s), w', φ, .string s, ?_, .inl rfl, k2, k3⟩
    simp only [execOp, ho, resolve, hb, ha, Sem.run_bind, Sem.run_pure, Result.andThen_ok, invoke, builtin, List.map_toArray, List.map_cons, List.map_nil, hx, hy, k1]
  have empty : VR ρ φ (.str 0 0) (.string .empty) := .str _ _ _ ⟨rfl, rfl⟩
  rw [bcond_eq] at h
  split at h
  · rename_i h0
    have h0 := Nat.eq_of_beq_eq_true h0
    subst h0
    split at h
    · rename_i hx
      cases h; rw [hx] at hv
      cases hx' : a.eval x <;> rw [hx'] at hv <;> cases hv
      exact fin hx' (run_uString ht hu hmax (.inl ⟨rfl, rfl, rfl⟩)) empty (Go1.refl hW)
    · rename_i hx
      cases h; rw [hx] at hv
      cases hx' : a.eval x <;> rw [hx'] at hv <;> cases hv
      exact fin hx' (run_uString ht hu hmax (.inl ⟨rfl, rfl, rfl⟩)) empty (Go1.refl hW)
    · cases h
  · rename_i h0
    have h0 : n ≠ 0 := by rintro rfl; exact h0 rfl
    obtain ⟨b, off, hx, h⟩ := ptrK_val h (by simp)
    obtain ⟨p, hp, h⟩ := orec_val h
    obtain ⟨hty, h⟩ := bcond_val h (by simp)
    have hty := Nat.eq_of_beq_eq_true hty
    obtain ⟨l, hl, h⟩ := orec_val h
    obtain ⟨m, hm, h⟩ := orec_val h
    cases h; rw [hx] at hv
    cases hx' : a.eval x <;> rw [hx'] at hv <;> cases hv
    rename_i pl hpl
    obtain ⟨cc, fz, e1, e2, e3, e4, e5⟩ := cells_shape hC hW hE hpl hp
    rw [hty] at e1 e2 e4
    have hloff : off + n ≤ p.2.length ∧ l.length = n := by
      obtain ⟨p', hp', hl2⟩ := obind_some hl
      rw [hp] at hp'; cases hp'
      obtain ⟨rfl, g2⟩ := takeL_some hl2
      rw [dropL_eq] at *
      simp at g2 ⊢
      omega
    obtain ⟨vs, g1, g2, g3, g4⟩ := loadN_ok hW hpl hl
    obtain ⟨s, r1, r2, r3⟩ := loadBytes_ok (P := P) l vs ⟨pl.blk, pl.base + off, none⟩ .empty m g3 hm (fun j u hj => by rw [add_off]; exact g2 j u hj)
    rw [hloff.2] at r1 r2
    have hco : P.cellsOf el = 1 := by
      obtain ⟨i, i1, i2⟩ := sizeT_info hs
      simp [Program.cellsOf, i1, i2]
    have hlies : liesAt P P.depth el (cc.size / P.cellsOf el) (pl.base + off) el n = true := by
      have hd : P.depth = (2 * (P.types.size + Made.depth) + 1) + 1 := rfl
      rw [hd]
      simp only [liesAt, Bool.or_eq_true]
      left
      rw [hd]
      have : pl.base + off + n ≤ cc.size := by omega
      simp [rowAt, hco, sameLayout, Nat.mod_one, this]
    have hva : (variablesAt ⟨pl.blk, pl.base + off, none⟩ el n).run P w = .ok true w := by
      have hsh : (shape pl.blk).run P w = .ok (some (el, cc.size)) w := by simp [shape, Sem.run, e2]
      simp only [variablesAt, Sem.run_bind, run_program, Result.andThen_ok, hsh, hlies, Sem.run_pure]
    have hrun := run_uString (ty := o.type) (k := k) ht hu hmax (.inr ⟨h0, _, rfl, hva, r1, rfl⟩)
    have hfz : ∃ ob, w.freeze ⟨pl.blk, pl.base + off, none⟩ n = wput w pl.blk ob := by
      refine ⟨.cells cc el (if fz.1 == fz.2 then (pl.base + off, pl.base + off + n) else (min fz.1 (pl.base + off), max fz.2 (pl.base + off + n))), ?_⟩
      unfold World.freeze wput
      rw [if_neg h0]
      congr 1
      apply Array.ext_getElem?
      intro i
      rw [Array.getElem?_modify, Array.getElem?_setIfInBounds]
      split
      · rename_i e; subst e
        obtain ⟨hlt, hv⟩ := Array.getElem?_eq_some_iff.1 e1
        simp [hlt, hv]
      · rfl
    obtain ⟨ob, hob⟩ := hfz
    rw [hob] at hrun
    refine fin hx' hrun (.str _ _ _ ⟨by simpa using r2, r3⟩) (Go1.dead hW (St.cells_some hp) hpl ob)
end
end Go.Ev
namespace Go.Ev
open Go

theorem optL_one {α β : Type} {f : α → Option β} {a : Array α} {b : β} (h : optL f a.toList = some [b]) : ∃ x, a = #[x] ∧ f x = some b := by
  rcases a with ⟨l⟩
  cases l with
  | nil => simp [optL] at h
  | cons x l =>
    simp only [optL] at h
    split at h
    case h_2 => cases h
    rename_i y r hy hr
    cases h
    cases l with
    | nil => exact ⟨x, rfl, hy⟩
    | cons z l =>
      simp only [optL] at hr
      split at hr <;> cases hr
theorem optL_two {α β : Type} {f : α → Option β} {a : Array α} {b c : β} (h : optL f a.toList = some [b, c]) : ∃ x y, a = #[x, y] ∧ f x = some b ∧ f y = some c := by
  rcases a with ⟨l⟩
  cases l with
  | nil => simp [optL] at h
  | cons x l =>
    simp only [optL] at h
    split at h
    case h_2 => cases h
    rename_i y r hy hr
    cases h
    obtain ⟨z, hz, hf⟩ := optL_one (a := ⟨l⟩) hr
    have : l = [z] := by injection hz
    subst this
    exact ⟨x, z, rfl, hy, hf⟩
theorem optL_three {α β : Type} {f : α → Option β} {a : Array α} {b c d : β} (h : optL f a.toList = some [b, c, d]) : ∃ x y z, a = #[x, y, z] ∧ f x = some b ∧ f y = some c ∧ f z = some d := by
  rcases a with ⟨l⟩
  cases l with
  | nil => simp [optL] at h
  | cons x l =>
    simp only [optL] at h
    split at h
    case h_2 => cases h
    rename_i y r hy hr
    cases h
    obtain ⟨z, u, hz, hf, hg⟩ := optL_two (a := ⟨l⟩) hr
    have : l = [z, u] := by injection hz
    subst this
    exact ⟨x, z, u, rfl, hy, hf, hg⟩
theorem lOpt_isSome {P : Program} {x : Option Operand} {y : Option Opd} (h : lOpt P x = some y) : x.isSome = y.isSome := by
  cases x with
  | none => simp only [lOpt] at h; cases h; rfl
  | some z => simp only [lOpt] at h; split at h <;> cases h; rfl

section
variable {P : Program} {ρ : Nat → Value} {w0 : World} {φ : Key → Option Pl} {σ : St} {w : World}
variable (hC : Ctx P ρ w0) (hW : WR P ρ w0 φ σ w) {nt : Nat} {e : Env} {a : Act} (hE : ER ρ φ nt e a.tmps) {cf : Cf} (hH : HintOk ρ cf) (hP : PrimOk P cf) {v : AV} {σ' : St} {o : Oper}
include hC hW hE hH hP

theorem call_val {c : Call} {op : IOp} {args : List Opd} (ho : o.op = .call c) (hargs : optL (lOpd P) c.args.toList = some args) (hl : lCall P c args = some op) (hp : op.plain = true) (h : opV op cf e σ = .val v σ') : ValOk P ρ w0 φ σ w (execOp a.eval o) v σ' := by
  have _ := hH
  have _ := hP
  unfold lCall at hl
  split at hl
  · -- a function by name
    rename_i f hb
    split at hl
    case h_2 => cases hl
    rename_i fn hfn
    split at hl
    case isTrue => cases hl
    split at hl
    case isTrue => cases hl; cases hp
    rename_i hbody
    split at hl
    case isFalse => cases hl
    rename_i horg
    cases hl
    exact ext_ok (cf := cf) hC hW hE ho hb hfn (by simpa using hbody) (by simpa using horg) rfl hargs h
  · simp only [Option.bind_eq_bind, Option.bind_eq_some_iff, Option.some.injEq] at hl
    obtain ⟨g, _, rfl⟩ := hl
    cases hp
  · -- len
    rename_i x' hb
    obtain ⟨x, hx, h1⟩ := optL_one hargs
    simp only [Option.bind_eq_bind, Option.bind_eq_some_iff] at hl
    obtain ⟨t, ht, d, hd, hl⟩ := hl
    split at hl
    · cases hl; exact len_ok (cf := cf) hC hW hE (k := .sl) ho hb hx ht hd ⟨_, rfl⟩ h1 h
    · cases hl; exact len_ok (cf := cf) hC hW hE (k := .st) ho hb hx ht hd rfl h1 h
    · cases hl; exact len_ok (cf := cf) hC hW hE (k := .mp) ho hb hx ht hd ⟨_, _, rfl⟩ h1 h
    · cases hl
  · -- append
    rename_i x' y' hb
    obtain ⟨x, y, hx, h1, h2⟩ := optL_two hargs
    simp only [Option.bind_eq_bind, Option.bind_eq_some_iff] at hl
    obtain ⟨t, ht, d, hd, hl⟩ := hl
    split at hl
    case h_2 => cases hl
    rename_i el
    simp only [Option.bind_eq_some_iff] at hl
    obtain ⟨t1, ht1, d1, hd1, hl⟩ := hl
    split at hl
    case h_1 => cases hl
    rename_i hni
    simp only [Option.bind_eq_some_iff] at hl
    obtain ⟨s, hs, zv, hz, zs, hzs, b, hby, hl⟩ := hl
    split at hl
    case isTrue => cases hl
    rename_i hcond
    cases hl
    simp only [Bool.or_eq_true, beq_iff_eq, bne_iff_ne, ne_eq, not_or, Decidable.not_not] at hcond
    obtain ⟨zc, hzc, hrun⟩ := run_zeroValue' (P := P) hz
    obtain ⟨c1, c2⟩ := VR.cells (φ := φ) hC.one (ofVal_VR hC.one hzc) hzs
    have hT : AppT P c.argTypes el s b zc := ⟨⟨t, ht, hd⟩, ⟨t1, d1, ht1, hd1, fun k => hni k⟩, hs, hby, hrun, by have := c1.length; simp at this; omega⟩
    exact append_ok (cf := cf) hC hW hE ho hb hx hT hcond.1 h1 h2 h
  · -- copy
    rename_i x' y' hb
    obtain ⟨x, y, hx, h1, h2⟩ := optL_two hargs
    simp only [Option.bind_eq_bind, Option.bind_eq_some_iff] at hl
    obtain ⟨t, ht, d, hd, hl⟩ := hl
    split at hl
    case h_2 => cases hl
    simp only [Option.bind_eq_some_iff, Option.some.injEq] at hl
    obtain ⟨s, hs, rfl⟩ := hl
    exact copy_ok (cf := cf) hC hW hE ho hb hx ht hd hs h1 h2 h
  · -- clear
    rename_i x' hb
    obtain ⟨x, hx, h1⟩ := optL_one hargs
    simp only [Option.bind_eq_bind, Option.bind_eq_some_iff] at hl
    obtain ⟨t, ht, d, hd, hl⟩ := hl
    split at hl
    case h_2 => cases hl
    simp only [Option.bind_eq_some_iff] at hl
    obtain ⟨s, hs, zv, hz, zs, hzs, hl⟩ := hl
    split at hl
    case isTrue => cases hl
    cases hl
    exact clear_ok (cf := cf) hC hW hE (_s := s) ho hb hx ht hd hz hzs h1 h
  · rename_i x' y' hb
    obtain ⟨x, y, hx, h1, h2⟩ := optL_two hargs
    cases hl
    exact min_ok (cf := cf) hC hW hE ho hb hx h1 h2 h
  · rename_i x' y' z' hb
    obtain ⟨x, y, z, hx, h1, h2, h3⟩ := optL_three hargs
    cases hl
    exact min3_ok (cf := cf) hC hW hE ho hb hx h1 h2 h3 h
  · rename_i x' y' hb
    obtain ⟨x, y, hx, h1, h2⟩ := optL_two hargs
    cases hl
    exact max_ok (cf := cf) hC hW hE ho hb hx h1 h2 h
  · cases hl; cases hp
  · rename_i x' hb
    obtain ⟨x, hx, h1⟩ := optL_one hargs
    cases hl
    exact uSliceData_ok (cf := cf) hC hW hE ho hb hx h1 h
  · rename_i x' y' hb
    obtain ⟨x, y, hx, h1, h2⟩ := optL_two hargs
    simp only [Option.bind_eq_bind, Option.bind_eq_some_iff] at hl
    obtain ⟨t, ht, d, hd, hl⟩ := hl
    split at hl
    case h_2 => cases hl
    split at hl
    case isFalse => cases hl
    rename_i hs
    cases hl
    exact uString_ok (cf := cf) hC hW hE ho hb hx ht hd (by simpa using hs) h1 h2 h
  · cases hl
end
end Go.Ev
namespace Go.Ev
open Go

section
variable {P : Program} {ρ : Nat → Value} {w0 : World} {φ : Key → Option Pl} {σ : St} {w : World}
variable (hC : Ctx P ρ w0) (hW : WR P ρ w0 φ σ w) {nt : Nat} {e : Env} {a : Act} (hE : ER ρ φ nt e a.tmps) {cf : Cf} (hH : HintOk ρ cf) (hP : PrimOk P cf) {v : AV} {σ' : St} {o : Oper}
include hC hW hE hH hP

theorem op_val {op : IOp} (hl : lOp P o.op = some op) (hp : op.plain = true) (h : opV op cf e σ = .val v σ') : ValOk P ρ w0 φ σ w (execOp a.eval o) v σ' := by
  cases ho : o.op <;> rw [ho] at hl <;> simp only [lOp, Option.bind_eq_bind, Option.bind_eq_some_iff, Option.some.injEq, reduceCtorEq] at hl
  case move x => obtain ⟨y, hy, rfl⟩ := hl; exact mov_ok (cf := cf) hC hW hE (.inl ho) hy h
  case assign x => obtain ⟨y, hy, rfl⟩ := hl; exact mov_ok (cf := cf) hC hW hE (.inr ho) hy h
  case pick c x y => obtain ⟨c', h1, x', h2, y', h3, rfl⟩ := hl; exact pick_ok (cf := cf) hC hW hE ho h1 h2 h3 h
  case alloc t => obtain ⟨z, hz, zs, hzs, rfl⟩ := hl; exact alloc_ok (e := e) (cf := cf) hC hW ho hz hzs h
  case box t x => obtain ⟨y, hy, rfl⟩ := hl; exact box_ok (cf := cf) hC hW hE ho hy h
  case build t parts =>
    obtain ⟨z, hz, d, hd, hl⟩ := hl
    split at hl
    · simp only [Option.bind_eq_some_iff, Option.some.injEq] at hl
      obtain ⟨pl, hpl, zs, hzs, ps, hps, rfl⟩ := hl
      exact build_struct_ok (cf := cf) hC hW hE ho hd hz hzs hpl hps h
    · simp only [Option.bind_eq_some_iff, Option.some.injEq] at hl
      obtain ⟨s, hs, zs, hzs, ps, hps, rfl⟩ := hl
      exact build_array_ok (cf := cf) hC hW hE ho hd hs hz hzs hps h
    · cases hl
  case buildSlice t len parts =>
    obtain ⟨d, hd, hl⟩ := hl
    split at hl
    case h_2 => cases hl
    simp only [Option.bind_eq_some_iff] at hl
    obtain ⟨s, hs, z, hz, zs0, hzs0, hl⟩ := hl
    split at hl
    case isTrue => cases hl
    rename_i hcond
    simp only [Bool.or_eq_true, decide_eq_true_eq, bne_iff_ne, ne_eq, not_or, Decidable.not_not] at hcond
    simp only [Option.bind_eq_some_iff, Option.some.injEq] at hl
    obtain ⟨zs, hzs, ps, hps, rfl⟩ := hl
    rw [hzs0] at hzs
    cases hzs
    exact buildS_ok (cf := cf) hC hW hE ho hd hs hz hzs0 hcond.2 (by omega) hps h
  case load t x =>
    obtain ⟨n, hn, d, hd, y, hy, hl⟩ := hl
    have hu := fun w => run_isAgg' (P := P) t w (by rw [hd]; rfl)
    split at hl
    · rename_i ha
      subst hl
      rw [ha] at hu
      exact loadN_ok' (cf := cf) hC hW hE ho hn hu hy h
    · rename_i ha
      subst hl
      have ha : isAggT P t = false := by simpa using ha
      rw [ha] at hu
      exact load_ok' (cf := cf) hC hW hE ho hu hy h
  case store t x y => obtain ⟨n, hn, x', h1, y', h2, rfl⟩ := hl; exact store_ok (cf := cf) hC hW hE ho hn h1 h2 h
  case nilCheck x => obtain ⟨y, hy, rfl⟩ := hl; exact nilchk_ok (cf := cf) hC hW hE ho hy h
  case binOp op t x y q => obtain ⟨x', h1, y', h2, rfl⟩ := hl; exact bin_ok (cf := cf) hC hW hE hH hP ho h1 h2 h
  case unOp op t x => obtain ⟨x', h1, rfl⟩ := hl; exact un_ok (cf := cf) hC hW hE ho h1 h
  case convert s d x =>
    obtain ⟨x', h1, ds, hs, dd, hd, hl⟩ := hl
    split at hl
    · cases hl; exact cint_ok (cf := cf) hC hW hE hH ho hs hd h1 h
    · split at hl
      · rename_i he
        cases hl; exact cS2b_ok (cf := cf) hC hW hE ho hs hd he h1 h
      · cases hl
    · split at hl
      · rename_i he
        cases hl; exact cB2s_ok (cf := cf) hC hW hE ho hs hd he h1 h
      · cases hl
    · simp only [Option.bind_eq_some_iff] at hl
      obtain ⟨n, hn, hl⟩ := hl
      split at hl
      · cases hl
      · rename_i h0
        cases hl; exact cP2u_ok (cf := cf) hC hW hE ho hs hd hn (by simpa using h0) h1 h
    · simp only [Option.bind_eq_some_iff] at hl
      obtain ⟨n, hn, hl⟩ := hl
      split at hl
      · cases hl
      · rename_i h0
        cases hl; exact cU2p_ok (cf := cf) hC hW hE ho hs hd hn (by simpa using h0) h1 h
    · cases hl
  case makeInterface t x =>
    obtain ⟨d, hd, hl⟩ := hl
    split at hl
    · cases hl
    · rename_i hni
      simp only [Option.bind_eq_some_iff, Option.some.injEq] at hl
      obtain ⟨x', h1, rfl⟩ := hl
      exact mkIfc_ok (cf := cf) hC hW hE ho hd (fun m => hni m) h1 h
  case makeFunc fn x y =>
    cases fn <;> simp only [Option.bind_eq_some_iff, Option.some.injEq, reduceCtorEq] at hl
    obtain ⟨x', h1, y', h2, rfl⟩ := hl
    exact mkFn_ok (cf := cf) hC hW hE ho h1 h2 h
  case makeMap t r =>
    cases r with
    | none =>
      simp only [Option.some.injEq] at hl
      subst hl
      exact mkMap_ok (cf := cf) (e := e) hC hW ho (.inl rfl) h
    | some x =>
      cases x with
      | const c =>
        cases c <;> simp only [reduceCtorEq] at hl
        split at hl
        · rename_i kt et hu
          cases hl
          exact mkMap_ok (cf := cf) (e := e) hC hW ho (.inr ⟨_, _, kt, et, rfl, hu⟩) h
        · cases hl
      | _ => simp only [reduceCtorEq] at hl
  case makeSlice t x y =>
    obtain ⟨d, hd, hl⟩ := hl
    split at hl
    case h_2 => cases hl
    simp only [Option.bind_eq_some_iff] at hl
    obtain ⟨s, hs, b, hb, z, hz, zs, hzs, x', h1, y', h2, hl⟩ := hl
    split at hl
    case isTrue => cases hl
    rename_i hcond
    cases hl
    exact mkS_ok (cf := cf) hC hW hE ho hd hs hb hz hzs (by simpa using hcond) h1 h2 h
  case slice t x lo hi mx =>
    obtain ⟨x', h1, lo', h2, hi', h3, mx', h4, hl⟩ := hl
    split at hl
    case isTrue => cases hl
    rename_i hcond
    have hmx : mx.isSome → hi.isSome := by
      rw [lOpt_isSome h4, lOpt_isSome h3]
      intro hm
      cases hh : hi'.isSome
      · simp [hm, hh] at hcond
      · rfl
    simp only [Option.bind_eq_some_iff] at hl
    obtain ⟨d, hd, hl⟩ := hl
    split at hl
    · split at hl
      · cases hl
        have : mx = none := by cases mx with | none => rfl | some y => simp only [lOpt] at h4; split at h4 <;> cases h4
        subst this
        exact sliS_ok (cf := cf) hC hW hE ho hd h1 h2 h3 h
      · cases hl
    · simp only [Option.bind_eq_some_iff] at hl
      obtain ⟨s, hs, hl⟩ := hl
      split at hl
      · cases hl
      · rename_i h0
        cases hl
        exact sli_ok (cf := cf) hC hW hE ho hd hs h1 h2 h3 h4 hmx (by simpa using h0) h
    · simp only [Option.bind_eq_some_iff, Option.some.injEq] at hl
      obtain ⟨s, hs, rfl⟩ := hl
      exact sliA_ok (cf := cf) hC hW hE ho hd hs h1 h2 h3 h4 hmx h
    · cases hl
  case fieldAddr s x i =>
    obtain ⟨d, hd, hl⟩ := hl
    split at hl
    case h_2 => cases hl
    simp only [Option.bind_eq_some_iff] at hl
    obtain ⟨f, hf, z, hz, x', h1, hl⟩ := hl
    split at hl
    · cases hl
    · rename_i h0
      cases hl
      exact fldA_ok (cf := cf) hC hW hE ho hd hf hz (by simpa using h0) h1 h
  case indexAddr t x i =>
    obtain ⟨d, hd, hl⟩ := hl
    split at hl
    · simp only [Option.bind_eq_some_iff, Option.some.injEq] at hl
      obtain ⟨s, hs, x', h1, i', h2, rfl⟩ := hl
      exact ixA_ok (cf := cf) hC hW hE ho hd hs h1 h2 h
    · simp only [Option.bind_eq_some_iff, Option.some.injEq] at hl
      obtain ⟨s, hs, x', h1, i', h2, rfl⟩ := hl
      exact ixAA_ok (cf := cf) hC hW hE ho hd hs h1 h2 h
    · cases hl
  case index t x i =>
    obtain ⟨d, hd, hl⟩ := hl
    split at hl
    · simp only [Option.bind_eq_some_iff, Option.some.injEq] at hl
      obtain ⟨de, hde, s, hs, x', h1, i', h2, rfl⟩ := hl
      exact ix_ok (cf := cf) hC hW hE ho hd hs (by rw [hde]; rfl) h1 h2 h
    · simp only [Option.bind_eq_some_iff, Option.some.injEq] at hl
      obtain ⟨x', h1, i', h2, rfl⟩ := hl
      exact ixS_ok (cf := cf) hC hW hE ho hd h1 h2 h
    · cases hl
  case lookup t x i ok =>
    obtain ⟨d, hd, hl⟩ := hl
    split at hl
    case h_2 => cases hl
    simp only [Option.bind_eq_some_iff] at hl
    obtain ⟨z, hz, x', h1, i', h2, hl⟩ := hl
    split at hl
    · rename_i pk hpk
      cases hl
      exact look_ok (cf := cf) hC hW hE hH ho hd hpk hz h1 h2 h
    · cases hl
  case mapUpdate t x i y =>
    obtain ⟨d, hd, hl⟩ := hl
    split at hl
    case h_2 => cases hl
    simp only [Option.bind_eq_some_iff] at hl
    obtain ⟨x', h1, i', h2, y', h3, hl⟩ := hl
    split at hl
    · rename_i pk hpk
      cases hl
      exact mapUp_ok (cf := cf) hC hW hE hH (.inl ho) hd hpk h1 h2 h3 h
    · cases hl
  case insert t x i y =>
    obtain ⟨d, hd, hl⟩ := hl
    split at hl
    case h_2 => cases hl
    simp only [Option.bind_eq_some_iff] at hl
    obtain ⟨x', h1, i', h2, y', h3, hl⟩ := hl
    split at hl
    · rename_i pk hpk
      cases hl
      exact mapUp_ok (cf := cf) hC hW hE hH (.inr ho) hd hpk h1 h2 h3 h
    · cases hl
  case range t x =>
    obtain ⟨d, hd, hl⟩ := hl
    split at hl
    · simp only [Option.bind_eq_some_iff, Option.some.injEq] at hl
      obtain ⟨x', h1, rfl⟩ := hl
      exact rangeS_ok (cf := cf) hC hW hE ho hd h1 h
    · simp only [Option.bind_eq_some_iff, Option.some.injEq] at hl
      obtain ⟨x', h1, rfl⟩ := hl
      exact range_ok (cf := cf) hC hW hE ho hd h1 h
    · cases hl
  case next x s =>
    obtain ⟨x', h1, hl⟩ := hl
    split at hl
    · rename_i hs
      subst hs hl
      exact nextS_ok (cf := cf) hC hW hE ho h1 h
    · rename_i hs
      have hs : s = false := by simpa using hs
      subst hs hl
      exact next_ok (cf := cf) hC hW hE ho h1 h
  case typeAssert x xt t ok =>
    obtain ⟨d, hd, hl⟩ := hl
    split at hl
    · cases hl
    · rename_i hni
      simp only [Option.bind_eq_some_iff, Option.some.injEq] at hl
      obtain ⟨x', h1, z, hz, rfl⟩ := hl
      exact tasT_ok (cf := cf) hC hW hE ho hd (fun m => hni m) hz h1 h
  case extract x i => obtain ⟨x', h1, rfl⟩ := hl; exact extr_ok (cf := cf) hC hW hE ho h1 h
  case call c =>
    obtain ⟨args, hargs, hl⟩ := hl
    exact call_val hC hW hE hH hP ho hargs hl hp h
  case defer c =>
    obtain ⟨args, hargs, hl⟩ := hl
    split at hl
    · simp only [Option.bind_eq_some_iff, Option.some.injEq] at hl
      obtain ⟨g, _, rfl⟩ := hl
      cases hp
    · cases hl
  case panic x => obtain ⟨x', h1, rfl⟩ := hl; cases hp
end
end Go.Ev
