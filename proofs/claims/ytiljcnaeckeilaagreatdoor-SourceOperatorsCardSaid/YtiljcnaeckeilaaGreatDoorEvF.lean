/-
Proved here: calls, ranges over functions and deferred calls of the evaluator are sound.
Conditions: none beyond those that the statements name.
-/
import Derived.RangeFuncLeaves
import Derived.RangeFuncIn
import Derived.Test.YtiljcnaeckeilaaGreatDoorEvE
namespace Go.Ev
open Go

section
variable {P : Program} {ρ : Nat → Value} {w0 : World} {φ : Key → Option Pl} {σ : St} {w : World} {nt : Nat}

/-- one result -/
def oneRes (tmps : Array Value) : ResultVar → Sem Value
  | .tmp t => pure (tmps.getD t undef)
  | .cell a t => do loadVar t (← asAddr (tmps.getD a undef))
theorem resV_ok (hW : WR P ρ w0 φ σ w) {e : Env} {tmps : Array Value} (hE : ER ρ φ nt e tmps) {x : ResultVar} {r : IRes} (hr : lRes P x = some r) {v : AV} (h : resV r e σ = some v) :
    ∃ v', (oneRes tmps x).run P w = .ok v' w ∧ VR ρ φ v v' := by
  cases x with
  | tmp t =>
    simp only [lRes, Option.some.injEq] at hr
    subst hr
    have h : e.get (Key.ofNat t) = some v := h
    exact ⟨_, rfl, hE.get h⟩
  | cell a t =>
    simp only [lRes] at hr
    split at hr
    case h_2 => cases hr
    rename_i d n hd hn
    cases hr
    have hag := fun w => run_isAgg' (P := P) t w (by rw [hd]; rfl)
    cases ha : isAggT P t with
    | true =>
      rw [ha] at h hag
      have h : (obind (e.get (Key.ofNat a)) fun v => v.ptrK none fun b off => obind (σ.loadN b off n) fun l => some (.agg l)) = some v := h
      obtain ⟨u, hu, h⟩ := obind_some h
      obtain ⟨b, off, rfl, h⟩ := ptrK_val h (by simp)
      obtain ⟨l, hl, h⟩ := obind_some h
      cases h
      have hv := hE.get hu
      generalize hg : tmps.getD a undef = g at hv
      cases hv
      rename_i pl hpl
      obtain ⟨vs, h1, h2, h3, h4⟩ := loadN_ok hW hpl hl
      have hrun := run_loadCells_list (P := P) w ⟨pl.blk, pl.base + off, none⟩ vs (fun j u hj => by rw [add_off]; exact h2 j u hj)
      rw [h1] at hrun
      refine ⟨_, ?_, .agg _ _ h3 h4⟩
      simp only [oneRes, hg, asAddr, loadVar, Sem.run_bind, Sem.run_pure, Result.andThen_ok, hag, if_true, run_sizeOf' hn, hrun]
    | false =>
      rw [ha] at h hag
      have h : (obind (e.get (Key.ofNat a)) fun v => v.ptrK none fun b off => σ.load b off) = some v := h
      obtain ⟨u, hu, h⟩ := obind_some h
      obtain ⟨b, off, rfl, h⟩ := ptrK_val h (by simp)
      have hv := hE.get hu
      generalize hg : tmps.getD a undef = g at hv
      cases hv
      rename_i pl hpl
      obtain ⟨x, h1, h2, h3⟩ := load_ok hW hpl h
      refine ⟨x, ?_, h2⟩
      have hld : (load ⟨pl.blk, pl.base + off, none⟩).run P w = .ok x w := by simp [load, Sem.run, h1]
      simp only [oneRes, hg, asAddr, loadVar, Sem.run_bind, Sem.run_pure, Result.andThen_ok, hag, Bool.false_eq_true, if_false, hld]
theorem resL_ok (hW : WR P ρ w0 φ σ w) {e : Env} {tmps : Array Value} (hE : ER ρ φ nt e tmps) : ∀ {xs : List ResultVar} {rs : List IRes} {vs : List AV}, optL (lRes P) xs = some rs → resL rs e σ = some vs →
    ∃ us, (xs.mapM (oneRes tmps)).run P w = .ok us w ∧ VRs ρ φ vs us
  | [], rs, vs, h, h' => by
    simp [optL] at h; subst h
    cases h'
    exact ⟨[], by simp, .nil⟩
  | x :: xs, rs, vs, h, h' => by
    simp only [optL] at h
    split at h
    case h_2 => cases h
    rename_i r rs' hr hrs
    cases h
    have h' : (obind (resV r e σ) fun v => obind (resL rs' e σ) fun l => some (v :: l)) = some vs := h'
    obtain ⟨v, hv, h'⟩ := obind_some h'
    obtain ⟨l, hl, h'⟩ := obind_some h'
    cases h'
    obtain ⟨u, h1, h2⟩ := resV_ok hW hE hr hv
    obtain ⟨us, h3, h4⟩ := resL_ok hW hE hrs hl
    exact ⟨u :: us, by simp [List.mapM_cons, h1, h3], .cons _ _ _ _ h2 h4⟩
theorem results_ok (hW : WR P ρ w0 φ σ w) {e : Env} {tmps : Array Value} (hE : ER ρ φ nt e tmps) {fn : Func} {rs : List IRes} {v : AV} (hr : optL (lRes P) fn.results.toList = some rs) (h : resAll rs e σ = some v) :
    ∃ v', (results fn tmps).run P w = .ok v' w ∧ VR ρ φ v v' := by
  obtain ⟨l, hl, h⟩ := obind_some h
  obtain ⟨us, h1, h2⟩ := resL_ok hW hE hr hl
  have hm : (fn.results.mapM (oneRes tmps)).run P w = .ok us.toArray w := by
    rw [Array.mapM_eq_mapM_toList]
    simp [h1]
  have hres : (results fn tmps).run P w = .ok (if h : us.toArray.size = 1 then us.toArray[0] else .tuple us.toArray) w := by
    unfold results
    simp only [Sem.run_bind]
    refine (congrArg (fun z => Result.andThen z _) hm).trans ?_
    rfl
  split at h
  · cases h
    cases h2 with
    | cons _ u _ us' h hs =>
    cases hs
    exact ⟨u, by rw [hres]; simp, h⟩
  · rename_i hne
    cases h
    refine ⟨.tuple us.toArray, ?_, .tup _ _ h2⟩
    rw [hres]
    have : us.toArray.size ≠ 1 := by
      intro h3
      have hl := h2.length
      simp at h3
      match l, hl, hne with
      | [x], _, hne => exact hne x rfl
      | [], hl, _ => simp [h3] at hl
      | _ :: _ :: _, hl, _ => simp [h3] at hl
    rw [dif_neg this]
end
end Go.Ev
namespace Go.Ev
open Go

section
variable {P : Program} {ρ : Nat → Value} {w0 : World} {φ : Key → Option Pl} {σ : St} {w : World} {nt : Nat}

theorem bindP_get : ∀ (m k : Nat) (vs : List AV) (e0 e : Env), bindP ((List.range' k m).map Key.ofNat) vs e0 = some e →
    vs.length = m ∧ ∀ t a, e.get (Key.ofNat t) = some a → (∃ j, t = k + j ∧ vs[j]? = some a) ∨ e0.get (Key.ofNat t) = some a
  | 0, k, vs, e0, e, h => by
    cases vs with
    | nil =>
      have h : some e0 = some e := h
      cases h
      exact ⟨rfl, fun t a ha => .inr ha⟩
    | cons v vs => cases h
  | m + 1, k, vs, e0, e, h => by
    cases vs with
    | nil => cases h
    | cons v vs =>
      have h : bindP ((List.range' (k + 1) m).map Key.ofNat) vs (e0.set (some v) (Key.ofNat k)) = some e := h
      obtain ⟨h1, h2⟩ := bindP_get m (k + 1) vs _ e h
      refine ⟨by simp [h1], fun t a ha => ?_⟩
      rcases h2 t a ha with ⟨j, rfl, hj⟩ | h3
      · exact .inl ⟨j + 1, by omega, by simpa using hj⟩
      · rw [Tr.get_set] at h3
        split at h3
        · rename_i hk
          have hk := Key.ofNat_inj hk
          cases h3
          exact .inl ⟨0, by omega, rfl⟩
        · exact .inr h3
/-- the frame of a function that is entered -/
theorem bind_ok {m : Nat} {args : List AV} {vs : List Value} {e : Env} (hv : VRs ρ φ args vs) (h : bindP ((List.range m).map Key.ofNat) args .lf = some e) :
    ER ρ φ nt e (vs.toArray ++ Array.replicate (nt - vs.toArray.size) undef) := by
  rw [List.range_eq_range'] at h
  obtain ⟨h1, h2⟩ := bindP_get m 0 args .lf e h
  refine ⟨by simp; omega, fun t a ha => ?_⟩
  rcases h2 t a ha with ⟨j, rfl, hj⟩ | h3
  · obtain ⟨v, g1, g2⟩ := hv.get hj
    refine ⟨v, ?_, g2⟩
    have hlt : j < vs.length := (List.getElem?_eq_some_iff.1 g1).1
    rw [Nat.zero_add, Array.getElem?_append_left (by simpa using hlt)]
    simpa using g1
  · rw [Tr.get_lf] at h3; cases h3

/-- a block that was laid since the start and is not held is turned -/
theorem Go1.outside {φ' : Key → Option Pl} {σ' : St} {w' : World} (h : Go1 P ρ w0 φ σ w φ' σ' w') (hT : w0.heap.size ≤ w.heap.size) {c : Nat} (hc : w.heap.size ≤ c) (hn : ¬ InR φ' σ' c) (o : Obj) : Go1 P ρ w0 φ σ w φ' σ' (wput w' c o) where
  ext := h.ext
  rel := {
    live := by
      intro k b hk
      obtain ⟨pl, ob, h1, h2, h3⟩ := h.rel.live k b hk
      refine ⟨pl, ob, h1, ?_, h3⟩
      simp only [wput]
      rw [Array.getElem?_setIfInBounds_ne (fun e => hn ⟨k, b, pl, hk, h1, e.symm⟩)]; exact h2
    inj := h.rel.inj
    fresh := h.rel.fresh
    base := by
      intro i hi
      simp only [wput]
      rw [Array.getElem?_setIfInBounds_ne (by omega)]; exact h.rel.base i hi
    low := h.rel.low
    top := by simpa [wput] using h.rel.top }
  os := h.os
  tape := h.tape
  output := h.output
  size := by simpa [wput] using h.size
  keep := by
    intro i hi hni
    simp only [wput]
    rw [Array.getElem?_setIfInBounds_ne (by omega)]; exact h.keep i hi hni
  rng := h.rng
  nxt := h.nxt
  nwk := h.nwk
theorem take_ok {c : Nat} (hc : w.heap[c]? = some (.deferred (some []))) : (Instr.takeDeferred c).run P w = .ok [] (wput w c (.deferred none)) := by
  have h1 : (getObj c).run P w = .ok (.deferred (some [])) w := getObj_ok hc (by simp)
  have h2 : (setObj c (.deferred none)).run P w = .ok () (wput w c (.deferred none)) := setObj_ok hc (by simp)
  simp [Instr.takeDeferred, h1, h2]
/-- only marks stand among the deferred calls: they are taken off one by one -/
theorem leaves_marks {r : Option Nat} {fn : Func} {tmps : Array Value} {R : Ending → World → Prop} {φ0 : Key → Option Pl} {σ0 : St} {ws : World} {u : FrameMode} (hu : u ≠ .run) (hT : w0.heap.size ≤ ws.heap.size) :
    ∀ (l : List Deferred) (w : World), Go1 P ρ w0 φ0 σ0 ws φ σ w → DRs (ws.heap.size ≤ ·) ρ φ σ w [] l → (∀ w', Go1 P ρ w0 φ0 σ0 ws φ σ w' → LeavesIn (FR r) 0 P fn tmps R [] u w') → LeavesInM (FR r) 0 P fn tmps R l u w
  | [], w, hg, hD, hR => hR w hg
  | d :: l, w, hg, hD, hR => by
    cases hD with
    | mark c _ _ hB hc hn hf h =>
      exact ⟨hu, .inl ⟨c, _, rfl, take_ok hc, leaves_marks hu hT l _ (hg.outside hT hB hn _) (h.shut hf) hR⟩⟩
end
end Go.Ev
namespace Go.Ev
open Go

section
variable {P : Program} {ρ : Nat → Value} {w0 : World}

/-- the table holds the lowered functions -/
def TblOk (P : Program) (tbl : Nat → Option IF) : Prop := ∀ f fn', tbl f = some fn' → ∃ fn, P.funcs[f]? = some fn ∧ lFunc P fn = some fn' ∧ fn.name ≠ "runtime.NumGoroutine"

theorem callsIn_FR {r : Option Nat} {f : FuncId} {args : Array Value} {w : World} {R : Ending → World → Prop} (h : CallsIn (FR none) 0 P f args w R) : CallsIn (FR r) 0 P f args w R := h

theorem evCallF_inv {tbl : Nat → Option IF} {cf : Cf} {fuel f : Nat} {args : List AV} {σ : St} {c : CR} (h : evCallF tbl cf fuel f args σ = c) (hc : c ≠ .bad) :
    ∃ fn' e x e1 ds σ1, tbl f = some fn' ∧ bindP fn'.params args .lf = some e ∧ evCode cf fuel fn'.body e [] σ = .mk x e1 ds σ1 ∧
      ((x = .norm ∨ x = .ret) ∧ leave tbl cf fuel fn' e1 ds none σ1 = c ∨ ∃ v, x = .pan v ∧ leave tbl cf fuel fn' e1 ds (some v) σ1 = c) := by
  unfold evCallF at h
  cases ht : tbl f with
  | none => rw [ht] at h; exact absurd h.symm hc
  | some fn' =>
    rw [ht] at h
    simp only at h
    cases hb : bindP fn'.params args .lf with
    | none => rw [hb] at h; exact absurd h.symm hc
    | some e =>
      rw [hb] at h
      simp only at h
      cases he : evCode cf fuel fn'.body e [] σ with
      | bad => rw [he] at h; exact absurd h.symm hc
      | mk x e1 ds σ1 =>
        rw [he] at h
        simp only at h
        refine ⟨fn', e, x, e1, ds, σ1, rfl, hb, he, ?_⟩
        cases x with
        | norm => exact .inl ⟨.inl rfl, h⟩
        | exit i => exact absurd h.symm hc
        | ret => exact .inl ⟨.inr rfl, h⟩
        | pan v => exact .inr ⟨v, rfl, h⟩

theorem callF_val (hC : Ctx P ρ w0) {cf : Cf} (hF : CfOk P ρ w0 cf) {fuel : Nat} (hX : ∀ nt, FormsOk P ρ w0 cf none nt fuel) {tbl : Nat → Option IF} (hT : TblOk P tbl) {f : Nat} {args : List AV} {σ : St} {fn' : IF} {e : Env} {x : Ex} {e1 : Env} {σ1 : St} {v : AV}
    (ht : tbl f = some fn') (hb : bindP fn'.params args .lf = some e) (he : evCode cf fuel fn'.body e [] σ = .mk x e1 [] σ1) (hx : x = .norm ∨ x = .ret) (hr : resAll fn'.results e1 σ1 = some v)
    {φ : Key → Option Pl} {w : World} {vs : List Value} (hW : WR P ρ w0 φ σ w) (hv : VRs ρ φ args vs) : CallsIn (FR none) 0 P f vs.toArray w (RetP P ρ w0 φ σ w v σ1) := by
  obtain ⟨fn, h1, h2, _⟩ := hT f fn' ht
  unfold lFunc at h2
  split at h2
  case h_2 => cases h2
  rename_i c rs hbody hrs
  cases h2
  refine callsIn_of_wp_marks h1 hbody trivial ?_
  have hE : ER ρ φ fn.ntmps e (vs.toArray ++ Array.replicate (fn.ntmps - vs.toArray.size) undef) := bind_ok hv hb
  refine wpIn_mono (code_ok hC hF (hX fn.ntmps) c (.inl rfl) e [] σ x e1 [] σ1 he (w.heap.size ≤ ·) φ w { tmps := vs.toArray ++ Array.replicate (fn.ntmps - vs.toArray.size) undef, defers := [] } (.inr fun _ h => h) hW hE .nil) ?_
  rintro ex a' w' ⟨φ1, hex, hE1, hD1, hg⟩
  have fin : LeavesInM (FR none) 0 P fn a'.tmps (RetP P ρ w0 φ σ w v σ1) a'.defers .returning w' := by
    refine leaves_marks (by simp) hW.top a'.defers w' hg hD1 ?_
    intro w2 hg2
    obtain ⟨v', r1, r2⟩ := results_ok hg2.rel hE1 hrs hr
    exact ⟨v', r1, v', φ1, rfl, r2, hg2⟩
  rcases hx with rfl | rfl
  · cases ex <;> simp only [ExR] at hex
    exact fin
  · cases ex <;> simp only [ExR] at hex
    exact fin
theorem callF_pan (hC : Ctx P ρ w0) {cf : Cf} (hF : CfOk P ρ w0 cf) {fuel : Nat} (hX : ∀ nt, FormsOk P ρ w0 cf none nt fuel) {tbl : Nat → Option IF} (hT : TblOk P tbl) {f : Nat} {args : List AV} {σ : St} {fn' : IF} {e : Env} {e1 : Env} {σ1 : St} {v : AV}
    (ht : tbl f = some fn') (hb : bindP fn'.params args .lf = some e) (he : evCode cf fuel fn'.body e [] σ = .mk (.pan v) e1 [] σ1)
    {φ : Key → Option Pl} {w : World} {vs : List Value} (hW : WR P ρ w0 φ σ w) (hv : VRs ρ φ args vs) : CallsIn (FR none) 0 P f vs.toArray w (PanP P ρ w0 φ σ w v σ1) := by
  obtain ⟨fn, h1, h2, _⟩ := hT f fn' ht
  unfold lFunc at h2
  split at h2
  case h_2 => cases h2
  rename_i c rs hbody hrs
  cases h2
  refine callsIn_of_wp_marks h1 hbody trivial ?_
  have hE : ER ρ φ fn.ntmps e (vs.toArray ++ Array.replicate (fn.ntmps - vs.toArray.size) undef) := bind_ok hv hb
  refine wpIn_mono (code_ok hC hF (hX fn.ntmps) c (.inl rfl) e [] σ (.pan v) e1 [] σ1 he (w.heap.size ≤ ·) φ w { tmps := vs.toArray ++ Array.replicate (fn.ntmps - vs.toArray.size) undef, defers := [] } (.inr fun _ h => h) hW hE .nil) ?_
  rintro ex a' w' ⟨φ1, hex, hE1, hD1, hg⟩
  cases ex <;> simp only [ExR] at hex
  obtain ⟨v', rfl, hvv⟩ := hex
  refine leaves_marks (by simp) hW.top a'.defers w' hg hD1 ?_
  intro w2 hg2
  exact ⟨v', φ1, rfl, hvv, hg2⟩
end
end Go.Ev
namespace Go.Ev
open Go

section
variable {P : Program} {ρ : Nat → Value} {w0 : World} {φ : Key → Option Pl} {σ : St} {w : World}

/-- a block that is laid outside -/
theorem Go1.pushOut (h : WR P ρ w0 φ σ w) (o : Obj) : Go1 P ρ w0 φ σ w φ σ { w with heap := w.heap.push o } := by
  have hlt : ∀ k b pl, σ.heap.get k = some b → φ k = some pl → pl.blk < w.heap.size := by
    intro k b pl hk hp
    obtain ⟨pl', o', h1, h2, _⟩ := h.live k b hk
    rw [hp] at h1; cases h1
    exact (Array.getElem?_eq_some_iff.1 h2).1
  refine ⟨PExt.refl _, ⟨?_, h.inj, h.fresh, ?_, h.low, ?_⟩, rfl, rfl, rfl, by simp, ?_, ?_, Nat.le_refl _, fun _ _ h => .inl h⟩
  · intro k b hk
    obtain ⟨pl, o', h1, h2, h3⟩ := h.live k b hk
    refine ⟨pl, o', h1, ?_, h3⟩
    have := hlt k b pl hk h1
    show (w.heap.push o)[pl.blk]? = _
    rw [Array.getElem?_push, if_neg (by omega)]; exact h2
  · intro c hc
    have := h.top
    show (w.heap.push o)[c]? = _
    rw [Array.getElem?_push, if_neg (by omega)]; exact h.base c hc
  · have := h.top; show _ ≤ (w.heap.push o).size; simp; omega
  · intro c hc _
    show (w.heap.push o)[c]? = _
    rw [Array.getElem?_push, if_neg (by omega)]
  · intro c hc; exact .inr hc
theorem InR.lt (h : WR P ρ w0 φ σ w) {c : Nat} (hc : InR φ σ c) : c < w.heap.size := by
  obtain ⟨k, b, pl, hk, hp, rfl⟩ := hc
  obtain ⟨pl', o', h1, h2, _⟩ := h.live k b hk
  rw [hp] at h1; cases h1
  exact (Array.getElem?_eq_some_iff.1 h2).1
theorem DRs.lt {B : Nat → Prop} {ds : List Dfr} {l : List Deferred} (h : DRs B ρ φ σ w ds l) : ∀ d ∈ l, d.target ≠ .collected w.heap.size := by
  induction h with
  | nil => intro d hd; cases hd
  | call f first cap args fv cv av ds l h1 h2 h3 _ ih =>
    intro d hd
    rcases List.mem_cons.1 hd with rfl | hd
    · intro h; cases h
    · exact ih d hd
  | mark c ds l hB hc hn hf _ ih =>
    intro d hd
    rcases List.mem_cons.1 hd with rfl | hd
    · intro h
      cases h
      have := (Array.getElem?_eq_some_iff.1 hc).1
      omega
    · exact ih d hd
theorem LoopSt_inv {n : Nat} {s : LoopState} (h : LoopSt n s) : (n = 0 ∧ s = .ready) ∨ (n = 1 ∧ s = .busy) ∨ (n = 2 ∧ s = .done) ∨ (n = 3 ∧ s = .exhausted) := by
  unfold LoopSt at h
  split at h <;> first | exact h.elim | simp

theorem getLoop_ok {l : Nat} {L : Loop} (h : w.heap[l]? = some (.loop L)) : (Instr.getLoop l).run P w = .ok L w := by
  have h1 : (getObj l).run P w = .ok (.loop L) w := getObj_ok h (by simp)
  simp [Instr.getLoop, h1]

theorem rangeF_ok (hC : Ctx P ρ w0) {cf : Cf} (hF : CfOk P ρ w0 cf) {nt fuel : Nat} (f : Operand) (ps : Array Tmp) (a b : Code) :
    CodeOk P ρ w0 none nt (.rangeFunc f ps a b) (evCode cf fuel (lCode P nt (.rangeFunc f ps a b))) := by
  intro e d σ x e' d' σ' h B φ w act hB hW hE hD
  simp only [lCode] at h
  split at h
  case h_2 => cases h
  rename_i f' hf'
  split at h
  case isFalse => cases h
  rename_i hchk
  simp only [Bool.and_eq_true] at hchk
  obtain ⟨⟨hps, hna⟩, hnb⟩ := hchk
  have hps : ∀ t ∈ ps.toList, t < nt := fun t ht => of_decide_eq_true (List.all_eq_true.1 hps t ht)
  have h : C.rangeF cf f' (ps.toList.map Key.ofNat) (lCode P nt a) (lCode P nt b) e d σ = .mk x e' d' σ' := h
  unfold C.rangeF at h
  have hfv := lOpd_VR hC.one hf' hE
  generalize hbk : Blk.loop 0 .skip e (ps.toList.map Key.ofNat) (lCode P nt a) (lCode P nt b) = bk at h
  simp only at h
  split at h
  case h_2 => cases h
  rename_i g first cap hx
  rw [hx] at hfv
  cases hx' : act.eval f <;> rw [hx'] at hfv <;> cases hfv
  rename_i fv cv hfv hcv
  cases hcall : cf.call g (appL first (AV.yld σ.next :: cap)) (σ.new bk) with
  | bad => rw [hcall] at h; cases h
  | pan v σ2 => rw [hcall] at h; cases h
  | val v σ2 =>
  rw [hcall] at h
  simp only at h
  cases hl2 : σ2.heap.get σ.next with
  | none => rw [hl2] at h; cases h
  | some x2 =>
  rw [hl2] at h
  simp only at h
  split at h
  case h_2 => cases h
  rename_i st pend e2 ps2 as2 bs2
  have hst : st ≠ 1 ∧ (match pend with
           | .skip => Res.mk .norm e d (σ2.kill σ.next)
           | .ret => .mk .ret e d (σ2.kill σ.next)
           | .exit i => .mk (.exit i) e d (σ2.kill σ.next)
           | _ => .bad) = .mk x e' d' σ' := by
    rw [bcond_eq] at h
    split at h
    · cases h
    · rename_i hb
      exact ⟨fun e => hb (by subst e; rfl), h⟩
  clear h
  obtain ⟨hst, h⟩ := hst
  have hBr : ∀ i, w.heap.size ≤ i → B i := hB.resolve_left (by simp [ndC])
  refine wpIn_rangeFunc ?_
  intro fn _
  -- the worlds
  have g1 := Go1.pushOut hW (.deferred (some []))
  generalize hwa : ({ w with heap := w.heap.push (.deferred (some [])) } : World) = wa at g1
  have hwas : wa.heap.size = w.heap.size + 1 := by subst hwa; simp
  let L : Loop := { state := .ready, pending := none, fn, tmps := act.tmps, params := ps, assign := a, body := b, defers := w.heap.size }
  have hbr : BR P ρ (padd φ σ.next ⟨wa.heap.size, 0, 0⟩) bk ⟨wa.heap.size, 0, 0⟩ (.loop L) := by
    subst hbk
    exact ⟨trivial, trivial, nt, hE.mono (ext_PExt hW _), rfl, hps, rfl, rfl, hna, hnb⟩
  have g2 := Go1.new g1.rel bk (.loop L) 0 hbr
  generalize hwb : ({ wa with heap := wa.heap.push (.loop L) } : World) = wb at g2
  generalize hφ1 : padd φ σ.next ⟨wa.heap.size, 0, 0⟩ = φ1 at g2
  have hk1 : φ1 σ.next = some ⟨wa.heap.size, 0, 0⟩ := by subst hφ1; exact ext_same _ _ _
  have g12 := g1.trans g2
  have hargs : VRs ρ φ1 (appL first (AV.yld σ.next :: cap)) (fv ++ (.func (.yield wa.heap.size) #[] #[] :: cv)) := by
    rw [appL_eq]
    exact (hfv.mono g12.ext).append (.cons _ _ _ _ (.yld _ _ hk1) (hcv.mono g12.ext))
  obtain ⟨fnb, f1, f2, f3⟩ := (hF.call.body g _ _).1 v σ2 hcall
  have hc := hF.call.val g _ _ v σ2 hcall φ1 wb _ g2.rel hargs none
  -- deferred calls
  have hDm : DRs B ρ φ σ wa d ({ target := .collected w.heap.size, args := #[] } :: act.defers) := by
    refine .mark _ _ _ (hBr _ (Nat.le_refl _)) (by subst hwa; simp) (fun hi => ?_) hD.lt (hD.go g1)
    exact Nat.lt_irrefl _ (InR.lt hW hi)
  have run1 : (Instr.enterLoop fn act.tmps ps a b none).run P w = .ok (wa.heap.size, [{ target := .collected w.heap.size, args := #[] }]) wb := by
    subst hwb
    subst hwa
    simp [Instr.enterLoop, newObj, Sem.run, L]
    rfl
  have run2 : (resolve act.eval (rangeCall f wa.heap.size) 0).run P wb = .ok { target := .fn (.func g) cv.toArray, args := (fv ++ [Value.func (.yield wa.heap.size) #[] #[]]).toArray } wb := by
    simp only [resolve, hx', Deferred.ofValue]
    simp
    rfl
  have run3 : (invoke (.fn (.func g) cv.toArray) (fv ++ [Value.func (.yield wa.heap.size) #[] #[]]).toArray).run P wb = .ok (.enter g (fv ++ (.func (.yield wa.heap.size) #[] #[] :: cv)).toArray) wb := by
    have := run_callFunc_enter (P := P) f1 f2 f3 (fv ++ (.func (.yield wa.heap.size) #[] #[] :: cv)).toArray wb
    simpa [invoke] using this
  refine ⟨wa.heap.size, _, wb, _, wb, g, _, wb, run1, run2, fun _ _ => trivial, run3, fun h => by simp [FR] at h, hc.mono ?_⟩
  rintro en w3 ⟨v', φ3, rfl, hv3, g3⟩
  obtain ⟨pl3, o3, k1, k2, k3⟩ := g3.rel.live _ _ hl2
  have := g3.ext _ _ hk1
  rw [this] at k1
  cases k1
  cases o3 <;> simp only [BR] at k3
  rename_i L3
  obtain ⟨m1, m2, _⟩ := k3
  obtain ⟨L4, hL4⟩ : ∃ L4 : Loop, L4 = { L3 with state := .exhausted } := ⟨_, rfl⟩
  have run4 : (Instr.endLoop wa.heap.size).run P w3 = .ok L3.pending (wput w3 wa.heap.size (.loop L4)) := by
    subst hL4
    have q1 : (Instr.getLoop wa.heap.size).run P w3 = .ok L3 w3 := getLoop_ok k2
    have q2 : (setObj wa.heap.size (.loop { L3 with state := .exhausted })).run P w3 = .ok () (wput w3 wa.heap.size (.loop { L3 with state := .exhausted })) := setObj_ok k2 (by simp)
    have q3 : (L3.state == .busy) = false := by
      rcases LoopSt_inv m1 with ⟨_, e⟩ | ⟨e, _⟩ | ⟨_, e⟩ | ⟨_, e⟩
      · rw [e]; rfl
      · exact absurd e hst
      · rw [e]; rfl
      · rw [e]; rfl
    simp only [Instr.endLoop, Sem.run_bind, q1, Result.andThen_ok, q3]
    simp [q2]
  clear hL4
  have g4 := Go1.dead g3.rel hl2 this (.loop L4)
  have gAll := (g12.trans g3).trans g4
  have hDf := hDm.go (g2.trans (g3.trans g4))
  have hEf := hE.mono gAll.ext
  refine ⟨L3.pending, _, run4, ?_⟩
  cases hpd : pend <;> rw [hpd] at h m2 <;> first | (cases h; done) | skip
  · cases h
    cases hp : L3.pending <;> rw [hp] at m2 <;> simp only [PendR] at m2
    exact ⟨φ3, trivial, hEf, hDf, gAll⟩
  · rename_i i
    cases h
    cases hp : L3.pending with
    | none => rw [hp] at m2; simp [PendR] at m2
    | some c =>
      rw [hp] at m2
      cases c <;> simp only [PendR] at m2
      subst m2
      exact wpIn_exit ⟨φ3, rfl, hEf, hDf, gAll⟩
  · cases h
    cases hp : L3.pending with
    | none => rw [hp] at m2; simp [PendR] at m2
    | some c =>
      rw [hp] at m2
      cases c <;> simp only [PendR] at m2
      exact wpIn_ret ⟨φ3, trivial, hEf, hDf, gAll⟩
end
end Go.Ev
namespace Go.Ev
open Go

section
variable {P : Program} {ρ : Nat → Value} {w0 : World} {φ : Key → Option Pl} {σ : St} {w : World}

theorem bindPs_ok {nt : Nat} : ∀ (ps : List Tmp) (args : List AV) (vs : List Value) (e e' : Env) (tmps : Array Value), (∀ t ∈ ps, t < nt) → VRs ρ φ args vs → ER ρ φ nt e tmps → bindP (ps.map Key.ofNat) args e = some e' →
    vs.length = ps.length ∧ ER ρ φ nt e' ((ps.zip vs).foldl (fun tmps p => tmps.setIfInBounds p.1 p.2) tmps)
  | [], args, vs, e, e', tmps, _, hv, hE, h => by
    cases args with
    | nil =>
      cases hv
      have h : some e = some e' := h
      cases h
      exact ⟨rfl, hE⟩
    | cons _ _ => cases h
  | t :: ps, args, vs, e, e', tmps, ht, hv, hE, h => by
    cases args with
    | nil => cases h
    | cons x args =>
      cases hv with
      | cons _ v _ vs hx hv =>
      have h : bindP (ps.map Key.ofNat) args (e.set (some x) (Key.ofNat t)) = some e' := h
      have hE1 : ER ρ φ nt (e.set (some x) (Key.ofNat t)) (tmps.setIfInBounds t v) := by
        have := ER.put (a := { tmps, defers := [] }) hE (ht t (by simp)) hx
        simpa [Act.put] using this
      obtain ⟨h1, h2⟩ := bindPs_ok ps args vs _ _ _ (fun t h => ht t (by simp [h])) hv hE1 h
      exact ⟨by simp [h1], by simpa using h2⟩

theorem yld_ok (hC : Ctx P ρ w0) {cf : Cf} (hF : CfOk P ρ w0 cf) {fuel : Nat} (hX : ∀ r nt, FormsOk P ρ w0 cf r nt fuel) : YldOk P ρ w0 (evYld cf fuel) := by
  have key : ∀ l args σ c, evYld cf fuel l args σ = c → c ≠ .bad → ∃ st0 e ps as b e' e1 d1 σ1 pd e2 ps2 as2 b2 y e3 σ3 st4 pd4 e4 ps4 as4 b4,
      σ.heap.get l = some (.loop 0 st0 e ps as b) ∧ bindP ps args e = some e' ∧ evCode cf fuel as e' [] σ = .mk .norm e1 d1 σ1 ∧ σ1.heap.get l = some (.loop 0 pd e2 ps2 as2 b2) ∧
      evCode cf fuel b e1 d1 (σ1.put l (.loop 1 pd e2 ps2 as2 b2)) = .mk y e3 [] σ3 ∧ σ3.heap.get l = some (.loop st4 pd4 e4 ps4 as4 b4) ∧
      ((y = .norm ∧ c = .val (.bool true) (σ3.put l (.loop 0 .skip e4 ps4 as4 b4))) ∨ (y = .ret ∧ c = .val (.bool false) (σ3.put l (.loop 2 .ret e4 ps4 as4 b4))) ∨
        ∃ i, y = .exit i ∧ c = .val (.bool false) (σ3.put l (.loop 2 (.exit i) e4 ps4 as4 b4))) := by
    intro l args σ c h hc
    unfold evYld at h
    cases hl : σ.heap.get l with
    | none => rw [hl] at h; exact absurd h.symm hc
    | some x =>
    rw [hl] at h
    simp only at h
    split at h
    case h_2 => exact absurd h.symm hc
    rename_i st0 e ps as b
    cases hb : bindP ps args e with
    | none => rw [hb] at h; exact absurd h.symm hc
    | some e' =>
    rw [hb] at h
    simp only at h
    cases ha : evCode cf fuel as e' [] σ with
    | bad => rw [ha] at h; exact absurd h.symm hc
    | mk y1 e1 d1 σ1 =>
    rw [ha] at h
    simp only at h
    cases y1 with
    | exit i => exact absurd h.symm hc
    | ret => exact absurd h.symm hc
    | pan v => exact absurd h.symm hc
    | norm =>
    simp only at h
    cases hl1 : σ1.heap.get l with
    | none => rw [hl1] at h; exact absurd h.symm hc
    | some x1 =>
    rw [hl1] at h
    simp only at h
    split at h
    case h_2 => exact absurd h.symm hc
    rename_i pd e2 ps2 as2 b2
    cases hb2 : evCode cf fuel b e1 d1 (σ1.put l (.loop 1 pd e2 ps2 as2 b2)) with
    | bad => rw [hb2] at h; exact absurd h.symm hc
    | mk y e3 d3 σ3 =>
    rw [hb2] at h
    simp only at h
    cases d3 with
    | cons _ _ => exact absurd h.symm hc
    | nil =>
    simp only at h
    cases hl3 : σ3.heap.get l with
    | none => rw [hl3] at h; exact absurd h.symm hc
    | some x3 =>
    rw [hl3] at h
    simp only at h
    split at h
    case h_2 => exact absurd h.symm hc
    rename_i st4 pd4 e4 ps4 as4 b4
    refine ⟨st0, e, ps, as, b, e', e1, d1, σ1, pd, e2, ps2, as2, b2, y, e3, σ3, st4, pd4, e4, ps4, as4, b4, rfl, hb, ha, hl1, hb2, hl3, ?_⟩
    cases y with
    | norm => exact .inl ⟨rfl, h.symm⟩
    | ret => exact .inr (.inl ⟨rfl, h.symm⟩)
    | exit i => exact .inr (.inr ⟨i, rfl, h.symm⟩)
    | pan v => exact absurd h.symm hc
  constructor
  · intro l args σ v σ' h φ w vs pl hp hW hv r
    obtain ⟨st0, e, ps, as, b, e', e1, d1, σ1, pd, e2, ps2, as2, b2, y, e3, σ3, st4, pd4, e4, ps4, as4, b4, hl, hb, ha, hl1, hb2, hl3, hend⟩ := key l args σ _ h (by simp)
    obtain ⟨pl', o, q1, q2, q3⟩ := hW.live _ _ hl
    rw [hp] at q1; cases q1
    cases o <;> simp only [BR] at q3
    rename_i L
    obtain ⟨m1, m2, nt, hE, rfl, hlt, rfl, rfl, hna, hnb⟩ := q3
    obtain ⟨hlen, hE'⟩ := bindPs_ok _ _ _ _ _ _ hlt hv hE hb
    have hrun : (Instr.yield pl.blk vs.toArray).run P w = .ok (.round pl.blk L.fn ((L.params.zip vs.toArray).foldl (fun tmps (p : Tmp × Value) => tmps.setIfInBounds p.1 p.2) L.tmps) L.assign L.body) w := by
      have h1 := getLoop_ok (P := P) q2
      have h2 : vs.toArray.size = L.params.size := by simpa using hlen
      simp [Instr.yield, h1, h2]
    refine ⟨_, _, _, _, hrun, ?_⟩
    have htm : (L.params.zip vs.toArray).foldl (fun tmps (p : Tmp × Value) => tmps.setIfInBounds p.1 p.2) L.tmps = (L.params.toList.zip vs).foldl (fun tmps p => tmps.setIfInBounds p.1 p.2) L.tmps := by
      rw [← Array.foldl_toList, Array.toList_zip]
    rw [htm]
    refine roundIn_of_wpIn trivial ?_
    have hcodeA := code_ok hC hF (hX (some pl.blk) nt) L.assign (.inr hna)
    refine wpIn_mono (hcodeA e' [] σ .norm e1 d1 σ1 ha (w.heap.size ≤ ·) φ w { tmps := _, defers := [] } (.inl hna) hW hE' .nil) ?_
    rintro ex a1 w1 ⟨φ1, hx, hE1, hD1, hg1⟩
    cases ex <;> simp only [ExR] at hx
    -- the round begins
    obtain ⟨pl1, o1, r1, r2, r3⟩ := hg1.rel.live _ _ hl1
    have hp1 := hg1.ext _ _ hp
    rw [hp1] at r1; cases r1
    cases o1 <;> simp only [BR] at r3
    rename_i L1
    obtain ⟨n1, n2, nt1, hEL, rfl, hlt1, rfl, rfl, hna1, hnb1⟩ := r3
    have run1 : (Instr.beginRound pl.blk).run P w1 = .ok () (wput w1 pl.blk (.loop { L1 with state := .busy })) := by
      have h1 := getLoop_ok (P := P) r2
      have h2 : (setObj pl.blk (.loop { L1 with state := .busy })).run P w1 = .ok () (wput w1 pl.blk (.loop { L1 with state := .busy })) := setObj_ok r2 (by simp)
      have h3 : L1.state = .ready := by
        rcases LoopSt_inv n1 with ⟨_, e⟩ | ⟨e, _⟩ | ⟨e, _⟩ | ⟨e, _⟩
        · exact e
        · cases e
        · cases e
        · cases e
      simp [Instr.beginRound, h1, h2, h3]
    have g2 := Go1.put hg1.rel hl1 hp1 (.loop { L1 with state := .busy }) (b := .loop 1 pd e2 (L1.params.toList.map Key.ofNat) (lCode P nt1 L1.assign) (lCode P nt1 L1.body)) ⟨trivial, n2, nt1, hEL, rfl, hlt1, rfl, rfl, hna1, hnb1⟩
    refine ⟨_, run1, ?_⟩
    have hcodeB := code_ok hC hF (hX (some pl.blk) nt) L.body (.inr hnb)
    refine wpIn_mono (hcodeB e1 d1 _ y e3 [] σ3 hb2 (w.heap.size ≤ ·) φ1 _ a1 (.inl hnb) g2.rel hE1 (hD1.go g2)) ?_
    rintro ex2 a3 w3 ⟨φ3, hx3, hE3, _, hg3⟩
    have hgA := (hg1.trans g2).trans hg3
    have hp3 := hgA.ext _ _ hp
    obtain ⟨pl3, o3, t1, t2, t3⟩ := hg3.rel.live _ _ hl3
    rw [hp3] at t1; cases t1
    cases o3 <;> simp only [BR] at t3
    rename_i L3
    obtain ⟨u1, u2, u3⟩ := t3
    have hend' : ∀ jump, (Instr.endRound pl.blk jump).run P w3 = .ok (.bool jump.isNone) (wput w3 pl.blk (.loop { L3 with state := if jump.isNone then .ready else .done, pending := jump })) := by
      intro jump
      have h1 := getLoop_ok (P := P) t2
      have h2 : (setObj pl.blk (.loop { L3 with state := if jump.isNone then .ready else .done, pending := jump })).run P w3 = .ok () (wput w3 pl.blk (.loop { L3 with state := if jump.isNone then .ready else .done, pending := jump })) := setObj_ok t2 (by simp)
      simp only [Instr.endRound, h1, h2, Sem.run_bind, Sem.run_pure, Result.andThen_ok]
    rcases hend with ⟨rfl, h⟩ | ⟨rfl, h⟩ | ⟨i, rfl, h⟩
    · cases h
      cases ex2 <;> simp only [ExR] at hx3
      exact ⟨_, _, hend' none, _, φ3, rfl, .bool _, hgA.trans (Go1.put hg3.rel hl3 hp3 _ ⟨trivial, trivial, u3⟩)⟩
    · cases h
      cases ex2 <;> simp only [ExR] at hx3
      exact ⟨_, _, hend' (some .ret), _, φ3, rfl, .bool _, hgA.trans (Go1.put hg3.rel hl3 hp3 _ ⟨trivial, trivial, u3⟩)⟩
    · cases h
      cases ex2 <;> simp only [ExR] at hx3
      subst hx3
      exact ⟨_, _, hend' (some (.exit i)), _, φ3, rfl, .bool _, hgA.trans (Go1.put hg3.rel hl3 hp3 _ ⟨trivial, rfl, u3⟩)⟩
  · intro l args σ v σ' h
    obtain ⟨st0, e, ps, as, b, e', e1, d1, σ1, pd, e2, ps2, as2, b2, y, e3, σ3, st4, pd4, e4, ps4, as4, b4, hl, hb, ha, hl1, hb2, hl3, hend⟩ := key l args σ _ h (by simp)
    rcases hend with ⟨_, h⟩ | ⟨_, h⟩ | ⟨i, _, h⟩ <;> cases h
end
end Go.Ev
namespace Go.Ev
open Go

section
variable {P : Program} {ρ : Nat → Value} {w0 : World}

/-- what is under way in the frame below a deferred call -/
def ModeR (ρ : Nat → Value) (φ : Key → Option Pl) : Option AV → FrameMode → Prop
  | none, u => u = .returning ∨ ∃ v', u = .panicking [{ v := v', recovered := true }]
  | some v, u => ∃ v', u = .panicking [{ v := v', recovered := false }] ∧ VR ρ φ v v'
def ModeD (ρ : Nat → Value) (φ : Key → Option Pl) : Option AV → FrameMode → Prop
  | none, u => u = .returning
  | some v, u => ∃ v', u = .panicking [{ v := v', recovered := false }] ∧ VR ρ φ v v'
theorem ModeD.toR {φ : Key → Option Pl} {p : Option AV} {u : FrameMode} (h : ModeD ρ φ p u) : ModeR ρ φ p u := by
  cases p with
  | none => exact .inl h
  | some v => exact h
theorem ModeR.mono {φ φ' : Key → Option Pl} (hx : PExt φ φ') {p : Option AV} {u : FrameMode} (h : ModeR ρ φ p u) : ModeR ρ φ' p u := by
  cases p with
  | none => exact h
  | some v => obtain ⟨v', h1, h2⟩ := h; exact ⟨v', h1, h2.mono hx⟩
theorem ModeR.settle {φ : Key → Option Pl} {p : Option AV} {u : FrameMode} (h : ModeR ρ φ p u) : ModeD ρ φ p (settle u) := by
  cases p with
  | none =>
    rcases h with rfl | ⟨v', rfl⟩
    · rfl
    · rfl
  | some v => obtain ⟨v', rfl, h2⟩ := h; exact ⟨v', rfl, h2⟩

def RecPost (P : Program) (ρ : Nat → Value) (w0 : World) (φ : Key → Option Pl) (σ : St) (w : World) (nt : Nat) (p : Option AV) (c₁ : Frame) (rest : List Frame) (x : Ex) (e' : Env) (σ' : St) (p' : Option AV) : Exit → Act → List Frame → World → Prop :=
  fun ex a' cs' w' => ∃ φ' u', ExR ρ φ' x ex ∧ ER ρ φ' nt e' a'.tmps ∧ a'.defers = [] ∧ Go1 P ρ w0 φ σ w φ' σ' w' ∧ cs' = { c₁ with mode := u' } :: rest ∧ ModeR ρ φ' p' u' ∧ (p = none → p' = none ∧ u' = c₁.mode)
def RecOk (P : Program) (ρ : Nat → Value) (w0 : World) (nt : Nat) (c : Code) (f : Env → St → Option AV → RR) : Prop :=
  ∀ e σ p x e' σ' p', f e σ p = .mk x e' σ' p' → ∀ φ w a c₁ rest, WR P ρ w0 φ σ w → ER ρ φ nt e a.tmps → a.defers = [] → ModeR ρ φ p c₁.mode →
    c.wpSIn (FR none) 0 P (RecPost P ρ w0 φ σ w nt p c₁ rest x e' σ' p') a (c₁ :: rest) w

theorem wpSIn_mono {F : Fence} {n : Nat} {c : Code} {Q Q' : Exit → Act → List Frame → World → Prop} {a : Act} {cs : List Frame} {w : World} (h : c.wpSIn F n P Q a cs w) (hq : ∀ e a cs w, Q e a cs w → Q' e a cs w) : c.wpSIn F n P Q' a cs w :=
  fun b k h1 h2 h3 h4 => let ⟨e, a', cs', w', l, q, r⟩ := h b k h1 h2 h3 h4; ⟨e, a', cs', w', l, hq _ _ _ _ q, r⟩
theorem DRs.none {φ : Key → Option Pl} {σ : St} {w : World} {l : List Deferred} (h : DRs (fun _ => False) ρ φ σ w [] l) : l = [] := by
  cases h with
  | nil => rfl
  | mark _ _ _ hB => exact hB.elim
theorem plain_rec {nt : Nat} {c : Code} {f : Env → List Dfr → St → Res} (hn : ndC c = true) (hf : CodeOk P ρ w0 none nt c f) : RecOk P ρ w0 nt c (plainR f) := by
  intro e σ p x e' σ' p' h φ w a c₁ rest hW hE hd hM
  unfold plainR at h
  cases hfe : f e [] σ with
  | bad => rw [hfe] at h; cases h
  | mk x1 e1 d1 σ1 =>
    rw [hfe] at h
    cases d1 with
    | cons _ _ => cases h
    | nil =>
      cases h
      refine wpSIn_of_wpIn rfl (wpIn_mono (hf e [] σ x e' [] σ' hfe (fun _ => False) φ w a (.inl hn) hW hE (by rw [hd]; exact .nil)) ?_)
      rintro ex a' w' ⟨φ', hx, he, hdr, hg⟩
      exact ⟨φ', c₁.mode, hx, he, hdr.none, hg, rfl, hM.mono hg.ext, fun h => ⟨h, rfl⟩⟩
theorem RecPost.later {φ φ1 : Key → Option Pl} {σ σ1 : St} {w w1 : World} {nt : Nat} {p p1 : Option AV} {c₁ : Frame} {u1 : FrameMode} {rest : List Frame} {x : Ex} {e' : Env} {σ' : St} {p' : Option AV} (hg : Go1 P ρ w0 φ σ w φ1 σ1 w1)
    (hp : p = none → p1 = none ∧ u1 = c₁.mode) {ex : Exit} {a' : Act} {cs' : List Frame} {w' : World} (h : RecPost P ρ w0 φ1 σ1 w1 nt p1 { c₁ with mode := u1 } rest x e' σ' p' ex a' cs' w') : RecPost P ρ w0 φ σ w nt p c₁ rest x e' σ' p' ex a' cs' w' := by
  obtain ⟨φ', u', h1, h2, h3, h4, h5, h6, h7⟩ := h
  refine ⟨φ', u', h1, h2, h3, hg.trans h4, h5, h6, fun h => ?_⟩
  obtain ⟨k1, k2⟩ := hp h
  obtain ⟨k3, k4⟩ := h7 k1
  exact ⟨k3, k4.trans k2⟩
theorem seq_rec {nt : Nat} {x y : Code} {f g : Env → St → Option AV → RR} (hf : RecOk P ρ w0 nt x f) (hg : RecOk P ρ w0 nt y g) : RecOk P ρ w0 nt (.seq x y) (seqR f g) := by
  intro e σ p x' e' σ' p' h φ w a c₁ rest hW hE hd hM
  refine wpSIn_seq ?_
  unfold seqR at h
  cases hfe : f e σ p with
  | bad => rw [hfe] at h; cases h
  | mk x1 e1 σ1 p1 =>
    rw [hfe] at h
    refine wpSIn_mono (hf e σ p x1 e1 σ1 p1 hfe φ w a c₁ rest hW hE hd hM) ?_
    rintro ex a' cs' w' ⟨φ1, u1, hx, he, hd1, hgo, rfl, hM1, hp1⟩
    cases x1 with
    | norm =>
      cases ex <;> simp only [ExR] at hx
      exact wpSIn_mono (hg e1 σ1 p1 x' e' σ' p' h φ1 w' a' { c₁ with mode := u1 } rest hgo.rel he hd1 hM1) (fun ex a cs w hp => hp.later hgo hp1)
    | exit i =>
      cases h
      cases ex <;> simp only [ExR] at hx
      exact ⟨φ1, u1, hx, he, hd1, hgo, rfl, hM1, hp1⟩
    | ret =>
      cases h
      cases ex <;> simp only [ExR] at hx
      exact ⟨φ1, u1, trivial, he, hd1, hgo, rfl, hM1, hp1⟩
    | pan v =>
      cases h
      cases ex <;> simp only [ExR] at hx
      exact ⟨φ1, u1, hx, he, hd1, hgo, rfl, hM1, hp1⟩
theorem cond_rec (hC : Ctx P ρ w0) {nt : Nat} {c : Operand} {c' : Opd} (hc : lOpd P c = some c') {x y : Code} {f g : Env → St → Option AV → RR} (hf : RecOk P ρ w0 nt x f) (hg : RecOk P ρ w0 nt y g) : RecOk P ρ w0 nt (.cond c x y) (condR c' f g) := by
  intro e σ p x' e' σ' p' h φ w a c₁ rest hW hE hd hM
  have h : (c'.ev e).boolV RR.bad (fun b => Bool.rec (g e σ p) (f e σ p) b) = .mk x' e' σ' p' := h
  obtain ⟨b, hb, h⟩ := boolV_val h (by simp)
  have hv := lOpd_VR hC.one hc hE
  rw [hb] at hv
  have hv := bool_VR hv
  cases b with
  | true => exact wpSIn_cond hv (hf e σ p x' e' σ' p' h φ w a c₁ rest hW hE hd hM)
  | false => exact wpSIn_cond hv (hg e σ p x' e' σ' p' h φ w a c₁ rest hW hE hd hM)
theorem bad_rec {nt : Nat} {c : Code} : RecOk P ρ w0 nt c badR := by
  intro e σ p x' e' σ' p' h
  cases h

theorem stepR_inv {cf : Cf} {o : OpI} {ih : Env → St → Option AV → RR} {e : Env} {σ : St} {p : Option AV} {x : Ex} {e' : Env} {σ' : St} {p' : Option AV} (h : stepR cf o ih e σ p = .mk x e' σ' p') :
    (wantV o.guard e = .yes ∧ ((o.op = .recover ∧ ((p = none ∧ ih (putD e o.dst .nili) σ none = .mk x e' σ' p') ∨ ∃ v, p = some v ∧ ih (putD e o.dst v) σ none = .mk x e' σ' p')) ∨
      (o.op.plain = true ∧ ∃ v σ1, opV o.op cf e σ = .val v σ1 ∧ ih (putD e o.dst v) σ1 p = .mk x e' σ' p'))) ∨
    (wantV o.guard e = .no ∧ ih (putD e o.dst (.tup [])) σ p = .mk x e' σ' p') := by
  unfold stepR at h
  cases hw : wantV o.guard e with
  | yes =>
    rw [hw] at h
    refine .inl ⟨rfl, ?_⟩
    simp only at h
    rw [bcond_eq] at h
    split at h
    · rename_i hr
      have hr : o.op = .recover := by
        unfold IOp.isRec at hr
        split at hr
        · assumption
        · cases hr
      refine .inl ⟨hr, ?_⟩
      cases p with
      | none => exact .inl ⟨rfl, h⟩
      | some v => exact .inr ⟨v, rfl, h⟩
    · obtain ⟨h1, h2⟩ := bcond_val h (by simp)
      refine .inr ⟨h1, ?_⟩
      cases ho : opV o.op cf e σ with
      | bad => rw [ho] at h2; cases h2
      | val v σ1 => rw [ho] at h2; exact ⟨v, σ1, rfl, h2⟩
      | dfr f args σ1 => rw [ho] at h2; cases h2
      | pan v σ1 => rw [ho] at h2; cases h2
  | no => rw [hw] at h; exact .inr ⟨rfl, h⟩
  | bad => rw [hw] at h; cases h

theorem lCall_rec {c : Call} {args : List Opd} (hl : lCall P c args = some .recover) : c.callee = .builtin .recover ∧ args = [] := by
  unfold lCall at hl
  split at hl
  all_goals
    try simp only [Option.bind_eq_bind, Option.bind_eq_some_iff, Option.some.injEq] at hl
    repeat' first
      | (refine ⟨?_, rfl⟩; assumption)
      | (cases hl; done)
      | (obtain ⟨_, _, hl⟩ := hl; skip)
      | split at hl
      | simp only [Option.bind_eq_some_iff, Option.some.injEq] at hl
theorem recover_run {o : Oper} {a : Act} {w : World} (hl : lOp P o.op = some .recover) : (execOp a.eval o).run P w = .ok .recover w := by
  rcases lOp_calls hl rfl with ⟨c, ho⟩ | ⟨c, ho⟩ | ⟨y, ho⟩
  · rw [ho] at hl
    simp only [lOp, Option.bind_eq_bind, Option.bind_eq_some_iff] at hl
    obtain ⟨args, hargs, hl⟩ := hl
    obtain ⟨h1, rfl⟩ := lCall_rec hl
    have h2 : c.args = #[] := by
      rcases hc : c.args with ⟨l⟩
      rw [hc] at hargs
      cases l with
      | nil => rfl
      | cons x l =>
        simp only [optL] at hargs
        split at hargs <;> cases hargs
    simp [execOp, ho, resolve, h1, h2, invoke, builtin]
  · rw [ho] at hl
    simp only [lOp, Option.bind_eq_bind, Option.bind_eq_some_iff] at hl
    obtain ⟨args, hargs, hl⟩ := hl
    split at hl
    · simp only [Option.bind_eq_some_iff, Option.some.injEq] at hl
      obtain ⟨g, _, hl⟩ := hl
      cases hl
    · cases hl
  · rw [ho] at hl
    simp only [lOp, Option.bind_eq_bind, Option.bind_eq_some_iff, Option.some.injEq] at hl
    obtain ⟨x', h1, hl⟩ := hl
    cases hl

theorem recoverD_some {v' : Value} {c₁ : Frame} {rest : List Frame} : recoverD ({ c₁ with mode := .panicking [{ v := v', recovered := false }] } :: rest) = some (v', { c₁ with mode := .panicking [{ v := v', recovered := true }] } :: rest) := rfl
theorem recoverD_none {u : FrameMode} {φ : Key → Option Pl} {c₁ : Frame} {rest : List Frame} (h : ModeR ρ φ none u) : recoverD ({ c₁ with mode := u } :: rest) = none := by
  rcases h with rfl | ⟨v', rfl⟩ <;> rfl

theorem lOper_plain {nt : Nat} {ops : Array Oper} {o : Oper} {op : IOp} {g : Option (Key × Bool)} {d : Option Key} (h : lOper P nt ops o = { dst := d, op := op, guard := g }) (hb : op ≠ .bad) : lOp P o.op = some op ∧ lGuard ops o.guard = some g ∧ d = o.dst.map Key.ofNat ∧ (match o.dst with | none => true | some d => decide (d < nt)) = true := by
  rcases lOper_inv (P := P) (nt := nt) (ops := ops) (o := o) with hbad | ⟨op', g', hl, hg, hd, hoi⟩
  · rw [hbad] at h; cases h; exact absurd rfl hb
  · rw [hoi] at h; cases h; exact ⟨hl, hg, rfl, hd⟩

theorem opsR_ok (hC : Ctx P ρ w0) {cf : Cf} (hF : CfOk P ρ w0 cf) {nt : Nat} {ops : Array Oper} : ∀ (l : List Oper) (k : Nat), (∀ j o, l[j]? = some o → ops[k + j]? = some o) → ∀ e σ p x e' σ' p', evOpsR cf (l.map (lOper P nt ops)) e σ p = .mk x e' σ' p' →
    ∀ φ w a c₁ rest, WR P ρ w0 φ σ w → ER ρ φ nt e a.tmps → a.defers = [] → ModeR ρ φ p c₁.mode → ∀ Q : Exit → Act → List Frame → World → Prop, (∀ ex a' cs' w', RecPost P ρ w0 φ σ w nt p c₁ rest x e' σ' p' ex a' cs' w' → Q ex a' cs' w') →
    wpOpsSIn (FR none) 0 P ops Q (List.range' k l.length) a (c₁ :: rest) w
  | [], k, _, e, σ, p, x, e', σ', p', h, φ, w, a, c₁, rest, hW, hE, hd, hM, Q, hQ => by
    cases h
    exact hQ .normal a _ w ⟨φ, c₁.mode, trivial, hE, hd, Go1.refl hW, rfl, hM, fun h => ⟨h, rfl⟩⟩
  | o :: l, k, hk, e, σ, p, x, e', σ', p', h, φ, w, a, c₁, rest, hW, hE, hda, hM, Q, hQ => by
    have h : stepR cf (lOper P nt ops o) (evOpsR cf (l.map (lOper P nt ops))) e σ p = .mk x e' σ' p' := h
    have hko : ops[k]? = some o := hk 0 o rfl
    have hk' : ∀ j o', l[j]? = some o' → ops[k + 1 + j]? = some o' := by
      intro j o' hj
      have := hk (j + 1) o' (by simpa using hj)
      rw [Nat.add_assoc, Nat.add_comm 1 j]; exact this
    rcases lOper_inv (P := P) (nt := nt) (ops := ops) (o := o) with hbad | ⟨op, g, hl, hg, hd, hoi⟩
    · exfalso
      rcases stepR_inv h with ⟨_, ⟨h1, _⟩ | ⟨h1, v, σ1, h2, _⟩⟩ | ⟨hno, h1⟩
      · rw [hbad] at h1; cases h1
      · rw [hbad] at h2; cases h2
      · rw [hbad] at hno; cases hno
    · rw [hoi] at h
      obtain ⟨w1, w2⟩ := want_ok hE hg
      rw [List.length_cons, List.range'_succ]
      simp only [wpOpsSIn, hko]
      refine ⟨fun _ _ => trivial, ?_⟩
      rcases stepR_inv h with ⟨hyes, ⟨h1, ⟨rfl, h2⟩ | ⟨v, rfl, h2⟩⟩ | ⟨hpl, v, σ1, h1, h2⟩⟩ | ⟨hno, h2⟩
      · have h1 : op = .recover := h1
        subst h1
        rw [w1 hyes, if_pos rfl, recover_run hl]
        have hrec : recoverD (c₁ :: rest) = none := recoverD_none (c₁ := c₁) hM
        simp only [hrec]
        exact opsR_ok hC hF l (k + 1) hk' _ _ _ _ _ _ _ h2 φ w (a.put o.dst .nilIface) c₁ rest hW (putD_ok hE hd .nili) (by rw [put_defers]; exact hda) hM Q hQ
      · have h1 : op = .recover := h1
        subst h1
        rw [w1 hyes, if_pos rfl, recover_run hl]
        obtain ⟨v', hm, hv⟩ := hM
        have hc : c₁ = { c₁ with mode := .panicking [{ v := v', recovered := false }] } := by rw [← hm]
        have hrec : recoverD (c₁ :: rest) = some (v', { c₁ with mode := .panicking [{ v := v', recovered := true }] } :: rest) := by
          rw [hc]; rfl
        simp only [hrec]
        refine opsR_ok hC hF l (k + 1) hk' _ _ _ _ _ _ _ h2 φ w (a.put o.dst v') { c₁ with mode := .panicking [{ v := v', recovered := true }] } rest hW (putD_ok hE hd hv) (by rw [put_defers]; exact hda) (.inr ⟨v', rfl⟩) Q ?_
        rintro ex a' cs' w' ⟨φ', u', q1, q2, q3, q4, q5, q6, q7⟩
        exact hQ ex a' cs' w' ⟨φ', u', q1, q2, q3, q4, q5, q6, fun h => by cases h⟩
      · rw [w1 hyes, if_pos rfl]
        obtain ⟨nx, wa, φ1, v', r1, r2, r3, r4⟩ := op_val hC hW hE hF.hH hF.hP hl hpl h1
        have next := opsR_ok hC hF l (k + 1) hk' _ _ _ _ _ _ _ h2 φ1 wa (a.put o.dst v') c₁ rest r4.rel (putD_ok (hE.mono r4.ext) hd r3) (by rw [put_defers]; exact hda) (hM.mono r4.ext) Q
          (fun ex a' cs' w' hp => hQ ex a' cs' w' (RecPost.later (c₁ := c₁) (u1 := c₁.mode) r4 (fun h => ⟨h, rfl⟩) hp))
        rw [r1]
        rcases r2 with rfl | ⟨rfl, rfl⟩ <;> exact next
      · rw [w2 hno, if_neg (by simp)]
        exact opsR_ok hC hF l (k + 1) hk' _ _ _ _ _ _ _ h2 φ w (a.put o.dst undef) c₁ rest hW (putD_ok hE hd undef_VR) (by rw [put_defers]; exact hda) hM Q hQ

theorem rec_ok (hC : Ctx P ρ w0) {cf : Cf} (hF : CfOk P ρ w0 cf) {nt fuel : Nat} (hX : FormsOk P ρ w0 cf none nt fuel) : ∀ c : Code, ndC c = true → RecOk P ρ w0 nt c (evRec cf fuel (lCode P nt c))
  | .skip, h => plain_rec h (code_ok hC hF hX .skip (.inl rfl))
  | .label l, h => plain_rec h (code_ok hC hF hX (.label l) (.inl rfl))
  | .region id ops false, hn => by
    intro e σ p x e' σ' p' h
    have h : bcond (hasRec (ops.toList.map (lOper P nt ops))) (evOpsR cf (ops.toList.map (lOper P nt ops))) (plainR (evOps cf (ops.toList.map (lOper P nt ops)))) e σ p = .mk x e' σ' p' := h
    rw [bcond_eq] at h
    split at h
    · intro φ w a c₁ rest hW hE hd hM
      refine wpSIn_region ?_
      have := opsR_ok hC hF ops.toList 0 (by intro j o hj; simpa using hj) e σ p x e' σ' p' h φ w a c₁ rest hW hE hd hM _ (fun _ _ _ _ h => h)
      simpa [List.range_eq_range'] using this
    · exact plain_rec hn (code_ok hC hF hX (.region id ops false) (.inl rfl)) e σ p x e' σ' p' h
  | .region id ops true, hn => by
    intro e σ p x e' σ' p' h
    refine plain_rec hn (code_ok hC hF hX (.region id ops true) (.inl rfl)) e σ p x e' σ' p' ?_
    have h : evRec cf fuel (lDreg P nt ops) e σ p = .mk x e' σ' p' := h
    show plainR (evCode cf fuel (lDreg P nt ops)) e σ p = _
    unfold lDreg at h ⊢
    simp only at h ⊢
    split at h
    · rename_i hh
      rw [if_pos hh]; exact h
    · cases h
  | .seq a b, hn => by
    simp only [ndC, Bool.and_eq_true] at hn
    exact seq_rec (rec_ok hC hF hX a hn.1) (rec_ok hC hF hX b hn.2)
  | .cond c a b, hn => by
    simp only [ndC, Bool.and_eq_true] at hn
    have ha := rec_ok hC hF hX a hn.1
    have hb := rec_ok hC hF hX b hn.2
    simp only [lCode]
    split
    · rename_i c' hc
      exact cond_rec hC hc ha hb
    · exact bad_rec
  | .block id b, hn => plain_rec hn (code_ok hC hF hX (.block id b) (.inl rfl))
  | .loop b, hn => by
    have hp := plain_rec hn (code_ok hC hF hX (.loop b) (.inl rfl))
    simp only [lCode] at hp ⊢
    split
    · rename_i h1
      simp only [h1] at hp
      exact hp
    · rename_i m h1
      simp only [h1] at hp
      split
      · rename_i h2
        simp only [h2, if_true] at hp
        exact hp
      · exact bad_rec
  | .rangeFunc f ps a b, hn => by cases hn
  | .exit id, hn => plain_rec hn (code_ok hC hF hX (.exit id) (.inl rfl))
  | .scope b, hn => plain_rec hn (code_ok hC hF hX (.scope b) (.inl rfl))
  | .ret, hn => plain_rec hn (code_ok hC hF hX .ret (.inl rfl))
  | .goto l, _ => bad_rec
  | .refuse l, _ => bad_rec
end
end Go.Ev
namespace Go.Ev
open Go

section
variable {P : Program} {ρ : Nat → Value} {w0 : World}

theorem ModeD.ne {φ : Key → Option Pl} {p : Option AV} {u : FrameMode} (h : ModeD ρ φ p u) : u ≠ .run := by
  cases p with
  | none => intro hr; rw [show u = .returning from h] at hr; cases hr
  | some v => obtain ⟨v', rfl, _⟩ := h; simp
theorem ModeD.mono {φ φ' : Key → Option Pl} (hx : PExt φ φ') {p : Option AV} {u : FrameMode} (h : ModeD ρ φ p u) : ModeD ρ φ' p u := by
  cases p with
  | none => exact h
  | some v => obtain ⟨v', h1, h2⟩ := h; exact ⟨v', h1, h2.mono hx⟩

theorem dfrStep_inv {tbl : Nat → Option IF} {cf : Cf} {fuel f : Nat} {args : List AV} {ih : Option AV → St → DR} {p : Option AV} {σ : St} {p' : Option AV} {σ' : St} (h : dfrStep tbl cf fuel f args ih p σ = .mk p' σ') :
    ∃ fn e x e1 σ1 q, tbl f = some fn ∧ fn.nd = true ∧ bindP fn.params args .lf = some e ∧ evRec cf fuel fn.body e σ p = .mk x e1 σ1 q ∧
      (((x = .norm ∨ x = .ret) ∧ ∃ r, resAll fn.results e1 σ1 = some r ∧ ih q σ1 = .mk p' σ') ∨ ∃ v, x = .pan v ∧ p = none ∧ ih (some v) σ1 = .mk p' σ') := by
  unfold dfrStep at h
  cases ht : tbl f with
  | none => rw [ht] at h; cases h
  | some fn =>
    rw [ht] at h
    simp only at h
    rw [bcond_eq] at h
    split at h
    case isFalse => cases h
    rename_i hnd
    cases hb : bindP fn.params args .lf with
    | none => rw [hb] at h; cases h
    | some e =>
    rw [hb] at h
    simp only at h
    cases hr : evRec cf fuel fn.body e σ p with
    | bad => rw [hr] at h; cases h
    | mk x e1 σ1 q =>
    rw [hr] at h
    simp only at h
    refine ⟨fn, e, x, e1, σ1, q, rfl, hnd, hb, hr, ?_⟩
    cases x with
    | norm =>
      simp only at h
      cases hs : resAll fn.results e1 σ1 with
      | none => rw [hs] at h; cases h
      | some r => rw [hs] at h; exact .inl ⟨.inl rfl, r, rfl, h⟩
    | exit i => cases h
    | ret =>
      simp only at h
      cases hs : resAll fn.results e1 σ1 with
      | none => rw [hs] at h; cases h
      | some r => rw [hs] at h; exact .inl ⟨.inr rfl, r, rfl, h⟩
    | pan v =>
      simp only at h
      cases p with
      | none => exact .inr ⟨v, rfl, rfl, h⟩
      | some _ => cases h

theorem leaves_ok (hC : Ctx P ρ w0) {cf : Cf} (hF : CfOk P ρ w0 cf) {fuel : Nat} (hX : ∀ nt, FormsOk P ρ w0 cf none nt fuel) {tbl : Nat → Option IF} (hT : TblOk P tbl) {fn : Func} {tmps : Array Value} {R : Ending → World → Prop}
    {φ0 : Key → Option Pl} {σ0 : St} {ws : World} (hTop : w0.heap.size ≤ ws.heap.size) :
    ∀ (l : List Deferred) (ds : List Dfr) (p : Option AV) (φ : Key → Option Pl) (σ : St) (w : World) (u : FrameMode) (p' : Option AV) (σ' : St), DRs (ws.heap.size ≤ ·) ρ φ σ w ds l → Go1 P ρ w0 φ0 σ0 ws φ σ w → ModeD ρ φ p u →
      evDfr tbl cf fuel ds p σ = .mk p' σ' → (∀ φ' w' u', PExt φ φ' → Go1 P ρ w0 φ0 σ0 ws φ' σ' w' → ModeD ρ φ' p' u' → LeavesIn (FR none) 0 P fn tmps R [] u' w') → LeavesInM (FR none) 0 P fn tmps R l u w
  | [], ds, p, φ, σ, w, u, p', σ', hD, hg, hM, h, hR => by
    cases hD
    cases h
    exact hR φ w u (PExt.refl _) hg hM
  | d :: l, ds, p, φ, σ, w, u, p', σ', hD, hg, hM, h, hR => by
    cases hD with
    | mark c _ _ hB hc hn hf hD =>
      refine ⟨hM.ne, .inl ⟨c, _, rfl, take_ok hc, ?_⟩⟩
      exact leaves_ok hC hF hX hT hTop l ds p φ σ _ u p' σ' (hD.shut hf) (hg.outside hTop hB hn _) hM h hR
    | call f first cap args fv cv av ds l h1 h2 h3 hD =>
      have h : dfrStep tbl cf fuel f (appL first (appL args cap)) (evDfr tbl cf fuel ds) p σ = .mk p' σ' := h
      obtain ⟨fn', e, x, e1, σ1, q, ht, hnd, hb, hrec, hend⟩ := dfrStep_inv h
      obtain ⟨fnm, k1, k2, k3⟩ := hT f fn' ht
      unfold lFunc at k2
      split at k2
      case h_2 => cases k2
      rename_i c rs hbody hrs
      cases k2
      have hvs : VRs ρ φ (appL first (appL args cap)) (fv ++ (av ++ cv)) := by
        rw [appL_eq, appL_eq]; exact h1.append (h3.append h2)
      have hinv : (invoke (.fn (.func f) cv.toArray) (fv ++ av).toArray).run P w = .ok (.enter f (fv ++ (av ++ cv)).toArray) w := by
        have := run_callFunc_enter (P := P) k1 (by rw [hbody]; rfl) k3 (fv ++ (av ++ cv)).toArray w
        simpa [invoke] using this
      refine ⟨hM.ne, .inr ⟨fun h => by simp [FR] at h, .func f, cv.toArray, f, (fv ++ (av ++ cv)).toArray, rfl, hinv, fun _ _ => trivial, ?_⟩⟩
      refine callsDIn_of_wpSIn k1 hbody trivial ?_
      intro c₀ cs hmode
      have hE : ER ρ φ fnm.ntmps e ((fv ++ (av ++ cv)).toArray ++ Array.replicate (fnm.ntmps - (fv ++ (av ++ cv)).toArray.size) undef) := bind_ok hvs hb
      refine wpSIn_mono (rec_ok hC hF (hX fnm.ntmps) c hnd e σ p x e1 σ1 q hrec φ w { tmps := _, defers := [] } c₀ cs hg.rel hE rfl (hmode ▸ hM.toR)) ?_
      rintro ex a' cs' w' ⟨φ1, u1, hx, hE1, hd1, hg1, rfl, hM1, hp1⟩
      have hgA := hg.trans hg1
      rcases hend with ⟨hxx, r, hres, hih⟩ | ⟨v, rfl, rfl, hih⟩
      · obtain ⟨v', r1, _⟩ := results_ok hg1.rel hE1 hrs hres
        have fin := leaves_ok hC hF hX hT hTop l ds q φ1 σ1 w' (settle u1) p' σ' (hD.go hg1) hgA hM1.settle hih (fun φ' w2 u' hx2 hg2 hm2 => hR φ' w2 u' (hg1.ext.trans hx2) hg2 hm2)
        rcases hxx with rfl | rfl
        · cases ex <;> simp only [ExR] at hx
          exact ⟨hd1, u1, rfl, v', r1, fin⟩
        · cases ex <;> simp only [ExR] at hx
          exact ⟨hd1, u1, rfl, v', r1, fin⟩
      · cases ex <;> simp only [ExR] at hx
        obtain ⟨v', rfl, hv⟩ := hx
        obtain ⟨_, hu⟩ := hp1 rfl
        have hu1 : u1 = .returning := by rw [hu, hmode]; exact hM
        have fin := leaves_ok hC hF hX hT hTop l ds (some v) φ1 σ1 w' (.panicking [{ v := v', recovered := false }]) p' σ' (hD.go hg1) hgA ⟨v', rfl, hv⟩ hih (fun φ' w2 u' hx2 hg2 hm2 => hR φ' w2 u' (hg1.ext.trans hx2) hg2 hm2)
        refine ⟨hd1, u1, rfl, ?_⟩
        rw [hu1]
        exact fin

theorem leave_inv {tbl : Nat → Option IF} {cf : Cf} {fuel : Nat} {fn : IF} {e : Env} {ds : List Dfr} {p : Option AV} {σ : St} {c : CR} (h : leave tbl cf fuel fn e ds p σ = c) (hc : c ≠ .bad) :
    ∃ p' σ', evDfr tbl cf fuel ds p σ = .mk p' σ' ∧ ((p' = none ∧ ∃ v, resAll fn.results e σ' = some v ∧ c = .val v σ') ∨ ∃ v, p' = some v ∧ c = .pan v σ') := by
  unfold leave at h
  cases hd : evDfr tbl cf fuel ds p σ with
  | bad => rw [hd] at h; exact absurd h.symm hc
  | mk p' σ' =>
    rw [hd] at h
    simp only at h
    refine ⟨p', σ', rfl, ?_⟩
    cases p' with
    | none =>
      simp only at h
      cases hr : resAll fn.results e σ' with
      | none => rw [hr] at h; exact absurd h.symm hc
      | some v => rw [hr] at h; exact .inl ⟨rfl, v, rfl, h.symm⟩
    | some v => exact .inr ⟨v, rfl, h.symm⟩

def CRP (P : Program) (ρ : Nat → Value) (w0 : World) (φ : Key → Option Pl) (σ : St) (w : World) (c : CR) : Ending → World → Prop :=
  match c with | .bad => fun _ _ => False | .val v σ' => RetP P ρ w0 φ σ w v σ' | .pan v σ' => PanP P ρ w0 φ σ w v σ'
/-- what a call that is evaluated does -/
theorem callF_ok (hC : Ctx P ρ w0) {cf : Cf} (hF : CfOk P ρ w0 cf) {fuel : Nat} (hX : ∀ nt, FormsOk P ρ w0 cf none nt fuel) {tbl : Nat → Option IF} (hT : TblOk P tbl) {f : Nat} {args : List AV} {σ : St} {c : CR}
    (h : evCallF tbl cf fuel f args σ = c) (hc : c ≠ .bad) {φ : Key → Option Pl} {w : World} {vs : List Value} (hW : WR P ρ w0 φ σ w) (hv : VRs ρ φ args vs) :
    CallsIn (FR none) 0 P f vs.toArray w (CRP P ρ w0 φ σ w c) := by
  obtain ⟨fn', e, x, e1, ds, σ1, ht, hb, he, hend⟩ := evCallF_inv h hc
  obtain ⟨fn, h1, h2, _⟩ := hT f fn' ht
  unfold lFunc at h2
  split at h2
  case h_2 => cases h2
  rename_i cd rs hbody hrs
  cases h2
  refine callsIn_of_wp_marks h1 hbody trivial ?_
  have hE : ER ρ φ fn.ntmps e (vs.toArray ++ Array.replicate (fn.ntmps - vs.toArray.size) undef) := bind_ok hv hb
  refine wpIn_mono (code_ok hC hF (hX fn.ntmps) cd (.inl rfl) e [] σ x e1 ds σ1 he (w.heap.size ≤ ·) φ w { tmps := vs.toArray ++ Array.replicate (fn.ntmps - vs.toArray.size) undef, defers := [] } (.inr fun _ h => h) hW hE .nil) ?_
  rintro ex a' w' ⟨φ1, hex, hE1, hD1, hg⟩
  have fin : ∀ p u, ModeD ρ φ1 p u → leave tbl cf fuel { params := (List.range (fn.params.size + fn.nfree)).map Key.ofNat, results := rs, body := lCode P fn.ntmps cd, nd := ndC cd } e1 ds p σ1 = c →
      LeavesInM (FR none) 0 P fn a'.tmps (CRP P ρ w0 φ σ w c) a'.defers u w' := by
    intro p u hM hl
    obtain ⟨p', σ', hd, hl⟩ := leave_inv hl hc
    refine leaves_ok hC hF hX hT hW.top a'.defers ds p φ1 σ1 w' u p' σ' hD1 hg hM hd ?_
    intro φ2 w2 u2 hx2 hg2 hm2
    rcases hl with ⟨rfl, v, hr, rfl⟩ | ⟨v, rfl, rfl⟩
    · rw [show u2 = .returning from hm2]
      obtain ⟨v', r1, r2⟩ := results_ok hg2.rel (hE1.mono hx2) hrs hr
      exact ⟨v', r1, v', φ2, rfl, r2, hg2⟩
    · obtain ⟨v', rfl, hv'⟩ := hm2
      exact ⟨v', φ2, rfl, hv', hg2⟩
  rcases hend with ⟨rfl | rfl, hl⟩ | ⟨v, rfl, hl⟩
  · cases ex <;> simp only [ExR] at hex
    exact fin none .returning rfl hl
  · cases ex <;> simp only [ExR] at hex
    exact fin none .returning rfl hl
  · cases ex <;> simp only [ExR] at hex
    obtain ⟨v', rfl, hv'⟩ := hex
    exact fin (some v) _ ⟨v', rfl, hv'⟩ hl

/-- all forms are sound -/
structure AllForms (P : Program) (ρ : Nat → Value) (w0 : World) (fuel : Nat) : Prop where
  dreg : ∀ cf, CfOk P ρ w0 cf → ∀ r nt id ops, CodeOk P ρ w0 r nt (.region id ops true) (evCode cf fuel (lDreg P nt ops))
theorem AllForms.forms (hC : Ctx P ρ w0) {fuel : Nat} (h : AllForms P ρ w0 fuel) {cf : Cf} (hF : CfOk P ρ w0 cf) (r : Option Nat) (nt : Nat) : FormsOk P ρ w0 cf r nt fuel :=
  ⟨h.dreg cf hF r nt, fun hr f ps a b => by subst hr; exact rangeF_ok hC hF f ps a b⟩

theorem evAll_call {base : Cf} {tbl : Nat → Option IF} {sum : Nat → List AV → St → CR} {fuel n : Nat} {f : Nat} {args : List AV} {σ : St} {c : CR} (h : (evAll base tbl sum fuel (n + 1)).call f args σ = c) (_hc : c ≠ .bad) :
    (sum f args σ = c ∨ evCallF tbl (evAll base tbl sum fuel n) fuel f args σ = c) := by
  have h : (CR.rec (evCallF tbl (evAll base tbl sum fuel n) fuel f args σ) (fun v σ => .val v σ) (fun v σ => .pan v σ) (sum f args σ) : CR) = c := h
  cases hs : sum f args σ with
  | bad => rw [hs] at h; exact .inr h
  | val v σ1 => rw [hs] at h; exact .inl h
  | pan v σ1 => rw [hs] at h; exact .inl h
theorem evAll_ok (hC : Ctx P ρ w0) {base : Cf} (hH : HintOk ρ base) (hP : PrimOk P base) {fuel : Nat} (hX : AllForms P ρ w0 fuel) {tbl : Nat → Option IF} (hT : TblOk P tbl) {sum : Nat → List AV → St → CR} (hS : CallOk P ρ w0 sum) :
    ∀ n, CfOk P ρ w0 (evAll base tbl sum fuel n)
  | 0 => {
      hH := ⟨hH.hb, hH.hc, hH.hs⟩
      hP := hP
      call := ⟨fun _ _ _ _ _ h => (nomatch h), fun _ _ _ _ _ h => (nomatch h), fun _ _ _ => ⟨fun _ _ h => (nomatch h), fun _ _ h => (nomatch h)⟩⟩
      yld := ⟨fun _ _ _ _ _ h => (nomatch h), fun _ _ _ _ _ h => (nomatch h)⟩ }
  | n + 1 => by
    have ih := evAll_ok hC hH hP hX hT hS n
    have forms := fun r nt => hX.forms hC ih r nt
    refine ⟨⟨hH.hb, hH.hc, hH.hs⟩, hP, ⟨?_, ?_, ?_⟩, ?_⟩
    · intro f args σ v σ' h φ w vs hW hv r
      rcases evAll_call h (by simp) with h | h
      · exact hS.val f args σ v σ' h φ w vs hW hv r
      · exact callsIn_FR (callF_ok hC ih (forms none) hT h (by simp) hW hv)
    · intro f args σ v σ' h φ w vs hW hv r
      rcases evAll_call h (by simp) with h | h
      · exact hS.pan f args σ v σ' h φ w vs hW hv r
      · exact callsIn_FR (callF_ok hC ih (forms none) hT h (by simp) hW hv)
    · have body : ∀ f args σ c, (evAll base tbl sum fuel (n + 1)).call f args σ = c → c ≠ .bad → (∀ v σ', c = .val v σ' ∨ c = .pan v σ' → sum f args σ = c → ∃ fn, P.funcs[f]? = some fn ∧ fn.body.isSome ∧ fn.name ≠ "runtime.NumGoroutine") → ∃ fn, P.funcs[f]? = some fn ∧ fn.body.isSome ∧ fn.name ≠ "runtime.NumGoroutine" := by
        intro f args σ c h hc hs
        rcases evAll_call h hc with h | h
        · cases c with
          | bad => exact absurd rfl hc
          | val v σ' => exact hs v σ' (.inl rfl) h
          | pan v σ' => exact hs v σ' (.inr rfl) h
        · obtain ⟨fn', e, x, e1, ds, σ1, ht, _⟩ := evCallF_inv h hc
          obtain ⟨fn, h1, h2, h3⟩ := hT f fn' ht
          unfold lFunc at h2
          split at h2
          case h_2 => cases h2
          rename_i cd rs hbody hrs
          exact ⟨fn, h1, by rw [hbody]; rfl, h3⟩
      intro f args σ
      refine ⟨fun v σ' h => body f args σ _ h (by simp) ?_, fun v σ' h => body f args σ _ h (by simp) ?_⟩
      · intro _ _ _ h; exact (hS.body f args σ).1 v σ' h
      · intro _ _ _ h; exact (hS.body f args σ).2 v σ' h
    · exact yld_ok hC ih forms
end
end Go.Ev
