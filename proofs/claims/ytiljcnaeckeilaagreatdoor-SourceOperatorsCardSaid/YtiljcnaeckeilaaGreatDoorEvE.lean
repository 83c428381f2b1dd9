/-
Proved here: control, loops and ranges over maps of the evaluator are sound.
Conditions: none beyond those that the statements name.
-/
import Derived.OrdersIn
import Derived.LoopNIn
import Derived.Scope
import Derived.Maps.RangeRun
import Derived.Test.YtiljcnaeckeilaaGreatDoorEvD
namespace Go.Ev
open Go

/-- every function may run; in a round of loop r, or in none -/
def FR (r : Option Nat) : Fence := { fn := fun _ => True, depth := none, alive := false, round := r }

section
variable (P : Program) (ρ : Nat → Value) (w0 : World)
def RetP (φ : Key → Option Pl) (σ : St) (w : World) (v : AV) (σ' : St) : Ending → World → Prop := fun en w' => ∃ v' φ', en = .returned v' ∧ VR ρ φ' v v' ∧ Go1 P ρ w0 φ σ w φ' σ' w'
def PanP (φ : Key → Option Pl) (σ : St) (w : World) (v : AV) (σ' : St) : Ending → World → Prop := fun en w' => ∃ v' φ', en = .panicked [{ v := v', recovered := false }] ∧ VR ρ φ' v v' ∧ Go1 P ρ w0 φ σ w φ' σ' w'
structure CallOk (call : Nat → List AV → St → CR) : Prop where
  val : ∀ f args σ v σ', call f args σ = .val v σ' → ∀ φ w vs, WR P ρ w0 φ σ w → VRs ρ φ args vs → ∀ r, CallsIn (FR r) 0 P f vs.toArray w (RetP P ρ w0 φ σ w v σ')
  pan : ∀ f args σ v σ', call f args σ = .pan v σ' → ∀ φ w vs, WR P ρ w0 φ σ w → VRs ρ φ args vs → ∀ r, CallsIn (FR r) 0 P f vs.toArray w (PanP P ρ w0 φ σ w v σ')
  body : ∀ f args σ, (∀ v σ', call f args σ = .val v σ' → ∃ fn, P.funcs[f]? = some fn ∧ fn.body.isSome ∧ fn.name ≠ "runtime.NumGoroutine") ∧ (∀ v σ', call f args σ = .pan v σ' → ∃ fn, P.funcs[f]? = some fn ∧ fn.body.isSome ∧ fn.name ≠ "runtime.NumGoroutine")
structure YldOk (yld : Key → List AV → St → CR) : Prop where
  val : ∀ l args σ v σ', yld l args σ = .val v σ' → ∀ φ w vs pl, φ l = some pl → WR P ρ w0 φ σ w → VRs ρ φ args vs → ∀ r,
    ∃ f tmps as body, (Instr.yield pl.blk vs.toArray).run P w = .ok (.round pl.blk f tmps as body) w ∧ RoundIn (FR r) 0 P pl.blk f tmps as body w (RetP P ρ w0 φ σ w v σ')
  pan : ∀ l args σ v σ', yld l args σ ≠ .pan v σ'
structure CfOk (cf : Cf) : Prop where
  hH : HintOk ρ cf
  hP : PrimOk P cf
  call : CallOk P ρ w0 cf.call
  yld : YldOk P ρ w0 cf.yld
end

section
variable {P : Program} {ρ : Nat → Value} {w0 : World} {φ : Key → Option Pl} {σ : St} {w : World}
variable (hC : Ctx P ρ w0) (hW : WR P ρ w0 φ σ w) {nt : Nat} {e : Env} {a : Act} (hE : ER ρ φ nt e a.tmps) {cf : Cf} (hF : CfOk P ρ w0 cf) {v : AV} {σ' : St} {o : Oper}
  {r : Option Nat} {K : Act → World → Prop} {Q : Exit → Act → World → Prop}

theorem FR_about (o : Oper) (w : World) (ρ' : Operand → Value) : ∀ f, o.about P w ρ' = some f → (FR r).fn f := fun _ _ => trivial
theorem wp_of_run {nx : Next} {w' : World} {v' : Value} (hd : ∀ c, o.op ≠ .defer c) (h : (execOp a.eval o).run P w = .ok nx w') (hn : nx = .value v' ∨ (nx = .skip ∧ v' = undef)) (hK : K (a.put o.dst v') w') : o.wpIn (FR r) 0 P a w K Q := by
  refine ⟨FR_about o w a.eval, ?_⟩
  rw [Oper.semAt_eq _ _ _ hd, h]
  rcases hn with rfl | ⟨rfl, rfl⟩ <;> exact hK
theorem plain_nodefer {op : IOp} (hl : lOp P o.op = some op) (hp : op.plain = true) : ∀ c, o.op ≠ .defer c := by
  intro c ho
  rw [ho] at hl
  simp only [lOp, Option.bind_eq_bind, Option.bind_eq_some_iff] at hl
  obtain ⟨args, hargs, hl⟩ := hl
  split at hl
  · simp only [Option.bind_eq_some_iff, Option.some.injEq] at hl
    obtain ⟨g, _, rfl⟩ := hl
    cases hp
  · cases hl
theorem run_callFunc_enter {f : FuncId} {fn : Func} (hf : P.funcs[f]? = some fn) (hb : fn.body.isSome) (hn : fn.name ≠ "runtime.NumGoroutine") (args : Array Value) (w : World) : (callFunc f args).run P w = .ok (.enter f args) w := by
  have hb' : ¬ fn.body.isNone := by cases h : fn.body <;> simp_all
  have hn' : (fn.name == "runtime.NumGoroutine") = false := by simpa using hn
  simp only [callFunc, Sem.run_bind, run_program, Result.andThen_ok, hf, hn']
  simp [hb']
/-- a call that is made -/
theorem wp_enter {f : FuncId} {args : Array Value} {R : Ending → World → Prop} (hd : ∀ c, o.op ≠ .defer c) (h : (execOp a.eval o).run P w = .ok (.enter f args) w) (hc : CallsIn (FR r) 0 P f args w R)
    (hR : ∀ en w', R en w' → (match en with | .returned v => K (a.put o.dst v) w' | .panicked chain => Q (.panic chain) a w' | .outgrown => False)) : o.wpIn (FR r) 0 P a w K Q := by
  refine ⟨FR_about o w a.eval, ?_⟩
  rw [Oper.semAt_eq _ _ _ hd, h, Oper.uponIn_enter]
  refine ⟨fun h => by simp [FR] at h, ?_⟩
  refine hc.mono fun en w' hr => ?_
  have := hR en w' hr
  cases en with
  | returned v => exact this
  | panicked chain => exact this
  | outgrown => exact this.elim
end
end Go.Ev
namespace Go.Ev
open Go

section
variable {P : Program} {ρ : Nat → Value} {w0 : World} {φ : Key → Option Pl} {σ : St} {w : World}
variable (hC : Ctx P ρ w0) (hW : WR P ρ w0 φ σ w) {nt : Nat} {e : Env} {a : Act} (hE : ER ρ φ nt e a.tmps) {cf : Cf} (hF : CfOk P ρ w0 cf) {v : AV} {σ' : St} {o : Oper}
  {r : Option Nat} {K : Act → World → Prop} {Q : Exit → Act → World → Prop}

theorem CR.or_val {c : CR} (h : c.or = .val v σ') : c = .val v σ' := by cases c <;> cases h; rfl
theorem CR.or_pan {c : CR} (h : c.or = .pan v σ') : c = .pan v σ' := by cases c <;> cases h; rfl

include hC hW hE hF
/-- a call of a function by its number -/
theorem enter_val {f : FuncId} {args : List AV} {vs : List Value} (hd : ∀ c, o.op ≠ .defer c) (hv : VRs ρ φ args vs) (h : cf.call f args σ = .val v σ') (hx : (execOp a.eval o).run P w = (callFunc f vs.toArray).run P w)
    (hK : ∀ φ' w' v', VR ρ φ' v v' → Go1 P ρ w0 φ σ w φ' σ' w' → K (a.put o.dst v') w') : o.wpIn (FR r) 0 P a w K Q := by
  have _ := hC
  have _ := hE
  obtain ⟨fn, f1, f2, f3⟩ := (hF.call.body f args σ).1 v σ' h
  rw [run_callFunc_enter f1 f2 f3] at hx
  refine wp_enter hd hx (hF.call.val f args σ v σ' h φ w vs hW hv r) ?_
  rintro en w' ⟨v', φ', rfl, g1, g2⟩
  exact hK φ' w' v' g1 g2
theorem enter_pan {f : FuncId} {args : List AV} {vs : List Value} (hd : ∀ c, o.op ≠ .defer c) (hv : VRs ρ φ args vs) (h : cf.call f args σ = .pan v σ') (hx : (execOp a.eval o).run P w = (callFunc f vs.toArray).run P w)
    (hK : ∀ φ' w' v', VR ρ φ' v v' → Go1 P ρ w0 φ σ w φ' σ' w' → Q (.panic [{ v := v', recovered := false }]) a w') : o.wpIn (FR r) 0 P a w K Q := by
  have _ := hC
  have _ := hE
  obtain ⟨fn, f1, f2, f3⟩ := (hF.call.body f args σ).2 v σ' h
  rw [run_callFunc_enter f1 f2 f3] at hx
  refine wp_enter hd hx (hF.call.pan f args σ v σ' h φ w vs hW hv r) ?_
  rintro en w' ⟨v', φ', rfl, g1, g2⟩
  exact hK φ' w' v' g1 g2
omit hC hW hE hF in
theorem exec_call {c : Call} {fn : Fn} {first cap : Array Value} (ho : o.op = .call c) {g : Operand} (hb : c.callee = .value g) (hg : a.eval g = .func fn first cap) :
    (execOp a.eval o).run P w = (invoke (.fn fn cap) (first ++ c.args.map a.eval)).run P w := by
  simp only [execOp, ho, resolve, hb, hg, Deferred.ofValue, Sem.run_bind, Sem.run_pure, Result.andThen_ok]
omit hC hW hE hF in
theorem lOp_calls {x : Op} {op : IOp} (hl : lOp P x = some op) (hp : op.plain = false) : (∃ c, x = .call c) ∨ (∃ c, x = .defer c) ∨ ∃ y, x = .panic y := by
  cases x with
  | call c => exact .inl ⟨c, rfl⟩
  | defer c => exact .inr (.inl ⟨c, rfl⟩)
  | panic y => exact .inr (.inr ⟨y, rfl⟩)
  | makeFunc fn x y =>
    exfalso
    cases fn <;> simp only [lOp, Option.bind_eq_bind, Option.bind_eq_some_iff, Option.some.injEq, reduceCtorEq] at hl
    obtain ⟨_, _, _, _, rfl⟩ := hl
    cases hp
  | makeMap t r =>
    exfalso
    cases r with
    | none => simp only [lOp, Option.some.injEq] at hl; subst hl; cases hp
    | some x =>
      cases x with
      | const c =>
        cases c <;> simp only [lOp, reduceCtorEq] at hl
        split at hl <;> cases hl
        cases hp
      | _ => simp only [lOp, reduceCtorEq] at hl
  | _ =>
    exfalso
    simp only [lOp, Option.bind_eq_bind, Option.bind_eq_some_iff, Option.some.injEq, reduceCtorEq] at hl
    repeat' first
      | (cases hl; done)
      | (subst hl; cases hp; done)
      | (subst hl; split at hp <;> cases hp; done)
      | (cases hl; cases hp; done)
      | obtain ⟨_, _, hl⟩ := hl
      | split at hl
      | simp only [Option.bind_eq_some_iff, Option.some.injEq] at hl
omit hC hW hE hF in
theorem lCall_calls {c : Call} {args : List Opd} {op : IOp} (hl : lCall P c args = some op) (hp : op.plain = false) :
    (∃ f, c.callee = .value (.func f) ∧ op = .call f args) ∨ (∃ g g', c.callee = .value g ∧ lOpd P g = some g' ∧ op = .callV g' args) ∨ op = .recover := by
  unfold lCall at hl
  split at hl
  · rename_i f hb
    split at hl
    case h_2 => cases hl
    split at hl
    case isTrue => cases hl
    split at hl
    · cases hl; exact .inl ⟨f, hb, rfl⟩
    · split at hl <;> cases hl
      cases hp
  · rename_i g hb _
    simp only [Option.bind_eq_bind, Option.bind_eq_some_iff, Option.some.injEq] at hl
    obtain ⟨g', hg, rfl⟩ := hl
    exact .inr (.inl ⟨_, g', by assumption, hg, rfl⟩)
  all_goals
    try simp only [Option.bind_eq_bind, Option.bind_eq_some_iff, Option.some.injEq] at hl
    repeat' first
      | (subst hl; exact .inr (.inr rfl))
      | (exfalso; cases hl; done)
      | (exfalso; subst hl; cases hp; done)
      | (exfalso; cases hl; cases hp; done)
      | obtain ⟨_, _, hl⟩ := hl
      | split at hl
      | simp only [Option.bind_eq_some_iff, Option.some.injEq] at hl
theorem op_wp_val {op : IOp} (hl : lOp P o.op = some op) (h : opV op cf e σ = .val v σ') (hK : ∀ φ' w' v', VR ρ φ' v v' → Go1 P ρ w0 φ σ w φ' σ' w' → K (a.put o.dst v') w') : o.wpIn (FR r) 0 P a w K Q := by
  cases hp : op.plain with
  | true =>
    obtain ⟨nx, w', φ', v', h1, h2, h3, h4⟩ := op_val hC hW hE hF.hH hF.hP hl hp h
    exact wp_of_run (plain_nodefer hl hp) h1 h2 (hK _ _ _ h3 h4)
  | false =>
    rcases lOp_calls hl hp with ⟨c, ho⟩ | ⟨c, ho⟩ | ⟨y, ho⟩
    · have hd : ∀ c, o.op ≠ .defer c := by intro c h; rw [ho] at h; cases h
      rw [ho] at hl
      simp only [lOp, Option.bind_eq_bind, Option.bind_eq_some_iff] at hl
      obtain ⟨args, hargs, hl⟩ := hl
      have hvs := evL_VRs hC.one hE hargs
      have hmap : c.args.map a.eval = (c.args.toList.map a.eval).toArray := by rw [← Array.toList_map, Array.toArray_toList]
      rcases lCall_calls hl hp with ⟨f, hb, rfl⟩ | ⟨g, g', hb, hg, rfl⟩ | rfl
      · have h : cf.call f (evL args e) σ = .val v σ' := CR.or_val h
        refine enter_val hC hW hE hF hd hvs h ?_ hK
        rw [exec_call ho hb (fn := .func f) (first := #[]) (cap := #[]) rfl]
        simp [invoke, hmap]
      · have hgv := lOpd_VR hC.one hg hE
        have h : callV cf (g'.ev e) (evL args e) σ = .val v σ' := h
        unfold callV at h
        split at h
        · rename_i f first cap hx
          have h := CR.or_val h
          rw [hx] at hgv
          cases hx' : a.eval g <;> rw [hx'] at hgv <;> cases hgv
          rename_i x y hx1 hy1
          simp only [appL_eq] at h
          refine enter_val hC hW hE hF hd (hx1.append (hvs.append hy1)) h ?_ hK
          rw [exec_call ho hb hx']
          simp [invoke, hmap]
        · rename_i l hx
          have h := CR.or_val h
          rw [hx] at hgv
          cases hx' : a.eval g <;> rw [hx'] at hgv <;> cases hgv
          rename_i pl hpl
          obtain ⟨f, tmps, as, body, y1, y2⟩ := hF.yld.val l _ σ v σ' h φ w _ pl hpl hW hvs r
          refine ⟨FR_about o w a.eval, ?_⟩
          rw [Oper.semAt_eq _ _ _ hd, exec_call ho hb hx']
          have e0 : (#[] : Array Value) ++ c.args.map a.eval = (c.args.toList.map a.eval).toArray := by rw [hmap]; simp
          rw [e0]
          simp only [invoke, y1, Oper.uponIn_round]
          refine ⟨fun h => by simp [FR] at h, y2.mono ?_⟩
          rintro en w' ⟨v', φ', rfl, g1, g2⟩
          exact hK φ' w' v' g1 g2
        · cases h
      · cases h
    · rw [ho] at hl
      simp only [lOp, Option.bind_eq_bind, Option.bind_eq_some_iff] at hl
      obtain ⟨args, hargs, hl⟩ := hl
      split at hl
      · simp only [Option.bind_eq_some_iff, Option.some.injEq] at hl
        obtain ⟨g, _, rfl⟩ := hl
        exfalso
        have h : A.defer g args cf e σ = .val v σ' := h
        unfold A.defer at h
        split at h <;> cases h
      · cases hl
    · rw [ho] at hl
      simp only [lOp, Option.bind_eq_bind, Option.bind_eq_some_iff, Option.some.injEq] at hl
      obtain ⟨x', h1, rfl⟩ := hl
      exfalso
      have h : A.panic x' cf e σ = .val v σ' := h
      unfold A.panic at h
      split at h <;> cases h
theorem op_wp_pan {op : IOp} (hl : lOp P o.op = some op) (hpan : op.pans = true) (h : opV op cf e σ = .pan v σ') (hQ : ∀ φ' w' v', VR ρ φ' v v' → Go1 P ρ w0 φ σ w φ' σ' w' → Q (.panic [{ v := v', recovered := false }]) a w') : o.wpIn (FR r) 0 P a w K Q := by
  have hp : op.plain = false := by cases op <;> first | rfl | cases hpan
  rcases lOp_calls hl hp with ⟨c, ho⟩ | ⟨c, ho⟩ | ⟨y, ho⟩
  · have hd : ∀ c, o.op ≠ .defer c := by intro c h; rw [ho] at h; cases h
    rw [ho] at hl
    simp only [lOp, Option.bind_eq_bind, Option.bind_eq_some_iff] at hl
    obtain ⟨args, hargs, hl⟩ := hl
    have hvs := evL_VRs hC.one hE hargs
    have hmap : c.args.map a.eval = (c.args.toList.map a.eval).toArray := by rw [← Array.toList_map, Array.toArray_toList]
    rcases lCall_calls hl hp with ⟨f, hb, rfl⟩ | ⟨g, g', hb, hg, rfl⟩ | rfl
    · have h : cf.call f (evL args e) σ = .pan v σ' := CR.or_pan h
      refine enter_pan hC hW hE hF hd hvs h ?_ hQ
      rw [exec_call ho hb (fn := .func f) (first := #[]) (cap := #[]) rfl]
      simp [invoke, hmap]
    · have hgv := lOpd_VR hC.one hg hE
      have h : callV cf (g'.ev e) (evL args e) σ = .pan v σ' := h
      unfold callV at h
      split at h
      · rename_i f first cap hx
        have h := CR.or_pan h
        rw [hx] at hgv
        cases hx' : a.eval g <;> rw [hx'] at hgv <;> cases hgv
        rename_i x y hx1 hy1
        simp only [appL_eq] at h
        refine enter_pan hC hW hE hF hd (hx1.append (hvs.append hy1)) h ?_ hQ
        rw [exec_call ho hb hx']
        simp [invoke, hmap]
      · exact absurd (CR.or_pan h) (hF.yld.pan _ _ _ _ _)
      · cases h
    · cases hpan
  · rw [ho] at hl
    simp only [lOp, Option.bind_eq_bind, Option.bind_eq_some_iff] at hl
    obtain ⟨args, hargs, hl⟩ := hl
    split at hl
    · simp only [Option.bind_eq_some_iff, Option.some.injEq] at hl
      obtain ⟨g, _, rfl⟩ := hl
      cases hpan
    · cases hl
  · have hd : ∀ c, o.op ≠ .defer c := by intro c h; rw [ho] at h; cases h
    rw [ho] at hl
    simp only [lOp, Option.bind_eq_bind, Option.bind_eq_some_iff, Option.some.injEq] at hl
    obtain ⟨x', h1, rfl⟩ := hl
    obtain ⟨v', r1, r2, rfl⟩ := panic_ok (cf := cf) hC hW hE ho h1 h
    refine ⟨FR_about o w a.eval, ?_⟩
    rw [Oper.semAt_eq _ _ _ hd, r1, Oper.uponIn_panic]
    exact hQ φ w v' r2 (Go1.refl hW)
end
end Go.Ev
namespace Go.Ev
open Go

inductive DRs (B : Nat → Prop) (ρ : Nat → Value) (φ : Key → Option Pl) (σ : St) (w : World) : List Dfr → List Deferred → Prop
  | nil : DRs B ρ φ σ w [] []
  | call (f first cap args fv cv av ds l) (h1 : VRs ρ φ first fv) (h2 : VRs ρ φ cap cv) (h3 : VRs ρ φ args av) (h : DRs B ρ φ σ w ds l) :
      DRs B ρ φ σ w ((.fn f first cap, args) :: ds) ({ target := .fn (.func f) cv.toArray, args := (fv ++ av).toArray } :: l)
  | mark (c ds l) (hB : B c) (hc : w.heap[c]? = some (.deferred (some []))) (hn : ¬ InR φ σ c) (hf : ∀ d ∈ l, d.target ≠ .collected c) (h : DRs B ρ φ σ w ds l) : DRs B ρ φ σ w ds ({ target := .collected c, args := #[] } :: l)

section
variable {P : Program} {ρ : Nat → Value} {w0 : World}
theorem DRs.go {B : Nat → Prop} {φ φ' : Key → Option Pl} {σ σ' : St} {w w' : World} (hg : Go1 P ρ w0 φ σ w φ' σ' w') {ds : List Dfr} {l : List Deferred} (h : DRs B ρ φ σ w ds l) : DRs B ρ φ' σ' w' ds l := by
  induction h with
  | nil => exact .nil
  | call f first cap args fv cv av ds l h1 h2 h3 _ ih => exact .call _ _ _ _ _ _ _ _ _ (h1.mono hg.ext) (h2.mono hg.ext) (h3.mono hg.ext) ih
  | mark c ds l hB hc hn hf _ ih =>
    have hlt : c < w.heap.size := (Array.getElem?_eq_some_iff.1 hc).1
    refine .mark c ds l hB (by rw [hg.keep c hlt hn]; exact hc) ?_ hf ih
    intro hin
    rcases hg.rng c hin with h | h
    · omega
    · exact hn h

def ExR (ρ : Nat → Value) (φ : Key → Option Pl) : Ex → Exit → Prop
  | .norm, .normal => True
  | .exit i, .exit j => i = j
  | .ret, .ret => True
  | .pan v, .panic ch => ∃ v', ch = [{ v := v', recovered := false }] ∧ VR ρ φ v v'
  | _, _ => False

def Post (B : Nat → Prop) (P : Program) (ρ : Nat → Value) (w0 : World) (φ : Key → Option Pl) (σ : St) (w : World) (nt : Nat) (x : Ex) (e' : Env) (d' : List Dfr) (σ' : St) : Exit → Act → World → Prop :=
  fun ex a' w' => ∃ φ', ExR ρ φ' x ex ∧ ER ρ φ' nt e' a'.tmps ∧ DRs B ρ φ' σ' w' d' a'.defers ∧ Go1 P ρ w0 φ σ w φ' σ' w'

/-- the code does what f says -/
def CodeOk (P : Program) (ρ : Nat → Value) (w0 : World) (r : Option Nat) (nt : Nat) (c : Code) (f : Env → List Dfr → St → Res) : Prop :=
  ∀ e d σ x e' d' σ', f e d σ = .mk x e' d' σ' → ∀ B φ w a, (ndC c = true ∨ ∀ i, w.heap.size ≤ i → B i) → WR P ρ w0 φ σ w → ER ρ φ nt e a.tmps → DRs B ρ φ σ w d a.defers → c.wpIn (FR r) 0 P (Post B P ρ w0 φ σ w nt x e' d' σ') a w

theorem Post.later {B : Nat → Prop} {φ φ1 : Key → Option Pl} {σ σ1 : St} {w w1 : World} {nt : Nat} {x : Ex} {e' : Env} {d' : List Dfr} {σ' : St} (hg : Go1 P ρ w0 φ σ w φ1 σ1 w1) {ex : Exit} {a' : Act} {w' : World}
    (h : Post B P ρ w0 φ1 σ1 w1 nt x e' d' σ' ex a' w') : Post B P ρ w0 φ σ w nt x e' d' σ' ex a' w' :=
  let ⟨φ', h1, h2, h3, h4⟩ := h
  ⟨φ', h1, h2, h3, hg.trans h4⟩

/-! guards -/
theorem want_ok {φ : Key → Option Pl} {nt : Nat} {e : Env} {a : Act} (hE : ER ρ φ nt e a.tmps) {ops : Array Oper} {o : Oper} {kg : Option (Key × Bool)} (hg : lGuard ops o.guard = some kg) :
    (wantV kg e = .yes → Region.wanted o (yielded ops a.tmps) = true) ∧ (wantV kg e = .no → Region.wanted o (yielded ops a.tmps) = false) := by
  unfold lGuard at hg
  split at hg
  · rename_i hn
    cases hg
    exact ⟨fun _ => by simp [Region.wanted, hn], fun h => by cases h⟩
  · rename_i j b hj
    split at hg
    case h_2 => cases hg
    rename_i d hd
    cases hg
    have main : ∀ v, e.get (Key.ofNat d) = some v → (match v with
        | .bool c => (Bool.rec (bcond b Want.no Want.yes) (bcond b Want.yes Want.no) c : Want)
        | .tup [] => .no
        | _ => .bad) = wantV (some (Key.ofNat d, b)) e := by
      intro v hv
      show _ = (Option.rec Want.bad (fun v => match v with
        | .bool c => Bool.rec (bcond b .no .yes) (bcond b .yes .no) c
        | .tup [] => .no
        | _ => .bad) (e.get (Key.ofNat d)) : Want)
      rw [hv]
    cases hv : e.get (Key.ofNat d) with
    | none =>
      have : wantV (some (Key.ofNat d, b)) e = .bad := by
        show (Option.rec Want.bad _ (e.get (Key.ofNat d)) : Want) = _
        rw [hv]
      rw [this]
      exact ⟨(fun h => nomatch h), (fun h => nomatch h)⟩
    | some v =>
      rw [← main v hv]
      obtain ⟨u, hu, hr⟩ := hE.2 d v hv
      have hy : yielded ops a.tmps j = (match some u with | some (.bool b) => some b | _ => none) := by
        unfold yielded
        rw [hd]
        simp only [Option.bind_some, hu]
        cases u <;> rfl
      split
      · rename_i c
        cases hr
        have hy : yielded ops a.tmps j = some c := hy
        cases c <;> cases b <;> simp [bcond, Region.wanted, hj, hy]
      · cases hr with
        | tup _ x hx =>
          cases hx
          have hy : yielded ops a.tmps j = none := hy
          simp [Region.wanted, hj, hy]
      · simp
theorem putD_ok {φ : Key → Option Pl} {nt : Nat} {e : Env} {a : Act} (hE : ER ρ φ nt e a.tmps) {dst : Option Nat} (hd : (match dst with | none => true | some d => decide (d < nt)) = true) {x : AV} {v : Value} (hv : VR ρ φ x v) :
    ER ρ φ nt (putD e (dst.map Key.ofNat) x) (a.put dst v).tmps := by
  cases dst with
  | none => simpa [putD, Act.put] using hE
  | some d => exact hE.put (by simpa using hd) hv
theorem put_defers {a : Act} {dst : Option Nat} {v : Value} : (a.put dst v).defers = a.defers := by cases dst <;> rfl
end
end Go.Ev
namespace Go.Ev
open Go

section
variable {P : Program} {ρ : Nat → Value} {w0 : World}

theorem stepO_inv {cf : Cf} {o : OpI} {ih : Env → List Dfr → St → Res} {e : Env} {d : List Dfr} {σ : St} {x : Ex} {e' : Env} {d' : List Dfr} {σ' : St} (h : stepO cf o ih e d σ = .mk x e' d' σ') :
    (wantV o.guard e = .yes ∧ ((∃ v σ1, opV o.op cf e σ = .val v σ1 ∧ ih (putD e o.dst v) d σ1 = .mk x e' d' σ') ∨
      (∃ f args σ1, opV o.op cf e σ = .dfr f args σ1 ∧ o.op.dfrs = true ∧ ih (putD e o.dst (.tup [])) ((f, args) :: d) σ1 = .mk x e' d' σ') ∨
      (∃ v σ1, opV o.op cf e σ = .pan v σ1 ∧ o.op.pans = true ∧ x = .pan v ∧ e' = e ∧ d' = d ∧ σ' = σ1))) ∨
    (wantV o.guard e = .no ∧ ih (putD e o.dst (.tup [])) d σ = .mk x e' d' σ') := by
  unfold stepO at h
  cases hw : wantV o.guard e with
  | yes =>
    rw [hw] at h
    refine .inl ⟨rfl, ?_⟩
    cases ho : opV o.op cf e σ with
    | bad => rw [ho] at h; cases h
    | val v σ1 => rw [ho] at h; exact .inl ⟨v, σ1, rfl, h⟩
    | dfr f args σ1 =>
      rw [ho] at h
      have h : bcond o.op.dfrs (ih (putD e o.dst (.tup [])) ((f, args) :: d) σ1) Res.bad = Res.mk x e' d' σ' := h
      obtain ⟨h1, h2⟩ := bcond_val h (by simp)
      exact .inr (.inl ⟨f, args, σ1, rfl, h1, h2⟩)
    | pan v σ1 =>
      rw [ho] at h
      have h : bcond o.op.pans (Res.mk (.pan v) e d σ1) Res.bad = Res.mk x e' d' σ' := h
      obtain ⟨h1, h2⟩ := bcond_val h (by simp)
      cases h2
      exact .inr (.inr ⟨v, _, rfl, h1, rfl, rfl, rfl, rfl⟩)
  | no => rw [hw] at h; exact .inr ⟨rfl, h⟩
  | bad => rw [hw] at h; cases h
theorem lOper_inv {nt : Nat} {ops : Array Oper} {o : Oper} : lOper P nt ops o = { dst := none, op := .bad, guard := none } ∨ ∃ op g, lOp P o.op = some op ∧ lGuard ops o.guard = some g ∧ (match o.dst with | none => true | some d => decide (d < nt)) = true ∧ lOper P nt ops o = { dst := o.dst.map Key.ofNat, op, guard := g } := by
  unfold lOper
  split
  · rename_i op g h1 h2
    cases hd : o.dst with
    | none => exact .inr ⟨op, g, h1, h2, rfl, by simp⟩
    | some d =>
      by_cases hlt : d < nt
      · exact .inr ⟨op, g, h1, h2, by simpa using hlt, by simp [hlt]⟩
      · exact .inl (by simp [hlt])
  · exact .inl rfl
theorem opV_bad {cf : Cf} {e : Env} {σ : St} : opV .bad cf e σ = .bad := rfl

variable (hC : Ctx P ρ w0) {cf : Cf} (hF : CfOk P ρ w0 cf) {nt : Nat} {r : Option Nat}
include hC hF
theorem defer_wp {B : Nat → Prop} {o : Oper} {op : IOp} {φ : Key → Option Pl} {σ : St} {w : World} {e : Env} {a : Act} {f : AV} {args : List AV} {σ1 : St} {K : Act → World → Prop} {Q : Exit → Act → World → Prop} {d : List Dfr} (hl : lOp P o.op = some op) (hd : op.dfrs = true)
    (_hW : WR P ρ w0 φ σ w) (hE : ER ρ φ nt e a.tmps) (hD : DRs B ρ φ σ w d a.defers) (h : opV op cf e σ = .dfr f args σ1)
    (hK : ∀ a', a'.tmps = (a.put o.dst undef).tmps → σ1 = σ → DRs B ρ φ σ w ((f, args) :: d) a'.defers → K a' w) (hr : r = none) : o.wpIn (FR r) 0 P a w K Q := by
  have _ := hF
  subst hr
  have hp : op.plain = false := by cases op <;> first | rfl | cases hd
  rcases lOp_calls hl hp with ⟨c, ho⟩ | ⟨c, ho⟩ | ⟨y, ho⟩
  · exfalso
    rw [ho] at hl
    simp only [lOp, Option.bind_eq_bind, Option.bind_eq_some_iff] at hl
    obtain ⟨as, hargs, hl⟩ := hl
    rcases lCall_calls hl hp with ⟨f, hb, rfl⟩ | ⟨g, g', hb, hg, rfl⟩ | rfl <;> cases hd
  · rw [ho] at hl
    simp only [lOp, Option.bind_eq_bind, Option.bind_eq_some_iff] at hl
    obtain ⟨as, hargs, hl⟩ := hl
    split at hl
    case h_2 => cases hl
    rename_i g hb
    simp only [Option.bind_eq_some_iff, Option.some.injEq] at hl
    obtain ⟨g', hg, rfl⟩ := hl
    have hgv := lOpd_VR hC.one hg hE
    have hvs := evL_VRs hC.one hE hargs
    have h : A.defer g' as cf e σ = .dfr f args σ1 := h
    unfold A.defer at h
    split at h
    case h_2 => cases h
    rename_i f' first cap hx
    cases h
    rw [hx] at hgv
    cases hx' : a.eval g <;> rw [hx'] at hgv <;> cases hgv
    rename_i x y hx1 hy1
    refine ⟨FR_about o w a.eval, ?_⟩
    have hmap : c.args.map a.eval = (c.args.toList.map a.eval).toArray := by rw [← Array.toList_map, Array.toArray_toList]
    have hex : ((o.semAt none a.eval).run P w) = .ok (.defer { target := .fn (.func f') y.toArray, args := (x ++ c.args.toList.map a.eval).toArray }) w := by
      rw [Oper.semAt_none]
      simp only [execOp, ho, resolve, hb, hx', Deferred.ofValue, Sem.run_bind, Sem.run_pure, Result.andThen_ok, hmap]
      simp
    show Oper.uponIn (FR none) 0 P o a K Q ((o.semAt none a.eval).run P w)
    rw [hex, Oper.uponIn_defer]
    refine hK _ ?_ rfl ?_
    · cases o.dst <;> rfl
    · rw [put_defers]
      exact .call _ _ _ _ _ _ _ _ _ hx1 hy1 hvs hD
  · exfalso
    rw [ho] at hl
    simp only [lOp, Option.bind_eq_bind, Option.bind_eq_some_iff, Option.some.injEq] at hl
    obtain ⟨x', h1, rfl⟩ := hl
    cases hd
theorem ops_ok {B : Nat → Prop} {ops : Array Oper} (hnd : r = none ∨ ∀ o ∈ ops.toList, ∀ c, o.op ≠ .defer c) : ∀ (l : List Oper) (k : Nat), (∀ j o, l[j]? = some o → ops[k + j]? = some o) → ∀ e d σ x e' d' σ', evOps cf (l.map (lOper P nt ops)) e d σ = .mk x e' d' σ' →
    ∀ φ w a, WR P ρ w0 φ σ w → ER ρ φ nt e a.tmps → DRs B ρ φ σ w d a.defers → ∀ Q : Exit → Act → World → Prop, (∀ ex a' w', Post B P ρ w0 φ σ w nt x e' d' σ' ex a' w' → Q ex a' w') → wpOpsIn (FR r) 0 P ops Q (List.range' k l.length) a w
  | [], k, _, e, d, σ, x, e', d', σ', h, φ, w, a, hW, hE, hD, Q, hQ => by
    cases h
    exact hQ .normal a w ⟨φ, trivial, hE, hD, Go1.refl hW⟩
  | o :: l, k, hk, e, d, σ, x, e', d', σ', h, φ, w, a, hW, hE, hD, Q, hQ => by
    have h : stepO cf (lOper P nt ops o) (evOps cf (l.map (lOper P nt ops))) e d σ = .mk x e' d' σ' := h
    have hko : ops[k]? = some o := hk 0 o rfl
    have hk' : ∀ j o', l[j]? = some o' → ops[k + 1 + j]? = some o' := by
      intro j o' hj
      have := hk (j + 1) o' (by simpa using hj)
      rw [Nat.add_assoc, Nat.add_comm 1 j]; exact this
    rcases lOper_inv (P := P) (nt := nt) (ops := ops) (o := o) with hbad | ⟨op, g, hl, hg, hd, hoi⟩
    · exfalso
      rcases stepO_inv h with ⟨_, ⟨v, σ1, h1, _⟩ | ⟨f, args, σ1, h1, _⟩ | ⟨v, σ1, h1, _⟩⟩ | ⟨hno, h1⟩
      · rw [hbad] at h1; cases h1
      · rw [hbad] at h1; cases h1
      · rw [hbad] at h1; cases h1
      · rw [hbad] at hno; cases hno
    · rw [hoi] at h
      obtain ⟨w1, w2⟩ := want_ok hE hg
      rw [List.length_cons, List.range'_succ]
      show (match ops[k]? with
        | none => wpOpsIn (FR r) 0 P ops Q (List.range' (k + 1) l.length) a w
        | some o => if Region.wanted o (yielded ops a.tmps) then o.wpIn (FR r) 0 P a w (wpOpsIn (FR r) 0 P ops Q (List.range' (k + 1) l.length)) Q
          else (∀ f, o.about P w a.eval = some f → (FR r).fn f) ∧ wpOpsIn (FR r) 0 P ops Q (List.range' (k + 1) l.length) (a.put o.dst undef) w)
      rw [hko]
      simp only
      rcases stepO_inv h with ⟨hyes, ⟨v, σ1, h1, h2⟩ | ⟨f, args, σ1, h1, hdf, h2⟩ | ⟨v, σ1, h1, hpn, rfl, rfl, rfl, rfl⟩⟩ | ⟨hno, h2⟩
      · rw [w1 hyes, if_pos rfl]
        refine op_wp_val hC hW hE hF hl h1 ?_
        intro φ1 wa v' hv hg1
        exact ops_ok hnd l (k + 1) hk' _ _ _ _ _ _ _ h2 φ1 wa (a.put o.dst v') hg1.rel (putD_ok (hE.mono hg1.ext) hd hv) (by rw [put_defers]; exact hD.go hg1) Q (fun ex a' w' hp => hQ ex a' w' (hp.later hg1))
      · rw [w1 hyes, if_pos rfl]
        have hr : r = none := by
          rcases hnd with h | h
          · exact h
          · exfalso
            have hp : op.plain = false := by cases op <;> first | rfl | cases hdf
            rcases lOp_calls hl hp with ⟨c, ho⟩ | ⟨c, ho⟩ | ⟨y, ho⟩
            · rw [ho] at hl
              simp only [lOp, Option.bind_eq_bind, Option.bind_eq_some_iff] at hl
              obtain ⟨as, hargs, hl⟩ := hl
              rcases lCall_calls hl hp with ⟨f, hb, rfl⟩ | ⟨g, g', hb, hg, rfl⟩ | rfl <;> cases hdf
            · exact h o (by have := Array.mem_of_getElem? hko; simpa using this) c ho
            · rw [ho] at hl
              simp only [lOp, Option.bind_eq_bind, Option.bind_eq_some_iff, Option.some.injEq] at hl
              obtain ⟨x', h1, rfl⟩ := hl
              cases hdf
        refine defer_wp hC hF hl hdf hW hE hD h1 (fun a' ht hs hD' => ?_) hr
        rw [hs] at h2
        exact ops_ok hnd l (k + 1) hk' _ _ _ _ _ _ _ h2 φ w a' hW (by rw [ht]; exact putD_ok hE hd undef_VR) hD' Q hQ
      · rw [w1 hyes, if_pos rfl]
        refine op_wp_pan hC hW hE hF hl hpn h1 ?_
        intro φ1 wa v' hv hg1
        exact hQ _ _ _ ⟨φ1, ⟨v', rfl, hv⟩, hE.mono hg1.ext, hD.go hg1, hg1⟩
      · rw [w2 hno, if_neg (by simp)]
        exact ⟨FR_about o w a.eval, ops_ok hnd l (k + 1) hk' _ _ _ _ _ _ _ h2 φ w (a.put o.dst undef) hW (putD_ok hE hd undef_VR) (by rw [put_defers]; exact hD) Q hQ⟩
end
end Go.Ev
namespace Go.Ev
open Go

/-! a scope that nothing jumps about in -/
section
variable {F : Fence} {n : Nat} {P : Program} {b : Frame} {a : Act} {k : List Item} {cs : List Frame} {w : World} {Q : Exit → Act → World → Prop}
theorem stepR_scope {c : Code} : step P (lone (b.atR a (.code (.scope c) :: k)) cs w) = .next (lone (b.atR a (.code c :: .inScope c :: k)) cs w) :=
  step_lone_go (by simp [stepG, stepG.exec, Frame.atR])
theorem stepR_inScope {c : Code} : step P (lone (b.atR a (.inScope c :: k)) cs w) = .next (lone (b.atR a k) cs w) :=
  step_lone_go (by simp [stepG, stepG.exec, Frame.atR])
theorem wpIn_scope_straight {c : Code} (h : c.wpIn F n P (Exit.noGoto Q) a w) : (Code.scope c).wpIn F n P Q a w := by
  intro b k cs hro hb hr
  have h0 : (lone (b.atR a (.code (.scope c) :: k)) cs w).fenced P F := fenced_calm hb hr rfl
  obtain ⟨e, a₁, w₁, hq, harr⟩ := h b (.inScope c :: k) cs hro hb hr
  cases e with
  | normal => exact ⟨.normal, a₁, w₁, hq, .head h0 stepR_scope (StepsIn.trans harr (.one (fenced_calm hb hr rfl) stepR_inScope))⟩
  | exit id =>
    have hx : exitTo id (.inScope c :: k) = exitTo id k := by simp [exitTo]
    exact ⟨.exit id, a₁, w₁, hq, fun k' hk => .head h0 stepR_scope (harr.1 k' (by rw [hx]; exact hk)),
      fun hr' hk => let ⟨k₁, h1, h2⟩ := harr.2 hr' (by rw [hx]; exact hk); ⟨k₁, h1, .head h0 stepR_scope h2⟩⟩
  | goto l => exact hq.elim
  | ret => exact ⟨_, a₁, w₁, hq, .of_steps (.one h0 stepR_scope) harr⟩
  | panic ch => exact ⟨_, a₁, w₁, hq, .of_steps (.one h0 stepR_scope) harr⟩
  | outgrown => exact ⟨_, a₁, w₁, hq, .of_steps (.one h0 stepR_scope) harr⟩
end

section
variable {P : Program} {ρ : Nat → Value} {w0 : World} {r : Option Nat} {nt : Nat}

theorem seq_ok {x y : Code} {f g : Env → List Dfr → St → Res} (hf : CodeOk P ρ w0 r nt x f) (hg : CodeOk P ρ w0 r nt y g) : CodeOk P ρ w0 r nt (.seq x y) (C.seq f g) := by
  intro e d σ x' e' d' σ' h B φ w a hB hW hE hD
  refine wpIn_seq ?_
  unfold C.seq at h
  cases hfe : f e d σ with
  | bad => rw [hfe] at h; cases h
  | mk x1 e1 d1 σ1 =>
    rw [hfe] at h
    refine wpIn_mono (hf e d σ x1 e1 d1 σ1 hfe B φ w a (hB.imp (fun h => by simp [ndC] at h; exact h.1) id) hW hE hD) ?_
    rintro ex a' w' ⟨φ1, hx, he, hd, hgo⟩
    cases x1 with
    | norm =>
      cases ex <;> simp only [ExR] at hx
      exact wpIn_mono (hg e1 d1 σ1 x' e' d' σ' h B φ1 w' a' (hB.imp (fun h => by simp [ndC] at h; exact h.2) (fun h i hi => h i (Nat.le_trans hgo.size hi))) hgo.rel he hd) (fun ex a w hp => hp.later hgo)
    | exit i =>
      cases h
      cases ex <;> simp only [ExR] at hx
      exact ⟨φ1, hx, he, hd, hgo⟩
    | ret =>
      cases h
      cases ex <;> simp only [ExR] at hx
      exact ⟨φ1, trivial, he, hd, hgo⟩
    | pan v =>
      cases h
      cases ex <;> simp only [ExR] at hx
      exact ⟨φ1, hx, he, hd, hgo⟩
theorem cond_ok (hC : Ctx P ρ w0) {c : Operand} {c' : Opd} (hc : lOpd P c = some c') {x y : Code} {f g : Env → List Dfr → St → Res} (hf : CodeOk P ρ w0 r nt x f) (hg : CodeOk P ρ w0 r nt y g) : CodeOk P ρ w0 r nt (.cond c x y) (C.cond c' f g) := by
  intro e d σ x' e' d' σ' h B φ w a hB hW hE hD
  have h : (c'.ev e).boolV Res.bad (fun b => Bool.rec (g e d σ) (f e d σ) b) = .mk x' e' d' σ' := h
  obtain ⟨b, hb, h⟩ := boolV_val h (by simp)
  have hv := lOpd_VR hC.one hc hE
  rw [hb] at hv
  have hv := bool_VR hv
  cases b with
  | true => exact wpIn_cond_true hv (hf e d σ x' e' d' σ' h B φ w a (hB.imp (fun h => by simp [ndC] at h; exact h.1) id) hW hE hD)
  | false => exact wpIn_cond_false hv (hg e d σ x' e' d' σ' h B φ w a (hB.imp (fun h => by simp [ndC] at h; exact h.2) id) hW hE hD)
theorem block_ok {id : Nat} {x : Code} {f : Env → List Dfr → St → Res} (hf : CodeOk P ρ w0 r nt x f) : CodeOk P ρ w0 r nt (.block id x) (C.block id f) := by
  intro e d σ x' e' d' σ' h B φ w a hB hW hE hD
  refine wpIn_block ?_
  unfold C.block at h
  cases hfe : f e d σ with
  | bad => rw [hfe] at h; cases h
  | mk x1 e1 d1 σ1 =>
    rw [hfe] at h
    refine wpIn_mono (hf e d σ x1 e1 d1 σ1 hfe B φ w a (hB.imp (fun h => h) (fun h => h)) hW hE hD) ?_
    rintro ex a' w' ⟨φ1, hx, he, hd, hgo⟩
    cases x1 with
    | norm =>
      cases h
      cases ex <;> simp only [ExR] at hx
      exact ⟨φ1, trivial, he, hd, hgo⟩
    | exit i =>
      cases ex <;> simp only [ExR] at hx
      subst hx
      have h : bcond (Nat.beq i id) (Res.mk .norm e1 d1 σ1) (Res.mk (.exit i) e1 d1 σ1) = .mk x' e' d' σ' := h
      rw [bcond_eq] at h
      split at h
      · rename_i hi
        have hi := Nat.eq_of_beq_eq_true hi
        cases h
        simp only [Exit.inBlock, hi, if_true]
        exact ⟨φ1, trivial, he, hd, hgo⟩
      · rename_i hi
        have hi : ¬ i = id := by rintro rfl; exact hi (Nat.beq_refl _)
        cases h
        simp only [Exit.inBlock, hi, if_false]
        exact ⟨φ1, rfl, he, hd, hgo⟩
    | ret =>
      cases h
      cases ex <;> simp only [ExR] at hx
      exact ⟨φ1, trivial, he, hd, hgo⟩
    | pan v =>
      cases h
      cases ex <;> simp only [ExR] at hx
      exact ⟨φ1, hx, he, hd, hgo⟩
theorem loop_ok {x : Code} {f : Env → List Dfr → St → Res} (hf : CodeOk P ρ w0 r nt x f) (n : Nat) : CodeOk P ρ w0 r nt (.loop x) (loopN f n) := by
  intro e d σ x' e' d' σ' h B φ w a hB hW hE hD
  refine wpIn_loop_rounds n ?_
  have key : ∀ (n : Nat) (e : Env) (d : List Dfr) (σ1 : St), loopN f n e d σ1 = .mk x' e' d' σ' → ∀ φ1 w1 a1, Go1 P ρ w0 φ σ w φ1 σ1 w1 → ER ρ φ1 nt e a1.tmps → DRs B ρ φ1 σ1 w1 d a1.defers →
      Code.roundsIn (FR r) 0 P x (Post B P ρ w0 φ σ w nt x' e' d' σ') n a1 w1 := by
    intro n
    induction n with
    | zero => intro e d σ1 h; cases h
    | succ n ih =>
      intro e d σ1 h φ1 w1 a1 hg1 hE1 hD1
      have h : (Res.rec Res.bad (fun x e d σ => Ex.rec (loopN f n e d σ) (fun i => .mk (.exit i) e d σ) (.mk .ret e d σ) (fun v => .mk (.pan v) e d σ) x) (f e d σ1) : Res) = .mk x' e' d' σ' := h
      rw [roundsIn_succ]
      cases hfe : f e d σ1 with
      | bad => rw [hfe] at h; cases h
      | mk x2 e2 d2 σ2 =>
        rw [hfe] at h
        refine wpIn_mono (hf e d σ1 x2 e2 d2 σ2 hfe B φ1 w1 a1 (hB.imp (fun h => h) (fun h i hi => h i (Nat.le_trans hg1.size hi))) hg1.rel hE1 hD1) ?_
        rintro ex a' w' ⟨φ2, hx, he, hd, hgo⟩
        cases x2 with
        | norm =>
          cases ex <;> simp only [ExR] at hx
          exact ih e2 d2 σ2 h φ2 w' a' (hg1.trans hgo) he hd
        | exit i =>
          cases h
          cases ex <;> simp only [ExR] at hx
          exact ⟨φ2, hx, he, hd, hg1.trans hgo⟩
        | ret =>
          cases h
          cases ex <;> simp only [ExR] at hx
          exact ⟨φ2, trivial, he, hd, hg1.trans hgo⟩
        | pan v =>
          cases h
          cases ex <;> simp only [ExR] at hx
          exact ⟨φ2, hx, he, hd, hg1.trans hgo⟩
  exact key n e d σ h φ w a (Go1.refl hW) hE hD

theorem scope_ok {x : Code} {f : Env → List Dfr → St → Res} (hf : CodeOk P ρ w0 r nt x f) : CodeOk P ρ w0 r nt (.scope x) f := by
  intro e d σ x' e' d' σ' h B φ w a hB hW hE hD
  refine wpIn_scope_straight (wpIn_mono (hf e d σ x' e' d' σ' h B φ w a (hB.imp (fun h => h) (fun h => h)) hW hE hD) ?_)
  intro ex a' w' hp
  cases ex with
  | goto l =>
    obtain ⟨φ1, hx, _⟩ := hp
    cases x' <;> simp only [ExR] at hx
  | _ => exact hp
theorem bad_ok {c : Code} : CodeOk P ρ w0 r nt c C.bad := by
  intro e d σ x e' d' σ' h
  cases h
end
end Go.Ev
namespace Go.Ev
open Go

theorem Key.eqb_eq : ∀ {a b : Key}, Key.eqb a b = true → a = b
  | .xH, .xH, _ => rfl
  | .xO a, .xO b, h => by rw [Key.eqb_eq (a := a) (b := b) h]
  | .xI a, .xI b, h => by rw [Key.eqb_eq (a := a) (b := b) h]
  | .xH, .xO _, h | .xH, .xI _, h | .xO _, .xH, h | .xO _, .xI _, h | .xI _, .xH, h | .xI _, .xO _, h => by cases h
theorem Key.eqb_refl : ∀ a : Key, Key.eqb a a = true
  | .xH => rfl
  | .xO a => Key.eqb_refl a
  | .xI a => Key.eqb_refl a
theorem kindEq_eq3 {a b : IntKind} (h : kindEq a b = true) : a = b := by cases a <;> cases b <;> first | rfl | cases h
theorem eqI_eq' {a b : Int} (h : eqI a b = true) : a = b := by
  cases a <;> cases b <;> simp only [eqI] at h
  · rw [Nat.eq_of_beq_eq_true h]
  · cases h
  · cases h
  · rw [Nat.eq_of_beq_eq_true h]
theorem keyBeq_eq {a b : Key} (h : Key.beq a b = true) : a = b := by rw [Key.beq_eq] at h; exact of_decide_eq_true h
theorem capEq_eq {a b : Cap} (h : capEq a b = true) : a = b := by
  cases a <;> cases b <;> simp only [capEq] at h
  · rw [Nat.eq_of_beq_eq_true h]
  · cases h
  · cases h
  · rw [Nat.eq_of_beq_eq_true h]
theorem bcond_and3 {b : Bool} {x : Bool} (h : bcond b x false = true) : b = true ∧ x = true := by cases b <;> cases x <;> first | exact ⟨rfl, rfl⟩ | cases h

mutual
theorem AV.beq_eq : ∀ (a b : AV), AV.beq a b = true → a = b
  | .top, b, h => by cases b <;> first | rfl | (simp [AV.beq] at h; done)
  | .any, b, h => by cases b <;> first | rfl | (simp [AV.beq] at h; done)
  | .ne, b, h => by cases b <;> first | rfl | (simp [AV.beq] at h; done)
  | .nilp, b, h => by cases b <;> first | rfl | (simp [AV.beq] at h; done)
  | .nils, b, h => by cases b <;> first | rfl | (simp [AV.beq] at h; done)
  | .esl, b, h => by cases b <;> first | rfl | (simp [AV.beq] at h; done)
  | .nilm, b, h => by cases b <;> first | rfl | (simp [AV.beq] at h; done)
  | .nilf, b, h => by cases b <;> first | rfl | (simp [AV.beq] at h; done)
  | .nili, b, h => by cases b <;> first | rfl | (simp [AV.beq] at h; done)
  | .sym k, b, h => by cases b <;> simp only [AV.beq, Bool.false_eq_true] at h; rw [Nat.eq_of_beq_eq_true h]
  | .glob k, b, h => by cases b <;> simp only [AV.beq, Bool.false_eq_true] at h; rw [Nat.eq_of_beq_eq_true h]
  | .bool k, b, h => by
    cases b <;> simp only [AV.beq, Bool.false_eq_true] at h
    rename_i j
    cases k <;> cases j <;> first | rfl | cases h
  | .int k n, b, h => by
    cases b <;> simp only [AV.beq, Bool.false_eq_true] at h
    obtain ⟨h1, h2⟩ := bcond_and3 h
    rw [kindEq_eq3 h1, eqI_eq' h2]
  | .str k n, b, h => by
    cases b <;> simp only [AV.beq, Bool.false_eq_true] at h
    obtain ⟨h1, h2⟩ := bcond_and3 h
    rw [Nat.eq_of_beq_eq_true h1, Nat.eq_of_beq_eq_true h2]
  | .ptr k n, b, h => by
    cases b <;> simp only [AV.beq, Bool.false_eq_true] at h
    obtain ⟨h1, h2⟩ := bcond_and3 h
    rw [keyBeq_eq h1, Nat.eq_of_beq_eq_true h2]
  | .sli k n l c, b, h => by
    cases b <;> simp only [AV.beq, Bool.false_eq_true] at h
    obtain ⟨h1, h2⟩ := bcond_and3 h
    obtain ⟨h2, h3⟩ := bcond_and3 h2
    obtain ⟨h3, h4⟩ := bcond_and3 h3
    rw [keyBeq_eq h1, Nat.eq_of_beq_eq_true h2, Nat.eq_of_beq_eq_true h3, capEq_eq h4]
  | .map k, b, h => by cases b <;> simp only [AV.beq, Bool.false_eq_true] at h; rw [keyBeq_eq h]
  | .yld k, b, h => by cases b <;> simp only [AV.beq, Bool.false_eq_true] at h; rw [keyBeq_eq h]
  | .fn f x y, b, h => by
    cases b <;> simp only [AV.beq, Bool.false_eq_true] at h
    obtain ⟨h1, h2⟩ := bcond_and3 h
    obtain ⟨h2, h3⟩ := bcond_and3 h2
    rw [Nat.eq_of_beq_eq_true h1, AV.beqL_eq x _ h2, AV.beqL_eq y _ h3]
  | .ifc t x, b, h => by
    cases b <;> simp only [AV.beq, Bool.false_eq_true] at h
    obtain ⟨h1, h2⟩ := bcond_and3 h
    rw [Nat.eq_of_beq_eq_true h1, AV.beq_eq x _ h2]
  | .agg x, b, h => by cases b <;> simp only [AV.beq, Bool.false_eq_true] at h; rw [AV.beqL_eq x _ h]
  | .tup x, b, h => by cases b <;> simp only [AV.beq, Bool.false_eq_true] at h; rw [AV.beqL_eq x _ h]
theorem AV.beqL_eq : ∀ (a b : List AV), AV.beqL a b = true → a = b
  | [], b, h => by cases b <;> first | rfl | (simp [AV.beqL] at h; done)
  | x :: a, b, h => by
    cases b <;> simp only [AV.beqL, Bool.false_eq_true] at h
    obtain ⟨h1, h2⟩ := bcond_and3 h
    rw [AV.beq_eq x _ h1, AV.beqL_eq a _ h2]
end

theorem countP_lt {α : Type} {f g : α → Bool} (h : ∀ x, f x = true → g x = true) : ∀ {l : List α} {j : α}, j ∈ l → g j = true → f j = false → l.countP f < l.countP g
  | [], j, hj, _, _ => by cases hj
  | x :: l, j, hj, hg, hf => by
    have le : ∀ l : List α, l.countP f ≤ l.countP g := fun l => List.countP_mono_left fun x _ hx => h x hx
    rw [List.countP_cons, List.countP_cons]
    rcases List.mem_cons.1 hj with rfl | hj
    · have := le l
      rw [hg, hf]; simp; omega
    · have := countP_lt h hj hg hf
      cases hfx : f x with
      | true => rw [h x hfx]; simpa using this
      | false => simp; omega

end Go.Ev
namespace Go.Ev
open Go

section
variable {P : Program} {ρ : Nat → Value} {w0 w w' : World} {φ φ' : Key → Option Pl} {σ σ' : St}

/-- what was laid and turned by one who held nothing is forgotten -/
theorem Go1.forget (h : WR P ρ w0 φ σ w) (hg : Go1 P ρ w0 φ ⟨.lf, σ.next⟩ w φ' σ' w') : Go1 P ρ w0 φ σ w φ σ w' := by
  have hk : ∀ c, c < w.heap.size → w'.heap[c]? = w.heap[c]? := by
    intro c hc
    refine hg.keep c hc ?_
    rintro ⟨k, b, pl, h1, _⟩
    simp only [Tr.get_lf] at h1
    cases h1
  refine ⟨PExt.refl _, ⟨?_, h.inj, h.fresh, hg.rel.base, h.low, hg.rel.top⟩, hg.os, hg.tape, hg.output, hg.size, fun c hc _ => hk c hc, fun c hc => .inr hc, Nat.le_refl _, fun _ _ h => .inl h⟩
  intro k b hkb
  obtain ⟨pl, o, h1, h2, h3⟩ := h.live k b hkb
  exact ⟨pl, o, h1, by rw [hk _ (Array.getElem?_eq_some_iff.1 h2).1]; exact h2, h3⟩

/-- a value whose blocks are all spoken of by φ -/
theorem VR.back (hx : PExt φ φ') {a : AV} {u0 u : Value} (h0 : VR ρ φ a u0) (h : VR ρ φ' a u) : VR ρ φ a u := by
  have same : ∀ {b pl pl'}, φ b = some pl → φ' b = some pl' → pl' = pl := by
    intro b pl pl' h1 h2
    rw [hx _ _ h1] at h2; cases h2; rfl
  refine VR.rec (motive_1 := fun a u0 _ => ∀ u, VR ρ φ' a u → VR ρ φ a u) (motive_2 := fun l x _ => ∀ y, VRs ρ φ' l y → VRs ρ φ l y) ?_ ?_ ?_ ?_ ?_ ?_ ?_ ?_ ?_ ?_ ?_ ?_ ?_ ?_ ?_ ?_ ?_ ?_ ?_ ?_ ?_ ?_ ?_ ?_ ?_ h0 u h
  · intro v u h; exact .top _
  · intro v _ u h; cases h; exact .any _ (by assumption)
  · intro k u h; cases h; exact .sym _
  · intro s _ u h; cases h; exact .ne _ (by assumption)
  · intro b u h; cases h; exact .bool _
  · intro k n u h; cases h; exact .int _ _
  · intro l n s _ u h; cases h; exact .str _ _ _ (by assumption)
  · intro u h; cases h; exact .nilp
  · intro b off pl hp u h
    cases h
    rename_i pl' hp'
    cases same hp hp'
    exact .ptr _ _ _ hp
  · intro u h; cases h; exact .nils
  · intro b off len c pl hp u h
    cases h
    rename_i pl' hp'
    cases same hp hp'
    exact .sliE _ _ _ _ _ hp
  · intro b off len z c pl hp he hl u h
    cases h
    rename_i c' pl' hp' _ _
    cases same hp hp'
    exact .sliO _ _ _ _ _ _ hp (by assumption) (by assumption)
  · intro a c u h; cases h; exact .esl _ _
  · intro u h; cases h; exact .nilm
  · intro b pl hp u h
    cases h
    rename_i pl' hp'
    cases same hp hp'
    exact .map _ _ hp
  · intro f a b x y _ _ ih1 ih2 u h
    cases h
    exact .fn _ _ _ _ _ (ih1 _ (by assumption)) (ih2 _ (by assumption))
  · intro l pl hp u h
    cases h
    rename_i pl' hp'
    cases same hp hp'
    exact .yld _ _ hp
  · intro g u h; cases h; exact .glob _
  · intro u h; cases h; exact .nilf
  · intro t v w _ ih u h
    cases h
    exact .ifc _ _ _ (ih _ (by assumption))
  · intro u h; cases h; exact .nili
  · intro l x _ _ ih u h
    cases h
    exact .agg _ _ (ih _ (by assumption)) (by assumption)
  · intro l x _ ih u h
    cases h
    exact .tup _ _ (ih _ (by assumption))
  · intro y h; cases h; exact .nil
  · intro a v l x _ _ ih1 ih2 y h
    cases h
    exact .cons _ _ _ _ (ih1 _ (by assumption)) (ih2 _ (by assumption))

theorem ER.back (hx : PExt φ φ') {nt : Nat} {e0 e' : Env} {t0 t1 : Array Value} (h0 : ER ρ φ nt e0 t0) (h : ER ρ φ' nt e' t1) (hs : ∀ k v, e0.get k = some v → e'.get k = some v) : ER ρ φ nt e0 t1 := by
  refine ⟨h.1, fun t a ha => ?_⟩
  obtain ⟨u0, _, h1⟩ := h0.2 t a ha
  obtain ⟨u, h2, h3⟩ := h.2 t a (hs _ _ ha)
  exact ⟨u, h2, h1.back hx h3⟩
theorem keepE_get (e : Env) (k : Key) : ∀ ks : List Key, (keepE ks e).get k = if k ∈ ks then e.get k else none
  | [] => by
    show (Tr.lf : Env).get k = _
    simp [Tr.get_lf]
  | j :: ks => by
    show ((keepE ks e).set (e.get j) j).get k = _
    rw [Tr.get_set, keepE_get e k ks]
    by_cases h : j = k
    · subst h; simp
    · have : ¬ k = j := fun e => h e.symm
      simp [h, this]
theorem bcond_and {b x : Bool} (h : bcond b x false = true) : b = true ∧ x = true := by cases b <;> cases x <;> first | exact ⟨rfl, rfl⟩ | cases h
theorem DRs.swap {B : Nat → Prop} (h : WR P ρ w0 φ σ w) {l : List Deferred} (hd : DRs B ρ φ' σ' w [] l) : DRs B ρ φ σ w [] l := by
  generalize hds : ([] : List Dfr) = ds at hd
  induction hd with
  | nil => exact .nil
  | call => cases hds
  | mark c ds l hB hc hn hf _ ih =>
    subst hds
    refine .mark c [] l hB hc ?_ hf (ih rfl)
    rintro ⟨k, b, pl, h1, h2, h3⟩
    obtain ⟨pl', o, g1, g2, g3⟩ := h.live k b h1
    rw [h2] at g1; cases g1
    rw [h3, hc] at g2; cases g2
    cases b <;> simp only [BR] at g3
end

section
variable {P : Program} {ρ : Nat → Value} {w0 : World} {φ : Key → Option Pl} {σ : St} {w : World}
theorem DRs.shut {B : Nat → Prop} {c : Nat} {o : Obj} {ds : List Dfr} {l : List Deferred} (hf : ∀ d ∈ l, d.target ≠ .collected c) (h : DRs B ρ φ σ w ds l) : DRs B ρ φ σ (wput w c o) ds l := by
  induction h with
  | nil => exact .nil
  | call f first cap args fv cv av ds l h1 h2 h3 _ ih => exact .call _ _ _ _ _ _ _ _ _ h1 h2 h3 (ih fun d hd => hf d (by simp [hd]))
  | mark c2 ds l hB hc hn hf2 _ ih =>
    have hne : c2 ≠ c := by
      intro e
      exact hf { target := .collected c2, args := #[] } List.mem_cons_self (by show Target.collected c2 = _; rw [e])
    refine .mark c2 ds l hB ?_ hn hf2 (ih fun d hd => hf d (by simp [hd]))
    simp only [wput]
    rw [Array.getElem?_setIfInBounds_ne (Ne.symm hne)]; exact hc
end
theorem sameE_ok {e e' : Env} : ∀ {ks : List Key}, sameE ks e e' = true → ∀ k ∈ ks, ∀ v, e.get k = some v → e'.get k = some v
  | [], _, k, hk, _, _ => by cases hk
  | j :: ks, h, k, hk, v, hv => by
    have h : (Option.rec (sameE ks e e') (fun v => Option.rec false (fun v' => bcond (AV.beq v v') (sameE ks e e') false) (e'.get j)) (e.get j) : Bool) = true := h
    have tl : sameE ks e e' = true ∧ ∀ v, e.get j = some v → e'.get j = some v := by
      cases h1 : e.get j with
      | none => rw [h1] at h; exact ⟨h, (fun v hv => by cases hv)⟩
      | some v1 =>
        rw [h1] at h
        simp only at h
        cases h2 : e'.get j with
        | none => rw [h2] at h; cases h
        | some v2 =>
          rw [h2] at h
          obtain ⟨h3, h4⟩ := bcond_and h
          cases AV.beq_eq _ _ h3
          exact ⟨h4, fun v hv => hv⟩
    rcases List.mem_cons.1 hk with rfl | hk
    · exact tl.2 v hv
    · exact sameE_ok tl.1 k hk v hv

theorem bornsOk_ok {since : Nat} : ∀ {es : List (AV × AV × Nat)} {lb : Nat}, bornsOk since es lb = true → lb ≤ since ∧ (∀ p ∈ es, lb ≤ p.2.2 ∧ p.2.2 < since) ∧ (∀ p ∈ es, ∀ q ∈ es, p.2.2 = q.2.2 → p = q) ∧ (es.map (·.2.2)).Nodup
  | [], lb, h => ⟨Nat.le_of_ble_eq_true h, (fun p hp => by cases hp), (fun p hp => by cases hp), List.nodup_nil⟩
  | p :: es, lb, h => by
    obtain ⟨h1, h2⟩ := bcond_and (show bcond (Nat.ble lb p.2.2) (bornsOk since es (Nat.add p.2.2 1)) false = true from h)
    have h1 := Nat.le_of_ble_eq_true h1
    obtain ⟨g0, g1, g2, g3⟩ := bornsOk_ok h2
    have g0 : p.2.2 + 1 ≤ since := g0
    have g1 : ∀ q ∈ es, p.2.2 + 1 ≤ q.2.2 ∧ q.2.2 < since := g1
    refine ⟨by omega, ?_, ?_, ?_⟩
    · intro q hq
      rcases List.mem_cons.1 hq with rfl | hq
      · exact ⟨h1, by omega⟩
      · have := g1 q hq; exact ⟨by omega, this.2⟩
    · intro q hq q' hq' he
      rcases List.mem_cons.1 hq with rfl | hq <;> rcases List.mem_cons.1 hq' with rfl | hq'
      · rfl
      · have := g1 q' (by assumption); omega
      · have := g1 q (by assumption); omega
      · exact g2 q (by assumption) q' (by assumption) he
    · rw [List.map_cons, List.nodup_cons]
      refine ⟨fun hm => ?_, g3⟩
      obtain ⟨q, hq, he⟩ := List.mem_map.1 hm
      have := g1 q hq
      omega

theorem mrounds_inv {f : Env → List Dfr → St → Res} {keep : List Key} {tn tx te : Key} {e0 : Env} {σ : St} : ∀ {es : List (AV × AV × Nat)} {r rr : Option Res}, mrounds f keep tn tx te e0 σ es r = some rr →
    (∀ q ∈ es, normR keep e0 (f (mEnv tn tx te e0 q) [] ⟨.lf, σ.next⟩) = true ∨ (r = none ∧ rr = some (f (mEnv tn tx te e0 q) [] σ) ∧ outR (f (mEnv tn tx te e0 q) [] σ) = true)) ∧ (∀ x, r = some x → rr = some x)
  | [], r, rr, h => by
    have h : some r = some rr := h
    cases h
    exact ⟨(fun q hq => by cases hq), fun x h => h⟩
  | p :: es, r, rr, h => by
    have h : bcond (normR keep e0 (f (mEnv tn tx te e0 p) [] ⟨.lf, σ.next⟩)) (mrounds f keep tn tx te e0 σ es r)
      (Option.rec (bcond (outR (f (mEnv tn tx te e0 p) [] σ)) (mrounds f keep tn tx te e0 σ es (some (f (mEnv tn tx te e0 p) [] σ))) none) (fun _ => none) r) = some rr := h
    rw [bcond_eq] at h
    split at h
    · rename_i hn
      obtain ⟨h1, h2⟩ := mrounds_inv h
      refine ⟨fun q hq => ?_, h2⟩
      rcases List.mem_cons.1 hq with rfl | hq
      · exact .inl hn
      · exact h1 q hq
    · cases r with
      | some x => cases h
      | none =>
        obtain ⟨ho, h⟩ := bcond_none (show bcond _ _ _ = _ from h)
        obtain ⟨h1, h2⟩ := mrounds_inv h
        refine ⟨fun q hq => ?_, fun x hx => by cases hx⟩
        rcases List.mem_cons.1 hq with rfl | hq
        · exact .inr ⟨rfl, h2 _ rfl, ho⟩
        · rcases h1 q hq with h3 | ⟨h3, _⟩
          · exact .inl h3
          · cases h3

section
variable {P : Program} {ρ : Nat → Value} {w0 : World} {r : Option Nat} {nt : Nat}
theorem code_ok0 (hC : Ctx P ρ w0) {cf : Cf} (hF : CfOk P ρ w0 cf) {fuel : Nat} (hD : ∀ id ops, CodeOk P ρ w0 r nt (.region id ops true) (evCode cf fuel (lDreg P nt ops))) : ∀ c : Code, r = none ∨ ndC c = true → CodeOk P ρ w0 r nt c (evCode cf fuel (lCode0 P nt c))
  | .skip, _ => by
    intro e d σ x e' d' σ' h B φ w a hB hW hE hD
    cases h
    exact wpIn_skip ⟨φ, trivial, hE, hD, Go1.refl hW⟩
  | .label l, _ => by
    intro e d σ x e' d' σ' h B φ w a hB hW hE hD
    cases h
    exact wpIn_label ⟨φ, trivial, hE, hD, Go1.refl hW⟩
  | .region id ops false, hn => by
    intro e d σ x e' d' σ' h B φ w a hB hW hE hD
    refine wpIn_region ?_
    have hnd : r = none ∨ ∀ o ∈ ops.toList, ∀ c, o.op ≠ .defer c := by
      rcases hn with h | h
      · exact .inl h
      · refine .inr fun o ho c hc => ?_
        have := List.all_eq_true.1 h o ho
        rw [hc] at this
        cases this
    have hh : evOps cf (ops.toList.map (lOper P nt ops)) e d σ = .mk x e' d' σ' := h
    have := ops_ok hC hF hnd ops.toList 0 (by intro j o hj; simpa using hj) e d σ x e' d' σ' hh φ w a hW hE hD _ (fun _ _ _ h => h)
    simpa [List.range_eq_range'] using this
  | .region id ops true, _ => hD id ops
  | .seq a b, hn => seq_ok (code_ok0 hC hF hD a (hn.imp id fun h => by simp [ndC] at h; exact h.1)) (code_ok0 hC hF hD b (hn.imp id fun h => by simp [ndC] at h; exact h.2))
  | .cond c a b, hn => by
    have ha := code_ok0 hC hF hD a (hn.imp id fun h => by simp [ndC] at h; exact h.1)
    have hb := code_ok0 hC hF hD b (hn.imp id fun h => by simp [ndC] at h; exact h.2)
    simp only [lCode0]
    split
    · rename_i c' hc
      exact cond_ok hC hc ha hb
    · exact bad_ok
  | .block id b, hn => block_ok (code_ok0 hC hF hD b (hn.imp (fun h => h) fun h => h))
  | .loop b, hn => loop_ok (code_ok0 hC hF hD b (hn.imp (fun h => h) fun h => h)) fuel
  | .rangeFunc f ps a b, _ => bad_ok
  | .exit id, _ => by
    intro e d σ x e' d' σ' h B φ w a hB hW hE hD
    cases h
    exact wpIn_exit ⟨φ, rfl, hE, hD, Go1.refl hW⟩
  | .scope b, hn => scope_ok (code_ok0 hC hF hD b (hn.imp (fun h => h) fun h => h))
  | .ret, _ => by
    intro e d σ x e' d' σ' h B φ w a hB hW hE hD
    cases h
    exact wpIn_ret ⟨φ, trivial, hE, hD, Go1.refl hW⟩
  | .goto l, _ => bad_ok
  | .refuse l, _ => bad_ok

/-- the body behind the entry -/
theorem body_tail (hC : Ctx P ρ w0) {cf : Cf} (hF : CfOk P ρ w0 cf) {o3 : Array Oper} {rest : Code} {b1 : Nat} {g : Env → List Dfr → St → Res} (hnd : ndC (.seq (.region 0 o3 false) rest) = true) (hrest : CodeOk P ρ w0 r nt rest g) {e : Env} {d : List Dfr} {σ : St} {x : Ex} {e' : Env} {d' : List Dfr} {σ' : St}
    (h : C.block b1 (C.seq (evOps cf ((o3.toList.drop 1).map (lOper P nt o3))) g) e d σ = .mk x e' d' σ') {B : Nat → Prop} {φ : Key → Option Pl} {w : World} {a : Act} (hW : WR P ρ w0 φ σ w) (hE : ER ρ φ nt e a.tmps) (hD : DRs B ρ φ σ w d a.defers)
    {Q : Exit → Act → World → Prop} (hQ : ∀ ex a' w', Post B P ρ w0 φ σ w nt x e' d' σ' ex a' w' → Q ex a' w') :
    wpOpsIn (FR r) 0 P o3 (Exit.then (rest.wpIn (FR r) 0 P (Exit.inBlock b1 Q)) (Exit.inBlock b1 Q)) (List.range' 1 (o3.toList.drop 1).length) a w := by
  simp only [ndC, Bool.and_eq_true] at hnd
  unfold C.block at h
  cases hs : C.seq (evOps cf ((o3.toList.drop 1).map (lOper P nt o3))) g e d σ with
  | bad => rw [hs] at h; cases h
  | mk x1 e1 d1 σ1 =>
  rw [hs] at h
  have inb : ∀ {φ1 : Key → Option Pl} {ex : Exit} {a' : Act} {w' : World}, ExR ρ φ1 x1 ex → ER ρ φ1 nt e1 a'.tmps → DRs B ρ φ1 σ1 w' d1 a'.defers → Go1 P ρ w0 φ σ w φ1 σ1 w' → Exit.inBlock b1 Q ex a' w' := by
    intro φ1 ex a' w' hx he hd hgo
    cases x1 with
    | norm =>
      cases h
      cases ex <;> simp only [ExR] at hx
      exact hQ _ _ _ ⟨φ1, trivial, he, hd, hgo⟩
    | exit i =>
      cases ex <;> simp only [ExR] at hx
      subst hx
      have h : bcond (Nat.beq i b1) (Res.mk .norm e1 d1 σ1) (Res.mk (.exit i) e1 d1 σ1) = .mk x e' d' σ' := h
      rw [bcond_eq] at h
      split at h
      · rename_i hi
        have hi := Nat.eq_of_beq_eq_true hi
        cases h
        simp only [Exit.inBlock, hi, if_true]
        exact hQ _ _ _ ⟨φ1, trivial, he, hd, hgo⟩
      · rename_i hi
        have hi : ¬ i = b1 := by rintro rfl; exact hi (Nat.beq_refl _)
        cases h
        simp only [Exit.inBlock, hi, if_false]
        exact hQ _ _ _ ⟨φ1, rfl, he, hd, hgo⟩
    | ret =>
      cases h
      cases ex <;> simp only [ExR] at hx
      exact hQ _ _ _ ⟨φ1, trivial, he, hd, hgo⟩
    | pan v =>
      cases h
      cases ex <;> simp only [ExR] at hx
      exact hQ _ _ _ ⟨φ1, hx, he, hd, hgo⟩
  unfold C.seq at hs
  cases ho : evOps cf ((o3.toList.drop 1).map (lOper P nt o3)) e d σ with
  | bad => rw [ho] at hs; cases hs
  | mk x2 e2 d2 σ2 =>
  rw [ho] at hs
  have hnd' : r = none ∨ ∀ o ∈ o3.toList, ∀ c, o.op ≠ .defer c := by
    refine .inr fun o ho c hc => ?_
    have := List.all_eq_true.1 hnd.1 o ho
    rw [hc] at this
    cases this
  refine ops_ok hC hF hnd' (o3.toList.drop 1) 1 (by intro j o hj; rw [List.getElem?_drop] at hj; simpa using hj) e d σ x2 e2 d2 σ2 ho φ w a hW hE hD _ ?_
  rintro ex a' w' ⟨φ2, hx, he, hd, hgo⟩
  cases x2 with
  | norm =>
    cases ex <;> simp only [ExR] at hx
    refine wpIn_mono (hrest e2 d2 σ2 x1 e1 d1 σ1 hs B φ2 w' a' (.inl hnd.2) hgo.rel he hd) ?_
    rintro ex2 a2 w2 ⟨φ3, hx3, he3, hd3, hgo3⟩
    exact inb hx3 he3 hd3 (hgo.trans hgo3)
  | exit i =>
    cases hs
    cases ex <;> simp only [ExR] at hx
    exact inb (ex := .exit _) hx he hd hgo
  | ret =>
    cases hs
    cases ex <;> simp only [ExR] at hx
    exact inb (ex := .ret) trivial he hd hgo
  | pan v =>
    cases hs
    cases ex <;> simp only [ExR] at hx
    exact inb (ex := .panic _) hx he hd hgo
end
end Go.Ev
namespace Go.Ev
open Go

theorem isMLop_inv {nt : Nat} {p q x : Oper} {c : Nat} {t : Nat × Nat × Nat × Nat} (h : isMLop nt p q x c = some t) :
    p.dst = some t.2.1 ∧ p.op = .next (.tmp t.1) false ∧ p.guard = none ∧ q.dst = some t.2.2.1 ∧ q.op = .extract (.tmp t.2.1) 0 ∧ q.guard = none ∧ x.dst = some t.2.2.2 ∧ x.op = .entry (.tmp t.1) ∧ x.guard = none ∧ c = t.2.2.1 ∧
      t.2.1 < nt ∧ t.2.2.1 < nt ∧ t.2.2.2 < nt ∧ t.2.1 ≠ t.1 ∧ t.2.2.1 ≠ t.1 := by
  unfold isMLop at h
  split at h
  case h_2 => cases h
  rename_i tn it tx tn' h1 h2 h3 h4 h5 h6
  split at h
  case h_2 => cases h
  rename_i te it' h7 h8 h9
  split at h
  case isFalse => cases h
  rename_i hc
  obtain ⟨rfl, rfl, rfl, c1, c2, c3, c4, c5⟩ := hc
  cases h
  exact ⟨h1, h2, h3, h4, h5, h6, h7, h8, h9, rfl, c1, c2, c3, c4, c5⟩
theorem isML_inv {nt : Nat} {b : Code} {m : ML} (h : isML nt b = some m) : ∃ i2 o2 i3 p q x xs, b = .seq (.region i2 o2 false) (.seq (.cond (.tmp m.tx) .skip (.exit m.id)) (.block m.b1 (.seq (.region i3 m.o3 false) m.rest))) ∧
    o2.toList = [p, q] ∧ m.o3.toList = x :: xs ∧ p.dst = some m.tn ∧ p.op = .next (.tmp m.it) false ∧ p.guard = none ∧ q.dst = some m.tx ∧ q.op = .extract (.tmp m.tn) 0 ∧ q.guard = none ∧ x.dst = some m.te ∧ x.op = .entry (.tmp m.it) ∧ x.guard = none ∧
      m.tn < nt ∧ m.tx < nt ∧ m.te < nt ∧ m.tn ≠ m.it ∧ m.tx ≠ m.it := by
  unfold isML at h
  split at h
  case h_2 => cases h
  rename_i i2 o2 c id b1 i3 o3 rest
  split at h
  case h_2 => cases h
  rename_i p q x xs e1 e2
  split at h
  case h_2 => cases h
  rename_i t ht
  cases h
  obtain ⟨h1, h2, h3, h4, h5, h6, h7, h8, h9, rfl, h10⟩ := isMLop_inv ht
  exact ⟨i2, o2, i3, p, q, x, xs, rfl, e1, e2, h1, h2, h3, h4, h5, h6, h7, h8, h9, h10⟩

section
variable {P : Program} {ρ : Nat → Value} {w0 : World} {r : Option Nat} {nt : Nat}

theorem Ents.mem {ρ : Nat → Value} {φ : Key → Option Pl} {es : List (AV × AV × Nat)} {ents : List MapEntry} (h : Ents ρ φ es ents) : (∀ e ∈ ents, ∃ p ∈ es, VR ρ φ p.1 e.key ∧ VR ρ φ p.2.1 e.val ∧ e.born = p.2.2) ∧ (∀ p ∈ es, ∃ e ∈ ents, e.born = p.2.2) ∧ ents.map (·.born) = es.map (·.2.2) := by
  induction h with
  | nil => exact ⟨(fun e he => by cases he), (fun e he => by cases he), rfl⟩
  | cons k v b l e es hk hv hb _ ih =>
    obtain ⟨h1, h2, h3⟩ := ih
    refine ⟨?_, ?_, by simp [hb, h3]⟩
    · intro e' he
      rcases List.mem_cons.1 he with rfl | he
      · exact ⟨_, List.mem_cons_self, hk, hv, hb⟩
      · obtain ⟨p, hp, h⟩ := h1 e' he
        exact ⟨p, List.mem_cons_of_mem _ hp, h⟩
    · intro p hp
      rcases List.mem_cons.1 hp with rfl | hp
      · exact ⟨e, List.mem_cons_self, hb⟩
      · obtain ⟨e', he, h⟩ := h2 p hp
        exact ⟨e', List.mem_cons_of_mem _ he, h⟩

/-- a block that is not held, but was at the start, is turned -/
theorem Go1.turn {φ0 φ : Key → Option Pl} {σ0 σ : St} {ws w : World} (h : Go1 P ρ w0 φ0 σ0 ws φ σ w) {c : Nat} (hc : InR φ0 σ0 c) (hT : w0.heap.size ≤ c) (hn : ¬ InR φ σ c) (o : Obj) : Go1 P ρ w0 φ0 σ0 ws φ σ (wput w c o) where
  ext := h.ext
  rel := {
    live := by
      intro k b hk
      obtain ⟨pl, ob, h1, h2, h3⟩ := h.rel.live k b hk
      refine ⟨pl, ob, h1, ?_, h3⟩
      simp only [wput]
      rw [Array.getElem?_setIfInBounds_ne (fun e => hn ⟨k, b, pl, hk, h1, e.symm⟩)]; exact h2
    inj := h.rel.inj
    fresh := h.rel.fresh
    base := by
      intro i hi
      simp only [wput]
      rw [Array.getElem?_setIfInBounds_ne (by omega)]; exact h.rel.base i hi
    low := h.rel.low
    top := by simpa [wput] using h.rel.top }
  os := h.os
  tape := h.tape
  output := h.output
  size := by simpa [wput] using h.size
  keep := by
    intro i hi hni
    simp only [wput]
    rw [Array.getElem?_setIfInBounds_ne (fun e => hni (by rw [← e]; exact hc))]; exact h.keep i hi hni
  rng := h.rng
  nxt := h.nxt
  nwk := h.nwk
theorem WR.small {φ : Key → Option Pl} {σ : St} {w : World} (h : WR P ρ w0 φ σ w) : WR P ρ w0 φ ⟨.lf, σ.next⟩ w := by
  refine ⟨?_, ?_, h.fresh, h.base, ?_, h.top⟩
  · intro k b hk; simp only [Tr.get_lf] at hk; cases hk
  · intro k k' b b' _ _ hk; simp only [Tr.get_lf] at hk; cases hk
  · intro k b pl hk; simp only [Tr.get_lf] at hk; cases hk
theorem InR.small {φ : Key → Option Pl} {n : Key} {c : Nat} : ¬ InR φ ⟨.lf, n⟩ c := by
  rintro ⟨k, b, pl, hk, _⟩
  simp only [Tr.get_lf] at hk
  cases hk
theorem mrounds_all {f : Env → List Dfr → St → Res} {keep : List Key} {tn tx te : Key} {e0 : Env} {σ : St} : ∀ {es : List (AV × AV × Nat)} {r : Option Res}, (∀ q ∈ es, normR keep e0 (f (mEnv tn tx te e0 q) [] ⟨.lf, σ.next⟩) = true) → mrounds f keep tn tx te e0 σ es r = some r
  | [], _, _ => rfl
  | p :: es, r, h => by
    show bcond (normR keep e0 (f (mEnv tn tx te e0 p) [] ⟨.lf, σ.next⟩)) (mrounds f keep tn tx te e0 σ es r) _ = _
    rw [h p (by simp)]
    exact mrounds_all fun q hq => h q (by simp [hq])
theorem normR_inv {keep : List Key} {e0 : Env} {x : Res} (h : normR keep e0 x = true) : ∃ e' σ', x = .mk .norm e' [] σ' ∧ sameE keep e0 e' = true := by
  cases x with
  | bad => cases h
  | mk x e' d' σ' =>
    cases d' with
    | cons _ _ => cases h
    | nil =>
      cases x with
      | norm => exact ⟨e', σ', rfl, h⟩
      | exit i => cases h
      | ret => cases h
      | pan v => cases h
theorem outR_inv {x : Ex} {e' : Env} {d' : List Dfr} {σ' : St} (h : outR (.mk x e' d' σ') = true) : x ≠ .norm := by
  rintro rfl
  cases h

theorem mloop_ok (hC : Ctx P ρ w0) {cf : Cf} (hF : CfOk P ρ w0 cf) {fuel : Nat} (hD : ∀ id ops, CodeOk P ρ w0 r nt (.region id ops true) (evCode cf fuel (lDreg P nt ops))) {b : Code} {m : ML} (hm : isML nt b = some m) (hnd : ndC (.seq (.region 0 m.o3 false) m.rest) = true) (keep : List Key) :
    CodeOk P ρ w0 r nt (.loop b) (evCode cf fuel (.mloop (Key.ofNat m.it) (Key.ofNat m.tn) (Key.ofNat m.tx) (Key.ofNat m.te) keep m.id (.block m.b1 (.seq (.reg ((m.o3.toList.drop 1).map (lOper P nt m.o3))) (lCode0 P nt m.rest))))) := by
  obtain ⟨i2, o2, i3, p, q, x0, xs, rfl, hp2, hx3, p1, p2, p3, q1, q2, q3, x1, x2, x3, n1, n2, n3, n4, n5⟩ := isML_inv hm
  have hrest := code_ok0 hC hF hD m.rest (.inr (by simp only [ndC, Bool.and_eq_true] at hnd; exact hnd.2))
  intro e d σ x e' d' σ' h B φ w a hB hW hE hD0
  generalize hf : evCode cf fuel (.block m.b1 (.seq (.reg ((m.o3.toList.drop 1).map (lOper P nt m.o3))) (lCode0 P nt m.rest))) = f
  have h : C.mloop (Key.ofNat m.it) (Key.ofNat m.tn) (Key.ofNat m.tx) (Key.ofNat m.te) keep m.id (evCode cf fuel (.block m.b1 (.seq (.reg ((m.o3.toList.drop 1).map (lOper P nt m.o3))) (lCode0 P nt m.rest)))) e d σ = .mk x e' d' σ' := h
  rw [hf] at h
  have hf' : C.block m.b1 (C.seq (evOps cf ((m.o3.toList.drop 1).map (lOper P nt m.o3))) (evCode cf fuel (lCode0 P nt m.rest))) = f := hf
  clear hf
  -- the evaluator's run
  unfold C.mloop at h
  cases d with
  | cons _ _ => cases h
  | nil =>
  simp only at h
  generalize he0 : keepE keep e = e0 at h
  have hE0 : ER ρ φ nt e0 a.tmps := by
    refine ⟨hE.1, fun t y hy => ?_⟩
    rw [← he0, keepE_get] at hy
    split at hy
    · exact hE.2 t y hy
    · cases hy
  cases hit : e0.get (Key.ofNat m.it) with
  | none => rw [hit] at h; cases h
  | some vit =>
  rw [hit] at h
  simp only at h
  obtain ⟨k, off, hvit, h2⟩ := ptrK_val h (by simp)
  clear h
  subst hvit
  obtain ⟨hoff, h3⟩ := bcond_val h2 (by simp)
  clear h2
  have hoff := Nat.eq_of_beq_eq_true hoff
  subst hoff
  unfold mloopAt at h3
  cases hkb : σ.heap.get k with
  | none => rw [hkb] at h3; cases h3
  | some bk =>
  rw [hkb] at h3
  simp only at h3
  split at h3
  case h_2 => cases h3
  rename_i mk since
  cases hmp : σ.map mk with
  | none => rw [hmp] at h3; cases h3
  | some pr =>
  obtain ⟨es, ck⟩ := pr
  rw [hmp] at h3
  simp only at h3
  obtain ⟨hck, h4⟩ := bcond_val h3 (by simp)
  clear h3
  obtain ⟨hbo, h5⟩ := bcond_val h4 (by simp)
  clear h4
  have hck := Nat.eq_of_beq_eq_true hck
  subst hck
  obtain ⟨_, b1, b2, b3⟩ := bornsOk_ok hbo
  cases hmr : mrounds f keep (Key.ofNat m.tn) (Key.ofNat m.tx) (Key.ofNat m.te) e0 (σ.kill k) es none with
  | none => rw [hmr] at h5; cases h5
  | some rr =>
  rw [hmr] at h5
  simp only at h5
  obtain ⟨mr, _⟩ := mrounds_inv hmr
  -- the blocks
  obtain ⟨pl, o, g1, g2, g3⟩ := hW.live _ _ hkb
  cases o <;> simp only [BR] at g3
  rename_i m' s' seen0 st0
  obtain ⟨g4, e1, e2, e3, pkm, g5, e4⟩ := g3
  subst e1 e2 e3 e4
  obtain ⟨xm, hxm, hxm'⟩ := obind_some (show obind (σ.heap.get mk) _ = _ from hmp)
  split at hxm'
  case h_2 => cases hxm'
  cases hxm'
  obtain ⟨plm, om, m1, m2, m3⟩ := hW.live _ _ hxm
  rw [g5] at m1; cases m1
  cases om <;> simp only [BR] at m3
  rename_i ents ck'
  obtain ⟨e5, m4⟩ := m3
  subst e5
  obtain ⟨en1, en2, en3⟩ := m4.mem
  have hnod : (ents.toList.map (·.born)).Nodup := by rw [en3]; exact b3
  have hold : ∀ x ∈ ents.toList, x.born < ck' := by
    intro x hx
    obtain ⟨p, hp, _, _, h⟩ := en1 x hx
    rw [h]; exact (b1 p hp).2
  have hg0 := Go1.kill hW k
  have hcit : ¬ InR φ (σ.kill k) pl.blk := by
    rintro ⟨j, bj, plj, h1, h2, h3⟩
    simp only [St.kill, Tr.get_set] at h1
    split at h1
    · cases h1
    · rename_i hne
      exact hne (hW.inj _ _ _ _ _ _ hkb h1 g1 h2 h3.symm)
  have hcm : pkm.blk ≠ pl.blk := by
    intro he
    have := hW.inj _ _ _ _ _ _ hxm hkb g5 g1 he
    subst this
    rw [hkb] at hxm; cases hxm
  have htop := hW.low _ _ _ hkb g1
  have hkeep : ∀ k v, e0.get k = some v → k ∈ keep := by
    intro k v hv
    rw [← he0, keepE_get] at hv
    split at hv
    · assumption
    · cases hv
  have hInR : InR φ σ pl.blk := ⟨k, _, pl, hkb, g1, rfl⟩
  clear hD hkb h
  generalize hσ1 : σ.kill k = σ1 at *
  refine wpIn_loop (fun a1 w1 => ∃ seen : Array Nat, Go1 P ρ w0 φ σ w φ σ1 w1 ∧ w1.heap[pl.blk]? = some (.mapIter (some pkm.blk) ck' seen ck') ∧ w1.heap[pkm.blk]? = some (.map ents ck') ∧ ER ρ φ nt e0 a1.tmps ∧ DRs B ρ φ σ1 w1 [] a1.defers ∧
      ∀ s ∈ seen, ∃ p ∈ es, p.2.2 = s ∧ normR keep e0 (f (mEnv (Key.ofNat m.tn) (Key.ofNat m.tx) (Key.ofNat m.te) e0 p) [] ⟨.lf, σ1.next⟩) = true)
    (fun _ w1 => match w1.heap[pl.blk]? with | some (.mapIter _ _ seen _) => (leftOf ents seen).size | _ => 0) ⟨#[], hg0, g2, m2, hE0, hD0.go hg0, by simp⟩ ?_
  rintro a1 w1 ⟨seen, hg1, hi1, hmap1, hE1, hD1, hseen⟩
  have hμ : (match w1.heap[pl.blk]? with | some (.mapIter _ _ seen _) => (leftOf ents seen).size | _ => 0) = (leftOf ents seen).size := by rw [hi1]
  rw [hμ]
  clear hμ
  refine wpIn_seq (wpIn_region ?_)
  have s2 : o2.size = 2 := by rw [← Array.length_toList, hp2]; rfl
  have o20 : o2[0]? = some p := by rw [← Array.getElem?_toList, hp2]; rfl
  have o21 : o2[1]? = some q := by rw [← Array.getElem?_toList, hp2]; rfl
  rw [s2]
  show wpOpsIn (FR r) 0 P o2 _ [0, 1] a1 w1
  have want0 : ∀ y, Region.wanted p y = true := fun y => by simp [Region.wanted, p3]
  have want1 : ∀ y, Region.wanted q y = true := fun y => by simp [Region.wanted, q3]
  have wantx : ∀ y, Region.wanted x0 y = true := fun y => by simp [Region.wanted, x3]
  simp only [wpOpsIn, o20, o21, want0, want1, if_true]
  have hitv : a1.eval (.tmp m.it) = .pointer (some ⟨pl.blk, 0, none⟩) := by
    have := hE1.get hit
    show a1.tmps.getD m.it undef = _
    generalize a1.tmps.getD m.it undef = z at this
    cases this
    rename_i pl' hpl'
    rw [g1] at hpl'; cases hpl'
    rw [g4]
  have step : ∀ {o : Oper} {a : Act} {w w' : World} {v : Value} {K : Act → World → Prop} {Q : Exit → Act → World → Prop}, (∀ c, o.op ≠ .defer c) → (execOp a.eval o).run P w = .ok (.value v) w' → K (a.put o.dst v) w' → o.wpIn (FR r) 0 P a w K Q :=
    fun hd h hK => wp_of_run hd h (.inl rfl) hK
  have nd0 : ∀ c, p.op ≠ .defer c := fun c h => by rw [p2] at h; cases h
  have nd1 : ∀ c, q.op ≠ .defer c := fun c h => by rw [q2] at h; cases h
  have ndx : ∀ c, x0.op ≠ .defer c := fun c h => by rw [x2] at h; cases h
  have hntz : nt ≤ a1.tmps.size := hE1.1
  have ev_tn : ∀ v, (a1.put p.dst v).eval (.tmp m.tn) = v := by
    intro v
    rw [p1]
    show ((a1.tmps.setIfInBounds m.tn v).getD m.tn undef) = v
    simp [Array.getD_eq_getD_getElem?, show m.tn < a1.tmps.size by omega]
  have exrun : ∀ (xs : Array Value) (v : Value) (w : World), xs[0]? = some v → (execOp (a1.put p.dst (.tuple xs)).eval q).run P w = .ok (.value v) w := by
    intro xs v w hv
    simp [execOp, q2, Instr.extract, ev_tn, hv]
  have nxrun : ∀ {v : Value} {w' : World}, (Instr.next (.pointer (some ⟨pl.blk, 0, none⟩)) false p.type).run P w1 = .ok v w' → (execOp a1.eval p).run P w1 = .ok (.value v) w' := by
    intro v w' h
    have : (execOp a1.eval p).run P w1 = ((Instr.next (a1.eval (.tmp m.it)) false p.type).run P w1).andThen fun v w => .ok (.value v) w := by simp [execOp, p2]
    rw [this, hitv, h]; rfl
  rcases run_next_at w1 p.type pl.blk pkm.blk ck' ck' seen ents ck' hi1 hmap1 hold (Nat.le_refl _) with ⟨hz, hrun⟩ | ⟨en, hen, w2, hw2, hrun⟩
  · -- nothing is left
    refine step nd0 (v := .tuple #[.bool false]) (w' := w1) (nxrun hrun) ?_
    refine step nd1 (exrun #[.bool false] (.bool false) w1 rfl) ?_
    have hE3 : ER ρ φ nt ((e0.set (some (.tup [.bool false])) (Key.ofNat m.tn)).set (some (.bool false)) (Key.ofNat m.tx)) ((a1.put p.dst (.tuple #[.bool false])).put q.dst (.bool false)).tmps := by
      rw [p1, q1]
      exact (hE1.put n1 (.tup [.bool false] [.bool false] (.cons _ _ _ _ (.bool _) .nil))).put n2 (.bool _)
    have hrr : rr = none := by
      have := mrounds_all (f := f) (keep := keep) (tn := Key.ofNat m.tn) (tx := Key.ofNat m.tx) (te := Key.ofNat m.te) (e0 := e0) (σ := σ1) (es := es) (r := none) ?_
      · rw [this] at hmr; cases hmr; rfl
      · intro q0 hq0
        obtain ⟨ent, h1, h2⟩ := en2 q0 hq0
        have hs : ent.born ∈ seen := by
          have hz' : (leftOf ents seen) = #[] := Array.eq_empty_of_size_eq_zero hz
          unfold leftOf at hz'
          rw [Array.filter_eq_empty_iff] at hz'
          have := hz' ent (by simpa using h1)
          simpa using this
        obtain ⟨p0, h3, h4, h5⟩ := hseen _ hs
        cases b2 p0 h3 q0 hq0 (by rw [h4, h2])
        exact h5
    subst hrr
    have h5 : Res.mk (.exit m.id) ((e0.set (some (.tup [.bool false])) (Key.ofNat m.tn)).set (some (.bool false)) (Key.ofNat m.tx)) [] σ1 = .mk x e' d' σ' := h5
    cases h5
    show (Code.seq (.cond (.tmp m.tx) .skip (.exit m.id)) _).wpIn _ _ _ _ _ _
    refine wpIn_seq (wpIn_cond_false ?_ (wpIn_exit ?_))
    · rw [q1]
      show (Array.setIfInBounds _ m.tx (Value.bool false)).getD m.tx undef = _
      have : m.tx < (a1.put p.dst (.tuple #[.bool false])).tmps.size := by
        rw [p1]; show _ < (a1.tmps.setIfInBounds _ _).size; simp; omega
      simp [Array.getD_eq_getD_getElem?, this]
    · exact ⟨φ, rfl, hE3, by rw [put_defers, put_defers]; exact hD1, hg1⟩
  · -- an entry
    have hen2 : en ∈ ents.toList ∧ en.born ∉ seen := by
      unfold leftOf at hen
      simp at hen
      exact ⟨by simpa using hen.1, hen.2⟩
    obtain ⟨hen1, hens⟩ := hen2
    obtain ⟨p', hp', hkey, hval, hborn⟩ := en1 en hen1
    refine step nd0 (v := .tuple #[.bool true, en.key, en.val]) (w' := wput w2 pl.blk (.mapIter (some pkm.blk) ck' (seen.push en.born) ck')) (nxrun hrun) ?_
    generalize hw3 : wput w2 pl.blk (.mapIter (some pkm.blk) ck' (seen.push en.born) ck') = w3
    refine step nd1 (exrun #[.bool true, en.key, en.val] (.bool true) w3 rfl) ?_
    show (Code.seq (.cond (.tmp m.tx) .skip (.exit m.id)) _).wpIn _ _ _ _ _ _
    have hg2 : Go1 P ρ w0 φ σ w φ σ1 w2 := by
      rcases hw2 with rfl | rfl
      · exact hg1
      · exact hg1.trans (Go1.drew hg1.rel _)
    have hh2 : w2.heap = w1.heap := by rcases hw2 with rfl | rfl <;> rfl
    have hg3 : Go1 P ρ w0 φ σ w φ σ1 w3 := by rw [← hw3]; exact hg2.turn hInR htop hcit _
    have hlt1 : pl.blk < w1.heap.size := (Array.getElem?_eq_some_iff.1 hi1).1
    have hi3 : w3.heap[pl.blk]? = some (.mapIter (some pkm.blk) ck' (seen.push en.born) ck') := by
      rw [← hw3]; simp [wput, hh2, hlt1]
    have hm3 : w3.heap[pkm.blk]? = some (.map ents ck') := by
      rw [← hw3]
      simp only [wput, hh2]
      rw [Array.getElem?_setIfInBounds_ne (Ne.symm hcm)]; exact hmap1
    refine wpIn_seq (wpIn_cond_true ?_ (wpIn_skip ?_))
    · rw [q1]
      show (Array.setIfInBounds _ m.tx (Value.bool true)).getD m.tx undef = _
      have : m.tx < (a1.put p.dst (.tuple #[.bool true, en.key, en.val])).tmps.size := by
        rw [p1]; show _ < (a1.tmps.setIfInBounds _ _).size; simp; omega
      simp [Array.getD_eq_getD_getElem?, this]
    show (Code.block m.b1 _).wpIn _ _ _ _ _ _
    refine wpIn_block (wpIn_seq (wpIn_region ?_))
    have s3 : m.o3.size = xs.length + 1 := by rw [← Array.length_toList, hx3]; rfl
    have o30 : m.o3[0]? = some x0 := by rw [← Array.getElem?_toList, hx3]; rfl
    have hdrop : (m.o3.toList.drop 1).length = xs.length := by rw [hx3]; rfl
    rw [s3, List.range_eq_range', List.range'_succ]
    simp only [wpOpsIn, o30, wantx, if_true, Nat.zero_add]
    -- the temporaries
    have hE3 : ER ρ φ nt (((e0.set (some (.tup [.bool true, p'.1, p'.2.1])) (Key.ofNat m.tn)).set (some (.bool true)) (Key.ofNat m.tx))) ((a1.put p.dst (.tuple #[.bool true, en.key, en.val])).put q.dst (.bool true)).tmps := by
      rw [p1, q1]
      exact (hE1.put n1 (.tup [.bool true, p'.1, p'.2.1] [.bool true, en.key, en.val] (.cons _ _ _ _ (.bool _) (.cons _ _ _ _ hkey (.cons _ _ _ _ hval .nil))))).put n2 (.bool _)
    generalize ha3 : (a1.put p.dst (.tuple #[.bool true, en.key, en.val])).put q.dst (.bool true) = a3 at hE3
    have hd3 : a3.defers = a1.defers := by rw [← ha3, put_defers, put_defers]
    have hitv3 : a3.eval (.tmp m.it) = .pointer (some ⟨pl.blk, 0, none⟩) := by
      have h3 : (((e0.set (some (.tup [.bool true, p'.1, p'.2.1])) (Key.ofNat m.tn)).set (some (.bool true)) (Key.ofNat m.tx))).get (Key.ofNat m.it) = some (.ptr k 0) := by
        rw [Tr.get_set, if_neg (fun h => n5 (Key.ofNat_inj h)), Tr.get_set, if_neg (fun h => n4 (Key.ofNat_inj h))]; exact hit
      have := hE3.get h3
      show a3.tmps.getD m.it undef = _
      generalize a3.tmps.getD m.it undef = z at this
      cases this
      rename_i pl' hpl'
      rw [g1] at hpl'; cases hpl'
      rw [g4]
    refine step ndx (v := .tuple #[en.key, en.val]) (w' := w3) ?_ ?_
    · have := run_entry_at (P := P) w3 pl.blk pkm.blk ck' seen ents ck' en hi3 hm3 hen1 hnod
      simp [execOp, x2, hitv3, this]
    have hE4 : ER ρ φ nt (mEnv (Key.ofNat m.tn) (Key.ofNat m.tx) (Key.ofNat m.te) e0 p') (a3.put x0.dst (.tuple #[en.key, en.val])).tmps := by
      rw [x1]
      exact hE3.put n3 (.tup [p'.1, p'.2.1] [en.key, en.val] (.cons _ _ _ _ hkey (.cons _ _ _ _ hval .nil)))
    generalize ha4 : a3.put x0.dst (.tuple #[en.key, en.val]) = a4 at hE4
    have hd4 : a4.defers = a1.defers := by rw [← ha4, put_defers, hd3]
    have hD3 : DRs B ρ φ σ1 w3 [] a4.defers := by
      rw [hd4]
      have hD2 : DRs B ρ φ σ1 w2 [] a1.defers := by
        rcases hw2 with rfl | rfl
        · exact hD1
        · exact hD1.go (Go1.drew hg1.rel _)
      rw [← hw3]
      refine hD2.shut (c := pl.blk) (fun d hd ht => ?_)
      have : ∀ {l : List Deferred}, DRs B ρ φ σ1 w1 [] l → ∀ d ∈ l, d.target ≠ .collected pl.blk := by
        intro l hl
        generalize hds : ([] : List Dfr) = ds at hl
        induction hl with
        | nil => intro d hd; cases hd
        | call => cases hds
        | mark c ds l _ hc _ _ _ ih =>
          intro d hd
          rcases List.mem_cons.1 hd with rfl | hd
          · intro he
            cases he
            rw [hi1] at hc; cases hc
          · exact ih hds d hd
      exact this hD1 d hd ht
    rw [← hdrop]
    rcases mr p' hp' with hn | ⟨_, hfull, hout⟩
    · -- the round ends
      obtain ⟨e2, σ2, hsm, hsame⟩ := normR_inv hn
      have hsm' := hsm
      rw [← hf'] at hsm'
      refine body_tail hC hF hnd hrest hsm' hg3.rel.small hE4 (hD3.swap hg3.rel.small) ?_
      rintro ex a' w' ⟨φ5, hx5, hE5, hD5, hg5⟩
      cases ex <;> simp only [ExR] at hx5
      have hg6 := Go1.forget hg3.rel hg5
      have hlt3 : pl.blk < w3.heap.size := (Array.getElem?_eq_some_iff.1 hi3).1
      have hltm : pkm.blk < w3.heap.size := (Array.getElem?_eq_some_iff.1 hm3).1
      have hi5 : w'.heap[pl.blk]? = some (.mapIter (some pkm.blk) ck' (seen.push en.born) ck') := by rw [hg5.keep _ hlt3 InR.small]; exact hi3
      refine ⟨⟨seen.push en.born, hg3.trans hg6, hi5, by rw [hg5.keep _ hltm InR.small]; exact hm3, ER.back hg5.ext hE1 hE5 (fun k v hv => sameE_ok hsame k (hkeep k v hv) v hv), hD5.swap hg6.rel, ?_⟩, ?_⟩
      · intro s hs
        rcases Array.mem_push.1 hs with hs | rfl
        · exact hseen s hs
        · exact ⟨p', hp', hborn.symm, hn⟩
      · rw [hi5]
        show (leftOf ents (seen.push en.born)).size < (leftOf ents seen).size
        unfold leftOf
        have hsz : ∀ f : MapEntry → Bool, (ents.filter f).size = ents.toList.countP f := fun f => by
          rw [← Array.length_toList, Array.toList_filter, List.countP_eq_length_filter]
        rw [hsz, hsz]
        refine countP_lt ?_ hen1 (by simpa using hens) (by simp)
        intro y hy
        simp at hy ⊢
        exact hy.1
    · -- the round leaves the loop
      rw [hfull] at h5
      have h5 : f (mEnv (Key.ofNat m.tn) (Key.ofNat m.tx) (Key.ofNat m.te) e0 p') [] σ1 = .mk x e' d' σ' := h5
      rw [h5] at hout
      have hne := outR_inv hout
      rw [← hf'] at h5
      refine body_tail hC hF hnd hrest h5 hg3.rel hE4 hD3 ?_
      intro ex a' w' hp
      have hl := hp.later hg3
      cases ex with
      | normal =>
        obtain ⟨_, hx5, _⟩ := hp
        cases x <;> simp only [ExR] at hx5
        exact absurd rfl hne
      | _ => exact hl
end
end Go.Ev
namespace Go.Ev
open Go

section
variable {P : Program} {ρ : Nat → Value} {w0 : World} {r : Option Nat} {nt : Nat}

/-- what is asked of the two forms that have theories of their own -/
structure FormsOk (P : Program) (ρ : Nat → Value) (w0 : World) (cf : Cf) (r : Option Nat) (nt : Nat) (fuel : Nat) : Prop where
  dreg : ∀ id ops, CodeOk P ρ w0 r nt (.region id ops true) (evCode cf fuel (lDreg P nt ops))
  range : r = none → ∀ f ps a b, CodeOk P ρ w0 r nt (.rangeFunc f ps a b) (evCode cf fuel (lCode P nt (.rangeFunc f ps a b)))

theorem code_ok (hC : Ctx P ρ w0) {cf : Cf} (hF : CfOk P ρ w0 cf) {fuel : Nat} (hX : FormsOk P ρ w0 cf r nt fuel) : ∀ c : Code, r = none ∨ ndC c = true → CodeOk P ρ w0 r nt c (evCode cf fuel (lCode P nt c))
  | .skip, _ => by
    intro e d σ x e' d' σ' h B φ w a hB hW hE hD
    cases h
    exact wpIn_skip ⟨φ, trivial, hE, hD, Go1.refl hW⟩
  | .label l, _ => by
    intro e d σ x e' d' σ' h B φ w a hB hW hE hD
    cases h
    exact wpIn_label ⟨φ, trivial, hE, hD, Go1.refl hW⟩
  | .region id ops false, hn => by
    intro e d σ x e' d' σ' h B φ w a hB hW hE hD
    refine wpIn_region ?_
    have hnd : r = none ∨ ∀ o ∈ ops.toList, ∀ c, o.op ≠ .defer c := by
      rcases hn with h | h
      · exact .inl h
      · refine .inr fun o ho c hc => ?_
        have := List.all_eq_true.1 h o ho
        rw [hc] at this
        cases this
    have hh : evOps cf (ops.toList.map (lOper P nt ops)) e d σ = .mk x e' d' σ' := h
    have := ops_ok hC hF hnd ops.toList 0 (by intro j o hj; simpa using hj) e d σ x e' d' σ' hh φ w a hW hE hD _ (fun _ _ _ h => h)
    simpa [List.range_eq_range'] using this
  | .region id ops true, _ => hX.dreg id ops
  | .seq a b, hn => seq_ok (code_ok hC hF hX a (hn.imp id fun h => by simp [ndC] at h; exact h.1)) (code_ok hC hF hX b (hn.imp id fun h => by simp [ndC] at h; exact h.2))
  | .cond c a b, hn => by
    have ha := code_ok hC hF hX a (hn.imp id fun h => by simp [ndC] at h; exact h.1)
    have hb := code_ok hC hF hX b (hn.imp id fun h => by simp [ndC] at h; exact h.2)
    simp only [lCode]
    split
    · rename_i c' hc
      exact cond_ok hC hc ha hb
    · exact bad_ok
  | .block id b, hn => block_ok (code_ok hC hF hX b (hn.imp (fun h => h) fun h => h))
  | .loop b, hn => by
    have hb := code_ok hC hF hX b (hn.imp (fun h => h) fun h => h)
    simp only [lCode]
    split
    · exact loop_ok hb fuel
    · rename_i m hm
      split
      · rename_i hnd
        exact mloop_ok hC hF hX.dreg hm hnd _
      · exact bad_ok
  | .rangeFunc f ps a b, hn => hX.range (hn.elim (fun h => h) (fun h => by cases h)) f ps a b
  | .exit id, _ => by
    intro e d σ x e' d' σ' h B φ w a hB hW hE hD
    cases h
    exact wpIn_exit ⟨φ, rfl, hE, hD, Go1.refl hW⟩
  | .scope b, hn => scope_ok (code_ok hC hF hX b (hn.imp (fun h => h) fun h => h))
  | .ret, _ => by
    intro e d σ x e' d' σ' h B φ w a hB hW hE hD
    cases h
    exact wpIn_ret ⟨φ, trivial, hE, hD, Go1.refl hW⟩
  | .goto l, _ => bad_ok
  | .refuse l, _ => bad_ok
end
end Go.Ev
