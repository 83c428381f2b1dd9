/-
Proved here: the evaluator over the program, and the words of the law's body.
Conditions: none beyond those that the statements name.
-/
import Derived.KernelRfl
import Derived.Below
import Derived.Test.YtiljcnaeckeilaaGreatDoorTbC
import Derived.Test.YtiljcnaeckeilaaGreatDoorEvH
import Derived.Test.YtiljcnaeckeilaaGreatDoorWlk
set_option maxRecDepth 100000
namespace Go.Ev.Tb
open Go Go.Ev Go.Proofs
noncomputable abbrev zz : AV := .int .i64 (.ofNat 0)
noncomputable abbrev mm : AV := .int .i64 (.negSucc 0)
noncomputable abbrev ee : AV := .str 0 0
noncomputable def base : Cf := ⟨fun t => bcond (Nat.beq t 411) (some .i) (bcond (Nat.beq t 9) (some .s) none), fun _ _ _ => none, fun _ _ => none, fun _ _ => none, fun _ _ _ => .bad, fun _ _ _ => .bad⟩
theorem base_hint {ρ : Nat → Value} : HintOk ρ base := ⟨fun _ _ _ _ h => (nomatch h), fun _ _ _ h => (nomatch h), fun _ _ _ h => (nomatch h)⟩
theorem prim411 : primT Tryz.prog 411 = some .i := by kernel_rfl
theorem prim9 : primT Tryz.prog 9 = some .s := by kernel_rfl
noncomputable def cmpB (t : Nat) : Bool := match Tryz.prog.info? t with | some i => i.comparable | none => false
theorem cmp411 : cmpB 411 = true := by kernel_rfl
theorem cmp9 : cmpB 9 = true := by kernel_rfl
theorem cmpB_ok {t : Nat} (h : cmpB t = true) : ∃ i, Tryz.prog.info? t = some i ∧ i.comparable = true := by
  unfold cmpB at h
  split at h
  · rename_i i hi; exact ⟨i, hi, h⟩
  · cases h
theorem base_prim : PrimOk Tryz.prog base := by
  intro t pk h
  have h : bcond (Nat.beq t 411) (some PK.i) (bcond (Nat.beq t 9) (some .s) none) = some pk := h
  rw [bcond_eq] at h
  split at h
  · rename_i hb
    have := Nat.eq_of_beq_eq_true hb
    subst this; cases h
    exact ⟨prim411, cmpB_ok cmp411⟩
  · rw [bcond_eq] at h
    split at h
    · rename_i hb
      have := Nat.eq_of_beq_eq_true hb
      subst this; cases h
      exact ⟨prim9, cmpB_ok cmp9⟩
    · cases h
theorem mixed : Tryz.prog.follows .mixedOrders = true := by kernel_rfl
noncomputable def cfOf (sum : Nat → List AV → St → CR) : Cf := allQ base tab.get sum 1000 60
theorem cfOf_ok {ρ : Nat → Value} {w0 : World} (hC : Ctx Tryz.prog ρ w0) {sum : Nat → List AV → St → CR} (hS : CallOk Tryz.prog ρ w0 sum) : CfOk Tryz.prog ρ w0 (cfOf sum) := by
  unfold cfOf
  rw [allQ_eq]
  exact evAll_cf mixed hC base_hint base_prim tab_ok hS 1000 60
noncomputable def go (sum : Nat → List AV → St → CR) (f : Nat) (args : List AV) : Option AV := valOf ((cfOf sum).call f args ⟨.lf, .xH⟩)
theorem go_ok {ρ : Nat → Value} {w0 : World} (hC : Ctx Tryz.prog ρ w0) {sum : Nat → List AV → St → CR} (hS : CallOk Tryz.prog ρ w0 sum) {f : Nat} {args : List AV} {v : AV} (h : go sum f args = some v)
    (h1 : AV.grL args = true) (h2 : v.gr = true) : EntOk Tryz.prog ρ w0 (f, args, v) := by
  obtain ⟨σ', h⟩ := valOf_some h
  exact ⟨h1, h2, _, σ', (cfOf_ok hC hS).call, h⟩
noncomputable def sum0 : Nat → List AV → St → CR := sumT [idxEnt] fun _ _ _ => .bad
end Go.Ev.Tb
set_option maxRecDepth 100000
namespace Go.Ev.Tb
open Go Go.Ev Go.Proofs

/-! the law's body with a symbolic operator and symbolic values. Class 0: the ten binary operators; class 1: not, class 2: neg -/
noncomputable def inB (n : Int) : Bool := Int.rec (fun m => bcond (Nat.ble 5 m) (Nat.ble m 14) false) (fun _ => false) n
noncomputable def opOf (c : Nat) : AV := Nat.rec (.sym 3) (fun m _ => .int .i64 (.ofNat (Nat.add 3 m))) c
noncomputable def isZ (n : Int) : Bool := Int.rec (fun m => Nat.beq m 0) (fun _ => false) n
noncomputable def s3 (c s : Nat) : Bool := bcond (Nat.beq s 3) (Nat.beq c 0) false
noncomputable def hbC (c : Nat) : BinOp → AV → AV → Option AV
  | .rem, .sym s, .int .u8 n => bcond (Nat.beq s 0) (Int.rec (fun m => bcond (Nat.beq m 12) (some (.sym 1)) none) (fun _ => none) n) none
  | .add, .int .i64 n, .sym s => bcond (Nat.beq s 2) (Int.rec (fun m => bcond (Nat.beq m 3) (some (opOf c)) none) (fun _ => none) n) none
  | .eql, .sym s, .int .i64 n => bcond (s3 c s) (bcond (inB n) none (some (.bool false))) (bcond (bcond (Nat.beq s 4) true (Nat.beq s 7)) (bcond (isZ n) (some (.bool false)) none) none)
  | .eql, .int .i64 n, .sym s => bcond (s3 c s) (bcond (inB n) none (some (.bool false))) none
  | .neq, .sym s, .int .i64 n => bcond (s3 c s) (bcond (inB n) none (some (.bool true))) none
  | _, _, _ => none
noncomputable def hcC : IntKind → AV → Option AV
  | .i64, .sym s => bcond (Nat.beq s 1) (some (.sym 2)) none
  | _, _ => none
noncomputable def hsC : AV → AV → Option Bool
  | .sym s, .sym t => bcond (Nat.beq s t) (bcond (bcond (Nat.beq s 12) true (Nat.beq s 13)) (some true) none) none
  | _, _ => none
noncomputable def baseC (c : Nat) : Cf := { base with hb := hbC c, hc := hcC, hs := hsC }
structure Rho (ρ : Nat → Value) (c : Nat) : Prop where
  n : ∃ n : Nat, n < 256 ∧ ρ 0 = .int .u8 n ∧ ρ 1 = .int .u8 (n % 12 : Nat) ∧ ρ 2 = .int .i64 (n % 12 : Nat) ∧ ρ 3 = .int .i64 (3 + n % 12 : Nat) ∧ (c = 0 → 2 ≤ n % 12) ∧ (c ≠ 0 → n % 12 + 1 = c)
  ka : ∃ k : Int, k ≠ 0 ∧ ρ 4 = .int .i64 k
  kb : ∃ k : Int, k ≠ 0 ∧ ρ 7 = .int .i64 k
  sv : ∃ s, ρ 12 = .string s
  st : ∃ s, ρ 13 = .string s
theorem _root_.Go.Ev.VR.sym_eq {ρ : Nat → Value} {φ : Key → Option Pl} {k : Nat} {v : Value} (h : VR ρ φ (.sym k) v) : v = ρ k := by cases h; rfl
theorem _root_.Go.Ev.VR.int_eq {ρ : Nat → Value} {φ : Key → Option Pl} {k : IntKind} {n : Int} {v : Value} (h : VR ρ φ (.int k n) v) : v = .int k n := by cases h; rfl
theorem wrap_small (n : Nat) (hn : n < 100) : IntKind.wrap .i64 (n : Int) = n := by
  simp only [IntKind.wrap, IntKind.bits, IntKind.signed]
  simp
  omega
theorem eqlRun (k : IntKind) (a b : Int) (P : Program) (t : TypeId) (u : World) : (binOp .eql t (.int k a) (.int k b)).run P u = .ok (.bool (a == b)) u := by simp [binOp, Op.intCmp]
theorem neqRun (k : IntKind) (a b : Int) (P : Program) (t : TypeId) (u : World) : (binOp .neq t (.int k a) (.int k b)).run P u = .ok (.bool (a != b)) u := by simp [binOp, Op.intCmp]
theorem remRun (n : Nat) (hn : n < 256) (P : Program) (t : TypeId) (u : World) : (binOp .rem t (.int .u8 n) (.int .u8 12)).run P u = .ok (.int .u8 (n % 12 : Nat)) u := by
  have h : Int.tmod (n : Int) 12 = (n : Int) % 12 := Int.tmod_eq_emod_of_nonneg (by omega)
  simp [binOp, Op.intDiv, h]
theorem addRun (n : Nat) (hn : n < 12) (P : Program) (t : TypeId) (u : World) : (binOp .add t (.int .i64 3) (.int .i64 n)).run P u = .ok (.int .i64 (3 + n : Nat)) u := by
  have h := wrap_small (3 + n) (by omega)
  simp only [Int.natCast_add] at h
  simp [binOp, Op.intArith]
  exact h
theorem hintC {ρ : Nat → Value} {c : Nat} (hR : Rho ρ c) : HintOk ρ (baseC c) := by
  obtain ⟨⟨n, hn, r0, r1, r2, r3, hc0, hc1⟩, ⟨ka, ka0, r4⟩, ⟨kb, kb0, r7⟩, ⟨sv, r12⟩, ⟨st, r13⟩⟩ := hR
  have notB : ∀ m : Int, inB m = false → c = 0 → ((3 + n % 12 : Nat) : Int) ≠ m := by
    intro m hm hc e
    have h2 := hc0 hc
    have : n % 12 < 12 := Nat.mod_lt _ (by omega)
    rw [← e] at hm
    have hm : bcond (Nat.ble 5 (3 + n % 12)) (Nat.ble (3 + n % 12) 14) false = false := hm
    rw [bcond_eq, if_pos (Nat.ble_eq ▸ (show 5 ≤ 3 + n % 12 by omega))] at hm
    have h14 : Nat.ble (3 + n % 12) 14 = true := Nat.ble_eq ▸ (show 3 + n % 12 ≤ 14 by omega)
    rw [hm] at h14; cases h14
  have is3 : ∀ {s}, s3 c s = true → s = 3 ∧ c = 0 := by
    intro s h
    obtain ⟨h1, h2⟩ := bcond_and h
    exact ⟨Nat.eq_of_beq_eq_true h1, Nat.eq_of_beq_eq_true h2⟩
  have z : ∀ {m : Int}, isZ m = true → m = 0 := by
    intro m h
    cases m with
    | ofNat m => have := Nat.eq_of_beq_eq_true (show Nat.beq m 0 = true from h); subst this; rfl
    | negSucc m => cases h
  refine ⟨?_, ?_, ?_⟩
  · intro op x y r h' φ v w hv hw
    have h : hbC c op x y = some r := h'
    clear h'
    unfold hbC at h
    split at h
    · rename_i s m
      rw [bcond_eq] at h
      split at h
      · rename_i hs
        have := Nat.eq_of_beq_eq_true hs; subst this
        cases m with
        | negSucc m => cases h
        | ofNat m =>
          have h : bcond (Nat.beq m 12) (some (AV.sym 1)) none = some r := h
          rw [bcond_eq] at h
          split at h
          · rename_i hm
            have := Nat.eq_of_beq_eq_true hm; subst this
            cases h
            rw [hv.sym_eq, hw.int_eq, r0]
            refine ⟨.u8, n, 12, rfl, rfl, by simp, by simp, ρ 1, .sym _, fun P t u => ?_⟩
            rw [r1]
            exact remRun n hn P t u
          · cases h
      · cases h
    · rename_i m s
      rw [bcond_eq] at h
      split at h
      · rename_i hs
        have := Nat.eq_of_beq_eq_true hs; subst this
        cases m with
        | negSucc m => cases h
        | ofNat m =>
          have h : bcond (Nat.beq m 3) (some (opOf c)) none = some r := h
          rw [bcond_eq] at h
          split at h
          · rename_i hm
            have := Nat.eq_of_beq_eq_true hm; subst this
            cases h
            rw [hv.int_eq, hw.sym_eq, r2]
            refine ⟨.i64, 3, (n % 12 : Nat), rfl, rfl, by simp, by simp, ρ 3, ?_, fun P t u => ?_⟩
            · cases c with
              | zero => exact .sym _
              | succ d =>
                have := hc1 (by omega)
                have e : n % 12 = d := by omega
                rw [r3, e]
                exact .int _ _
            · rw [r3]
              exact addRun _ (Nat.mod_lt _ (by omega)) P t u
          · cases h
      · cases h
    · rename_i s m
      rw [bcond_eq] at h
      split at h
      · rename_i hs
        obtain ⟨rfl, hc⟩ := is3 hs
        rw [bcond_eq] at h
        split at h
        · cases h
        · rename_i hb
          cases h
          rw [hv.sym_eq, hw.int_eq, r3]
          refine ⟨.i64, _, m, rfl, rfl, by simp, by simp, .bool false, .bool _, fun P t u => ?_⟩
          rw [eqlRun]
          have := notB m (by simpa using hb) hc
          rw [show (((3 + n % 12 : Nat) : Int) == m) = false from by simpa using this]
      · rw [bcond_eq] at h
        split at h
        · rename_i hs
          rw [bcond_eq] at h
          split at h
          · rename_i hz
            cases h
            have := z hz; subst this
            rw [bcond_eq] at hs
            split at hs
            · rename_i h4
              have := Nat.eq_of_beq_eq_true h4; subst this
              rw [hv.sym_eq, hw.int_eq, r4]
              refine ⟨.i64, _, 0, rfl, rfl, by simp, by simp, .bool false, .bool _, fun P t u => ?_⟩
              rw [eqlRun, show (ka == 0) = false from by simpa using ka0]
            · have := Nat.eq_of_beq_eq_true hs; subst this
              rw [hv.sym_eq, hw.int_eq, r7]
              refine ⟨.i64, _, 0, rfl, rfl, by simp, by simp, .bool false, .bool _, fun P t u => ?_⟩
              rw [eqlRun, show (kb == 0) = false from by simpa using kb0]
          · cases h
        · cases h
    · rename_i m s
      rw [bcond_eq] at h
      split at h
      · rename_i hs
        obtain ⟨rfl, hc⟩ := is3 hs
        rw [bcond_eq] at h
        split at h
        · cases h
        · rename_i hb
          cases h
          rw [hv.int_eq, hw.sym_eq, r3]
          refine ⟨.i64, m, _, rfl, rfl, by simp, by simp, .bool false, .bool _, fun P t u => ?_⟩
          rw [eqlRun]
          have := notB m (by simpa using hb) hc
          rw [show (m == ((3 + n % 12 : Nat) : Int)) = false from by simpa using fun e => this e.symm]
      · cases h
    · rename_i s m
      rw [bcond_eq] at h
      split at h
      · rename_i hs
        obtain ⟨rfl, hc⟩ := is3 hs
        rw [bcond_eq] at h
        split at h
        · cases h
        · rename_i hb
          cases h
          rw [hv.sym_eq, hw.int_eq, r3]
          refine ⟨.i64, _, m, rfl, rfl, by simp, by simp, .bool true, .bool _, fun P t u => ?_⟩
          rw [neqRun]
          have := notB m (by simpa using hb) hc
          rw [show (((3 + n % 12 : Nat) : Int) != m) = true from by simpa using this]
      · cases h
    · cases h
  · intro k x r h' φ v hv
    have h : hcC k x = some r := h'
    clear h'
    unfold hcC at h
    split at h
    · rw [bcond_eq] at h
      split at h
      · rename_i hs
        have := Nat.eq_of_beq_eq_true hs; subst this
        cases h
        rw [hv.sym_eq, r1]
        refine ⟨.u8, _, rfl, ?_⟩
        have : IntKind.wrap .i64 ((n % 12 : Nat) : Int) = (n % 12 : Nat) := by
          have : n % 12 < 12 := Nat.mod_lt _ (by omega)
          exact wrap_small _ (by omega)
        rw [this, ← r2]
        exact .sym _
      · cases h
    · cases h
  · intro x y r h φ v w hv hw
    have h : hsC x y = some r := h
    unfold hsC at h
    split at h
    · rename_i s t
      rw [bcond_eq] at h
      split at h
      · rename_i hs
        have := Nat.eq_of_beq_eq_true hs; subst this
        rw [bcond_eq] at h
        split at h
        · rename_i h2
          cases h
          rw [bcond_eq] at h2
          rw [hv.sym_eq, hw.sym_eq]
          split at h2
          · rename_i h3
            have := Nat.eq_of_beq_eq_true h3; subst this
            exact ⟨sv, sv, r12, r12, by simp⟩
          · have := Nat.eq_of_beq_eq_true h2; subst this
            exact ⟨st, st, r13, r13, by simp⟩
        · cases h
      · cases h
    · cases h
end Go.Ev.Tb
set_option maxRecDepth 100000
namespace Go.Ev.Tb
open Go Go.Ev Go.Proofs
noncomputable def cfC (c : Nat) (sum : Nat → List AV → St → CR) : Cf := allQ (baseC c) tab.get sum 1000 60
section
variable {ρ : Nat → Value} {w0 : World} {c : Nat}
theorem cfC_ok (hC : Ctx Tryz.prog ρ w0) (hR : Rho ρ c) {sum : Nat → List AV → St → CR} (hS : CallOk Tryz.prog ρ w0 sum) : CfOk Tryz.prog ρ w0 (cfC c sum) := by
  unfold cfC
  rw [allQ_eq]
  exact evAll_cf mixed hC (hintC hR) base_prim tab_ok hS 1000 60
theorem goHC_ok (hC : Ctx Tryz.prog ρ w0) (hR : Rho ρ c) {sum : Nat → List AV → St → CR} (hS : CallOk Tryz.prog ρ w0 sum) {x : HEnt} (h : x.ends ((cfC c sum).call x.f x.args x.start) = some x.v) : HEntOk Tryz.prog ρ w0 x :=
  ⟨_, (cfC_ok hC hR hS).call, h⟩
end
noncomputable def sumX : Nat → List AV → St → CR := sumT digT sum0
/-- lang.Line at the lines of the law's program: a text that is not empty -/
noncomputable def lineA : Ent := (111, [.agg [.int .i64 (.ofNat 1), .str 1 97, .str 0 0, .str 0 0, .str 0 0, .nils, .sym 4, .sym 5, .sym 6]], .ne)
noncomputable def lineB : Ent := (111, [.agg [.int .i64 (.ofNat 1), .str 1 98, .str 0 0, .str 0 0, .str 0 0, .nils, .sym 7, .sym 8, .sym 9]], .ne)
noncomputable def lineO : Ent := (111, [.agg [.sym 3, .str 1 99, .str 1 97, .str 1 98, .str 0 0, .nils, .int .i64 (.ofNat 0), .int .i64 (.ofNat 0), .str 0 0]], .ne)
noncomputable def sumL : Nat → List AV → St → CR := sumT [lineA, lineB, lineO] sumX
noncomputable def sumL1 : Nat → List AV → St → CR := sumT [lineA, lineB] sumX
end Go.Ev.Tb
set_option maxRecDepth 100000
namespace Go.Ev.Tb
open Go Go.Ev Go.Proofs
namespace LwV
noncomputable abbrev h1 : Key := .xH
noncomputable abbrev h2 : Key := .xO .xH
noncomputable abbrev h4 : Key := .xO (.xO .xH)
noncomputable abbrev h5 : Key := .xI (.xO .xH)
noncomputable abbrev h7 : Key := .xI (.xI .xH)
noncomputable def val0 : HEnt := ⟨5, [.ptr h1 0, .int .i64 (.ofNat 0)], [(h1, .cells 26 [.sym 30, .int .i64 (.ofNat 0)])], h2, .agg [.sym 4, .sym 5, .sym 6], [(h1, .cells 26 [.sym 30, .sym 20])], h4⟩
noncomputable def val1 : HEnt := ⟨5, [.ptr h1 0, .int .i64 (.ofNat 0)], [(h1, .cells 26 [.sym 30, .sym 20])], h5, .agg [.sym 7, .sym 8, .sym 9], [(h1, .cells 26 [.sym 30, .sym 21])], h7⟩
end LwV
end Go.Ev.Tb
set_option maxRecDepth 100000
namespace Go.Ev.Tb
open Go Go.Ev Go.Proofs
/-! the sixteen values, the results of operators, and the checks -/
noncomputable def vals : List AV := [.agg [.int .i64 (.ofNat 1), .int .i64 (.ofNat 0), .str 0 0], .agg [.int .i64 (.ofNat 2), .int .i64 (.ofNat 0), .str 0 0], .agg [.int .i64 (.ofNat 2), .int .i64 (.ofNat 1), .str 0 0], .agg [.int .i64 (.ofNat 3), .int .i64 (.negSucc 1), .str 0 0], .agg [.int .i64 (.ofNat 3), .int .i64 (.negSucc 0), .str 0 0], .agg [.int .i64 (.ofNat 3), .int .i64 (.ofNat 0), .str 0 0], .agg [.int .i64 (.ofNat 3), .int .i64 (.ofNat 1), .str 0 0], .agg [.int .i64 (.ofNat 3), .int .i64 (.ofNat 2), .str 0 0], .agg [.int .i64 (.ofNat 3), .int .i64 (.ofNat 3), .str 0 0], .agg [.int .i64 (.ofNat 3), .int .i64 (.ofNat 4), .str 0 0], .agg [.int .i64 (.ofNat 3), .int .i64 (.ofNat 5), .str 0 0], .agg [.int .i64 (.ofNat 3), .int .i64 (.ofNat 6), .str 0 0], .agg [.int .i64 (.ofNat 4), .int .i64 (.ofNat 0), .str 0 0], .agg [.int .i64 (.ofNat 4), .int .i64 (.ofNat 0), .str 1 97], .agg [.int .i64 (.ofNat 4), .int .i64 (.ofNat 0), .str 3 6430819], .agg [.int .i64 (.ofNat 4), .int .i64 (.ofNat 0), .str 4 1954115685]]
noncomputable def R5 : List AV := [.tup [.agg [.int .i64 (.ofNat 0), .int .i64 (.ofNat 0), .str 0 0], .str 4 1954115685], .tup [.agg [.int .i64 (.ofNat 0), .int .i64 (.ofNat 0), .str 0 0], .str 4 2053468783], .tup [.agg [.int .i64 (.ofNat 0), .int .i64 (.ofNat 0), .str 0 0], .str 5 491260897125], .tup [.agg [.int .i64 (.ofNat 2), .int .i64 (.ofNat 0), .str 0 0], .str 0 0], .tup [.agg [.int .i64 (.ofNat 2), .int .i64 (.ofNat 1), .str 0 0], .str 0 0]]
noncomputable def intL : List Int := [.negSucc 11, .negSucc 9, .negSucc 7, .negSucc 6, .negSucc 5, .negSucc 4, .negSucc 3, .negSucc 2, .negSucc 1, .negSucc 0, .ofNat 0, .ofNat 1, .ofNat 2, .ofNat 3, .ofNat 4, .ofNat 5, .ofNat 6, .ofNat 7, .ofNat 8, .ofNat 9, .ofNat 10, .ofNat 11, .ofNat 12, .ofNat 15, .ofNat 16, .ofNat 18, .ofNat 20, .ofNat 24, .ofNat 25, .ofNat 30, .ofNat 36]
noncomputable def strL : List (Nat × Nat) := [(0, 0), (1, 97), (2, 24929), (4, 1633820771), (5, 418565943397), (3, 6430819), (4, 1646289761), (6, 107891245850723), (7, 27620159245611109), (4, 1954115685), (5, 500253615457), (7, 32784620942663779), (8, 8392862961629753445)]
noncomputable def mkI (m : Int) : AV := .tup [.agg [.int .i64 (.ofNat 3), .int .i64 m, .str 0 0], .str 0 0]
noncomputable def mkS (s : Nat × Nat) : AV := .tup [.agg [.int .i64 (.ofNat 4), .int .i64 (.ofNat 0), .str s.1 s.2], .str 0 0]
noncomputable def RL : List AV := [.tup [.agg [.int .i64 (.ofNat 0), .int .i64 (.ofNat 0), .str 0 0], .str 4 1954115685], .tup [.agg [.int .i64 (.ofNat 0), .int .i64 (.ofNat 0), .str 0 0], .str 4 2053468783], .tup [.agg [.int .i64 (.ofNat 0), .int .i64 (.ofNat 0), .str 0 0], .str 5 491260897125], .tup [.agg [.int .i64 (.ofNat 2), .int .i64 (.ofNat 0), .str 0 0], .str 0 0], .tup [.agg [.int .i64 (.ofNat 2), .int .i64 (.ofNat 1), .str 0 0], .str 0 0], .tup [.agg [.int .i64 (.ofNat 4), .int .i64 (.ofNat 0), .str 0 0], .str 0 0], .tup [.agg [.int .i64 (.ofNat 4), .int .i64 (.ofNat 0), .str 1 97], .str 0 0], .tup [.agg [.int .i64 (.ofNat 4), .int .i64 (.ofNat 0), .str 2 24929], .str 0 0], .tup [.agg [.int .i64 (.ofNat 4), .int .i64 (.ofNat 0), .str 4 1633820771], .str 0 0], .tup [.agg [.int .i64 (.ofNat 4), .int .i64 (.ofNat 0), .str 5 418565943397], .str 0 0], .tup [.agg [.int .i64 (.ofNat 4), .int .i64 (.ofNat 0), .str 3 6430819], .str 0 0], .tup [.agg [.int .i64 (.ofNat 4), .int .i64 (.ofNat 0), .str 4 1646289761], .str 0 0], .tup [.agg [.int .i64 (.ofNat 4), .int .i64 (.ofNat 0), .str 6 107891245850723], .str 0 0], .tup [.agg [.int .i64 (.ofNat 4), .int .i64 (.ofNat 0), .str 7 27620159245611109], .str 0 0], .tup [.agg [.int .i64 (.ofNat 4), .int .i64 (.ofNat 0), .str 4 1954115685], .str 0 0], .tup [.agg [.int .i64 (.ofNat 4), .int .i64 (.ofNat 0), .str 5 500253615457], .str 0 0], .tup [.agg [.int .i64 (.ofNat 4), .int .i64 (.ofNat 0), .str 7 32784620942663779], .str 0 0], .tup [.agg [.int .i64 (.ofNat 4), .int .i64 (.ofNat 0), .str 8 8392862961629753445], .str 0 0], .tup [.agg [.int .i64 (.ofNat 3), .int .i64 (.negSucc 11), .str 0 0], .str 0 0], .tup [.agg [.int .i64 (.ofNat 3), .int .i64 (.negSucc 9), .str 0 0], .str 0 0], .tup [.agg [.int .i64 (.ofNat 3), .int .i64 (.negSucc 7), .str 0 0], .str 0 0], .tup [.agg [.int .i64 (.ofNat 3), .int .i64 (.negSucc 6), .str 0 0], .str 0 0], .tup [.agg [.int .i64 (.ofNat 3), .int .i64 (.negSucc 5), .str 0 0], .str 0 0], .tup [.agg [.int .i64 (.ofNat 3), .int .i64 (.negSucc 4), .str 0 0], .str 0 0], .tup [.agg [.int .i64 (.ofNat 3), .int .i64 (.negSucc 3), .str 0 0], .str 0 0], .tup [.agg [.int .i64 (.ofNat 3), .int .i64 (.negSucc 2), .str 0 0], .str 0 0], .tup [.agg [.int .i64 (.ofNat 3), .int .i64 (.negSucc 1), .str 0 0], .str 0 0], .tup [.agg [.int .i64 (.ofNat 3), .int .i64 (.negSucc 0), .str 0 0], .str 0 0], .tup [.agg [.int .i64 (.ofNat 3), .int .i64 (.ofNat 0), .str 0 0], .str 0 0], .tup [.agg [.int .i64 (.ofNat 3), .int .i64 (.ofNat 1), .str 0 0], .str 0 0], .tup [.agg [.int .i64 (.ofNat 3), .int .i64 (.ofNat 2), .str 0 0], .str 0 0], .tup [.agg [.int .i64 (.ofNat 3), .int .i64 (.ofNat 3), .str 0 0], .str 0 0], .tup [.agg [.int .i64 (.ofNat 3), .int .i64 (.ofNat 4), .str 0 0], .str 0 0], .tup [.agg [.int .i64 (.ofNat 3), .int .i64 (.ofNat 5), .str 0 0], .str 0 0], .tup [.agg [.int .i64 (.ofNat 3), .int .i64 (.ofNat 6), .str 0 0], .str 0 0], .tup [.agg [.int .i64 (.ofNat 3), .int .i64 (.ofNat 7), .str 0 0], .str 0 0], .tup [.agg [.int .i64 (.ofNat 3), .int .i64 (.ofNat 8), .str 0 0], .str 0 0], .tup [.agg [.int .i64 (.ofNat 3), .int .i64 (.ofNat 9), .str 0 0], .str 0 0], .tup [.agg [.int .i64 (.ofNat 3), .int .i64 (.ofNat 10), .str 0 0], .str 0 0], .tup [.agg [.int .i64 (.ofNat 3), .int .i64 (.ofNat 11), .str 0 0], .str 0 0], .tup [.agg [.int .i64 (.ofNat 3), .int .i64 (.ofNat 12), .str 0 0], .str 0 0], .tup [.agg [.int .i64 (.ofNat 3), .int .i64 (.ofNat 15), .str 0 0], .str 0 0], .tup [.agg [.int .i64 (.ofNat 3), .int .i64 (.ofNat 16), .str 0 0], .str 0 0], .tup [.agg [.int .i64 (.ofNat 3), .int .i64 (.ofNat 18), .str 0 0], .str 0 0], .tup [.agg [.int .i64 (.ofNat 3), .int .i64 (.ofNat 20), .str 0 0], .str 0 0], .tup [.agg [.int .i64 (.ofNat 3), .int .i64 (.ofNat 24), .str 0 0], .str 0 0], .tup [.agg [.int .i64 (.ofNat 3), .int .i64 (.ofNat 25), .str 0 0], .str 0 0], .tup [.agg [.int .i64 (.ofNat 3), .int .i64 (.ofNat 30), .str 0 0], .str 0 0], .tup [.agg [.int .i64 (.ofNat 3), .int .i64 (.ofNat 36), .str 0 0], .str 0 0]]
theorem RL_eq : RL = R5 ++ (strL.map mkS ++ intL.map mkI) := rfl
noncomputable def RI : List AV := [.tup [.agg [.int .i64 (.ofNat 0), .int .i64 (.ofNat 0), .str 0 0], .str 4 1954115685], .tup [.agg [.int .i64 (.ofNat 3), .int .i64 (.negSucc 11), .str 0 0], .str 0 0], .tup [.agg [.int .i64 (.ofNat 3), .int .i64 (.negSucc 9), .str 0 0], .str 0 0], .tup [.agg [.int .i64 (.ofNat 3), .int .i64 (.negSucc 7), .str 0 0], .str 0 0], .tup [.agg [.int .i64 (.ofNat 3), .int .i64 (.negSucc 6), .str 0 0], .str 0 0], .tup [.agg [.int .i64 (.ofNat 3), .int .i64 (.negSucc 5), .str 0 0], .str 0 0], .tup [.agg [.int .i64 (.ofNat 3), .int .i64 (.negSucc 4), .str 0 0], .str 0 0], .tup [.agg [.int .i64 (.ofNat 3), .int .i64 (.negSucc 3), .str 0 0], .str 0 0], .tup [.agg [.int .i64 (.ofNat 3), .int .i64 (.negSucc 2), .str 0 0], .str 0 0], .tup [.agg [.int .i64 (.ofNat 3), .int .i64 (.negSucc 1), .str 0 0], .str 0 0], .tup [.agg [.int .i64 (.ofNat 3), .int .i64 (.negSucc 0), .str 0 0], .str 0 0], .tup [.agg [.int .i64 (.ofNat 3), .int .i64 (.ofNat 0), .str 0 0], .str 0 0], .tup [.agg [.int .i64 (.ofNat 3), .int .i64 (.ofNat 1), .str 0 0], .str 0 0], .tup [.agg [.int .i64 (.ofNat 3), .int .i64 (.ofNat 2), .str 0 0], .str 0 0], .tup [.agg [.int .i64 (.ofNat 3), .int .i64 (.ofNat 3), .str 0 0], .str 0 0], .tup [.agg [.int .i64 (.ofNat 3), .int .i64 (.ofNat 4), .str 0 0], .str 0 0], .tup [.agg [.int .i64 (.ofNat 3), .int .i64 (.ofNat 5), .str 0 0], .str 0 0], .tup [.agg [.int .i64 (.ofNat 3), .int .i64 (.ofNat 6), .str 0 0], .str 0 0], .tup [.agg [.int .i64 (.ofNat 3), .int .i64 (.ofNat 7), .str 0 0], .str 0 0], .tup [.agg [.int .i64 (.ofNat 3), .int .i64 (.ofNat 8), .str 0 0], .str 0 0], .tup [.agg [.int .i64 (.ofNat 3), .int .i64 (.ofNat 9), .str 0 0], .str 0 0], .tup [.agg [.int .i64 (.ofNat 3), .int .i64 (.ofNat 10), .str 0 0], .str 0 0], .tup [.agg [.int .i64 (.ofNat 3), .int .i64 (.ofNat 11), .str 0 0], .str 0 0], .tup [.agg [.int .i64 (.ofNat 3), .int .i64 (.ofNat 12), .str 0 0], .str 0 0], .tup [.agg [.int .i64 (.ofNat 3), .int .i64 (.ofNat 15), .str 0 0], .str 0 0], .tup [.agg [.int .i64 (.ofNat 3), .int .i64 (.ofNat 16), .str 0 0], .str 0 0], .tup [.agg [.int .i64 (.ofNat 3), .int .i64 (.ofNat 18), .str 0 0], .str 0 0], .tup [.agg [.int .i64 (.ofNat 3), .int .i64 (.ofNat 20), .str 0 0], .str 0 0], .tup [.agg [.int .i64 (.ofNat 3), .int .i64 (.ofNat 24), .str 0 0], .str 0 0], .tup [.agg [.int .i64 (.ofNat 3), .int .i64 (.ofNat 25), .str 0 0], .str 0 0], .tup [.agg [.int .i64 (.ofNat 3), .int .i64 (.ofNat 30), .str 0 0], .str 0 0], .tup [.agg [.int .i64 (.ofNat 3), .int .i64 (.ofNat 36), .str 0 0], .str 0 0]]
theorem RI_eq : RI = R5.take 1 ++ intL.map mkI := rfl
noncomputable def chk2 (o a b : AV) : Bool := optB (go sumX 6 [o, a, b]) fun r => bcond (sameB (go sumX 164 [o, a, b]) r) (memB r RL) false
noncomputable def all2 (o : AV) : Bool := allB (fun a => allB (fun b => chk2 o a b) vals) vals
noncomputable def chk1 (l : List AV) (o a : AV) : Bool := optB (go sumX 7 [o, a]) fun r => bcond (sameB (go sumX 216 [o, a]) r) (memB r l) false
noncomputable def chk6 (o a b : AV) : Bool := sameB (go sumX 6 [o, a, b]) (.tup [.agg [.int .i64 (.ofNat 0), .int .i64 (.ofNat 0), .str 0 0], .str 4 1954115685])
noncomputable def neB : AV → Bool
  | .str l _ => Nat.blt 0 l
  | _ => false
noncomputable def strB : AV → Bool
  | .str l n => Nat.blt n (Nat.pow 256 l)
  | _ => false
noncomputable def cLine (c : Nat) : AV → AV
  | .agg l => .agg (.int .i64 (.ofNat 1) :: .str 1 c :: .str 0 0 :: .str 0 0 :: .str 0 0 :: .nils :: l)
  | _ => .top
noncomputable def oLine (o : Int) : AV := .agg [.int .i64 o, .str 1 99, .str 1 97, .str 1 98, .str 0 0, .nils, .int .i64 (.ofNat 0), .int .i64 (.ofNat 0), .str 0 0]
noncomputable def chkL (x : AV) : Bool := optB (go sumX 111 [x]) neB
noncomputable def chkI (m : Int) : Bool := optB (go sumX 27 [.int .i64 m]) fun r => bcond (sameB (go sumX 98 [.int .i64 m]) r) (strB r) false
end Go.Ev.Tb
namespace Go.Ev.Tb
open Go Go.Ev Go.Proofs
/-- a list of numbers that lies in the given world -/
structure Lst (w0 : World) (sl : Value) (len : Nat) (L : Nat → Int) : Prop where
  lt : len < 4611686018427387904
  ok : ∃ a cap, sl = .slice a len cap ∧ (0 < len → ∃ sb so, a = some ⟨sb, so, none⟩ ∧ sb < w0.heap.size ∧ ∀ i, i < len → w0.cell? ⟨sb, so + i, none⟩ = some (.int .i64 (L i)))
def nxtV (len : Nat) (L : Nat → Int) (k : Nat) (n : Int) : Int × Nat := if k < len then (L k % n, k + 1) else (0, k)
theorem nxtV_range {len : Nat} {L : Nat → Int} {k : Nat} {n : Int} (hn : 0 < n) : 0 ≤ (nxtV len L k n).1 ∧ (nxtV len L k n).1 < n := by
  unfold nxtV
  split
  · exact ⟨Int.emod_nonneg _ (by omega), Int.emod_lt_of_pos _ hn⟩
  · exact ⟨Int.le_refl 0, hn⟩
theorem nxW {w0 : World} {sl : Value} {len : Nat} {L : Nat → Int} (h : Lst w0 sl len L) (k : Nat) {n : Int} (hn : 0 < n) (hn' : n < 100) :
    NxW Tryz.prog w0 14 sl (.int .i64 k) (.int .i64 ((nxtV len L k n).2 : Nat)) n (nxtV len L k n).1 := by
  intro w b o hbase hb h0 h1 hf
  unfold nxtV
  by_cases hk : k < len
  · rw [if_pos hk]
    obtain ⟨a, cap, rfl, h2⟩ := h.ok
    obtain ⟨sb, so, rfl, hlt, hc⟩ := h2 (by omega)
    have hx : w.cell? ⟨sb, so + k, none⟩ = some (.int .i64 (L k)) := by
      have := hc k hk
      unfold World.cell? at this ⊢
      rw [hbase sb hlt]; exact this
    refine (Go.Proofs.YtiljcnaeckeilaaGreatDoor.nxt_in w b o sb so len cap k n (L k) hk h.lt hn hn' h0 h1 hf (by omega) hx).mono ?_
    rintro e w' ⟨rfl, d, rfl⟩
    exact ⟨rfl, d, .inl rfl⟩
  · rw [if_neg hk]
    obtain ⟨a, cap, rfl, _⟩ := h.ok
    refine (Go.Proofs.YtiljcnaeckeilaaGreatDoor.nxt_out w b o a len cap k n (by omega) h0 h1).mono ?_
    rintro e w' ⟨rfl, d, rfl⟩
    exact ⟨rfl, d, .inr ⟨rfl, rfl⟩⟩
end Go.Ev.Tb
set_option maxRecDepth 100000
namespace Go.Ev.Tb
open Go Go.Ev Go.Proofs
section
variable {ρ : Nat → Value} {w0 : World}
structure Setup (ρ : Nat → Value) (w0 : World) : Prop where
  hC : Ctx Tryz.prog ρ w0
  m : ∃ m, w0.cell? ⟨0, 0, none⟩ = some (.int .i64 m)
  d0 : w0.cell? ⟨1, 0, none⟩ = some (.int .u64 1)
  d1 : w0.cell? ⟨1, 1, none⟩ = some (.int .u64 10)
theorem sum0_ok' (S : Setup ρ w0) : CallOk Tryz.prog ρ w0 sum0 := by
  obtain ⟨m, hm⟩ := S.m
  exact idx_ok hm
theorem sumX_ok (S : Setup ρ w0) : CallOk Tryz.prog ρ w0 sumX := sumS_ok (digT_ok S.d0 S.d1) (sum0_ok' S)
theorem goX (S : Setup ρ w0) {f : Nat} {args : List AV} {v : AV} (h : go sumX f args = some v) (h1 : AV.grL args = true) (h2 : v.gr = true) : EntSem Tryz.prog ρ w0 (f, args, v) := (go_ok S.hC (sumX_ok S) h h1 h2).sem
/-- the law's function answers true -/
def Ans (ρ : Nat → Value) (w0 : World) : Prop := Calls Tryz.prog 3 #[ρ 0, ρ 30] w0 fun e w' => e = .returned (.bool true) ∧ RowKit.Below w0.heap.size w0 w'
theorem WR.init : WR Tryz.prog ρ w0 (fun _ => none) ⟨.lf, .xH⟩ w0 := by
  refine ⟨?_, ?_, ?_, fun _ _ => rfl, ?_, Nat.le_refl _⟩
  · intro k b hk; simp only [Tr.get_lf] at hk; cases hk
  · intro k k' b b' _ _ hk; simp only [Tr.get_lf] at hk; cases hk
  · intro k pl hk; cases hk
  · intro k b pl hk; simp only [Tr.get_lf] at hk; cases hk
theorem lawG (S : Setup ρ w0) {c : Nat} (hR : Rho ρ c) {r : HEnt} {tb : List HEnt} {T : List Ent} (hr : HEntSem Tryz.prog ρ w0 r) (h0 : HEntSem Tryz.prog ρ w0 LwV.val0) (h1 : HEntSem Tryz.prog ρ w0 LwV.val1)
    (htb : ∀ x ∈ tb, HEntSem Tryz.prog ρ w0 x) (hT : ∀ x ∈ T, EntSem Tryz.prog ρ w0 x)
    (h : valOf ((cfC c (sumH (r :: LwV.val0 :: LwV.val1 :: tb) (sumT T sumX))).call 3 [.sym 0, .sym 30] ⟨.lf, .xH⟩) = some (.bool true)) : Ans ρ w0 := by
  have hS : CallOk Tryz.prog ρ w0 (sumH (r :: LwV.val0 :: LwV.val1 :: tb) (sumT T sumX)) := by
    refine sumHS_ok (fun x hx => ?_) (sumS_ok hT (sumX_ok S))
    rcases List.mem_cons.1 hx with rfl | hx
    · exact hr
    rcases List.mem_cons.1 hx with rfl | hx
    · exact h0
    rcases List.mem_cons.1 hx with rfl | hx
    · exact h1
    exact htb x hx
  obtain ⟨σ', h⟩ := valOf_some h
  have hk := (cfC_ok S.hC hR hS).call.val 3 _ _ _ _ h (fun _ => none) w0 [ρ 0, ρ 30] WR.init (.cons _ _ _ _ (.sym 0) (.cons _ _ _ _ (.sym 30) .nil)) none
  refine (CallsIn.calls hk (fun k d h => by simp [FR] at h)).mono ?_
  rintro e w ⟨u, φ', rfl, hu, hg⟩
  cases hu
  refine ⟨rfl, hg.os, hg.tape, hg.output, hg.size, fun c hc => hg.keep c hc ?_⟩
  rintro ⟨k, b, pl, h1, _⟩
  have h1 : (Tr.lf : Tr Blk).get k = some b := h1
  rw [Tr.get_lf] at h1; cases h1
end
end Go.Ev.Tb
