/-
Proved here: the contract of the row.
Conditions: none beyond those that the statements name.
-/
import Derived.Test.YtiljcnaeckeilaaGreatDoorCards
import Derived.Test.YtiljcnaeckeilaaGreatDoorTie
import Derived.WalkKit
import Derived.ProofKit
import Derived.OpenShut
import Derived.Carry
import Derived.SizedLaws
import Derived.ChangeSlices
import Derived.Deep.DeepHandedRow
import Derived.Lib.LaidTab
import Derived.Stop.LaidErr
import Derived.Test.YtiljcnaeckeilaaGreatDoorVal
import Derived.Test.YtiljcnaeckeilaaGreatDoorFin
import Derived.Test.YtiljcnaeckeilaaGreatDoorFac
set_option maxRecDepth 100000
namespace Go.Ev.Tb
open Go Go.Ev Go.Proofs

/-! from a world that is shaped to the cells that the evaluator asks -/
noncomputable def rowB (g t : Nat) : Bool :=
  match ((begin Tryz.prog (fun _ _ => 0) default).world.heap[g]?).bind Obj.row? with
  | some (z, u) => Nat.beq u t && Nat.blt 0 z.size
  | none => false
noncomputable def headB (t : Nat) (k : IntKind) : Bool :=
  match Tryz.prog.cellTypes Tryz.prog.depth t with
  | some ts => Nat.blt 0 ts.length && (match ts[0]? with | some u => (match Tryz.prog.underlying u with | some (.int k') => decide (k' = k) | _ => false) | none => false)
  | none => false
theorem shaped_int {W : World} (hS : W.ShapedOpen Tryz.prog) {g t : Nat} {k : IntKind} (hg : g < Tryz.prog.globals.size) (hr : rowB g t = true) (hb : Tryz.prog.buildable t = true) (hh : headB t k = true) :
    ∃ n, W.cell? ⟨g, 0, none⟩ = some (.int k n) := by
  unfold rowB at hr
  split at hr
  · rename_i z u hz
    simp only [Bool.and_eq_true] at hr
    obtain ⟨hu, hsz⟩ := hr
    have hu := Nat.eq_of_beq_eq_true hu
    subst hu
    have hsz : 0 < z.size := Nat.blt_eq ▸ hsz
    obtain ⟨cs, h1, h2, h3⟩ := hS.1 g z u hg hz
    obtain ⟨ts, t1, _, t3⟩ := h3 hb
    have hlt : 0 < cs.size := by omega
    have hc : cs[0]? = some cs[0] := by simp [hlt]
    obtain ⟨u', c1, c2⟩ := t3 0 _ hc
    rw [Nat.zero_mod] at c1
    unfold headB at hh
    rw [t1] at hh
    simp only [Bool.and_eq_true, c1] at hh
    obtain ⟨_, hh⟩ := hh
    split at hh
    · rename_i k' hk
      have := of_decide_eq_true hh
      subst this
      simp only [Cell.ok, hk] at c2
      have : ∃ n, cs[0] = .int k' n := by
        revert c2
        cases cs[0] <;> intro c2 <;> first | exact c2.elim | exact ⟨_, by rw [c2.1]⟩
      obtain ⟨n, hn⟩ := this
      exact ⟨n, by simp [World.cell?, h1, hc, hn]⟩
    · cases hh
  · cases hr
end Go.Ev.Tb
namespace Go.Proofs.YtiljcnaeckeilaaGreatDoor.srcOps
open Go Go.Ev Go.Ev.Tb Go.ChangeShapes Go.WideShapes Go.ChangeAt Go.RowKit

theorem own : ownKnob Tryz.prog.godebug = none := by kernel_rfl
theorem gPow : Tryz.prog.globalNamed "internal/strconv.uint64pow10" = some 1 := by kernel_rfl
theorem gPowType : (Tryz.prog.globals[1]?).map (·.type) = some 386 := by kernel_rfl
theorem gES : Tryz.prog.globalNamed "strconv.ErrSyntax" = some 6 := by kernel_rfl
theorem gESType : (Tryz.prog.globals[6]?).map (·.type) = some 250 := by kernel_rfl
theorem gER : Tryz.prog.globalNamed "strconv.ErrRange" = some 7 := by kernel_rfl
theorem gERType : (Tryz.prog.globals[7]?).map (·.type) = some 250 := by kernel_rfl
theorem star : "*" ++ "errors.errorString" = "*errors.errorString" := by decide
theorem row430 (u : TypeId) (h : Tryz.prog.typeName? 3 u = some "*errors.errorString") : u = 430 :=
  typeName_ptr_named (nm := "errors.errorString") (by rw [star]; kernel_rfl) (by kernel_rfl) (by decide) u (by rw [star]; exact h)
theorem cells386 : Tryz.prog.cellsOf 386 = 20 := by kernel_rfl
theorem cells3 : Tryz.prog.cellsOf 3 = 1 := by kernel_rfl
theorem bytes3 : Tryz.prog.bytesOf 3 = 8 := by kernel_rfl
theorem cells361 : Tryz.prog.cellsOf 361 = 1 := by kernel_rfl
theorem cells432 : Tryz.prog.cellsOf 432 = 1 := by kernel_rfl
theorem cells9 : Tryz.prog.cellsOf 9 = 1 := by kernel_rfl
theorem nGlob : Tryz.prog.globals.size = 8 := by kernel_rfl

/-- the cells that the evaluator asks, from the row's list and the world's shape -/
theorem globs {W : World} (hS : W.ShapedOpen Tryz.prog) (hL : laidMetH Tryz.prog Rows.sourceOperatorsRow.laid W) : ∀ g, g < Tryz.prog.globals.size → ∃ v, W.cell? ⟨g, 0, none⟩ = some v ∧ v.oneCell' = true := by
  have hL : laidMet Tryz.prog Rows.sourceOperatorsRow.laid W := hL
  obtain ⟨a0, s0, hv0, -, -, -⟩ := laid_sentinel hL.tail.tail.tail.tail gER gERType Tryz.underlying250 row430 Tryz.underlying430 Tryz.underlying432 rfl rfl Tryz.underlying9 cells432 cells9
  obtain ⟨a1, s1, hv1, -, -, -⟩ := laid_sentinel hL.tail.tail.tail.tail.tail gES gESType Tryz.underlying250 row430 Tryz.underlying430 Tryz.underlying432 rfl rfl Tryz.underlying9 cells432 cells9
  have h7 := World.var?_cell gER hv0 0
  have h6 := World.var?_cell gES hv1 0
  intro g hg
  have hg8 := hg
  rw [nGlob] at hg8
  have hi : ∀ {t : Nat} {k : IntKind}, rowB g t = true → Tryz.prog.buildable t = true → headB t k = true → ∃ v, W.cell? ⟨g, 0, none⟩ = some v ∧ v.oneCell' = true := by
    intro t k h1 h2 h3
    obtain ⟨n, hn⟩ := shaped_int hS hg h1 h2 h3
    exact ⟨_, hn, rfl⟩
  have : g = 0 ∨ g = 1 ∨ g = 2 ∨ g = 3 ∨ g = 4 ∨ g = 5 ∨ g = 6 ∨ g = 7 := by omega
  rcases this with rfl | rfl | rfl | rfl | rfl | rfl | rfl | rfl
  · exact hi (t := 3) (k := .i64) (by kernel_rfl) (by kernel_rfl) (by kernel_rfl)
  · exact hi (t := 386) (k := .u64) (by kernel_rfl) (by kernel_rfl) (by kernel_rfl)
  · exact hi (t := 409) (k := .u8) (by kernel_rfl) (by kernel_rfl) (by kernel_rfl)
  · exact hi (t := 410) (k := .u8) (by kernel_rfl) (by kernel_rfl) (by kernel_rfl)
  · exact hi (t := 417) (k := .u8) (by kernel_rfl) (by kernel_rfl) (by kernel_rfl)
  · exact hi (t := 420) (k := .u8) (by kernel_rfl) (by kernel_rfl) (by kernel_rfl)
  · exact ⟨_, by simpa using h6, rfl⟩
  · exact ⟨_, by simpa using h7, rfl⟩
theorem maxCell {W : World} (hS : W.ShapedOpen Tryz.prog) : ∃ m, W.cell? ⟨0, 0, none⟩ = some (.int .i64 m) :=
  shaped_int hS (g := 0) (t := 3) (k := .i64) (by rw [nGlob]; omega) (by kernel_rfl) (by kernel_rfl) (by kernel_rfl)
theorem powCells {W : World} (hL : laidMetH Tryz.prog Rows.sourceOperatorsRow.laid W) : W.cell? ⟨1, 0, none⟩ = some (.int .u64 1) ∧ W.cell? ⟨1, 1, none⟩ = some (.int .u64 10) := by
  have hL : laidMet Tryz.prog Rows.sourceOperatorsRow.laid W := hL
  have h : Lib.TabIs Tryz.prog W "internal/strconv.uint64pow10" .u64 [1, 10, 100, 1000, 10000, 100000, 1000000, 10000000, 100000000, 1000000000, 10000000000, 100000000000, 1000000000000, 10000000000000, 100000000000000, 1000000000000000, 10000000000000000, 100000000000000000, 1000000000000000000, 10000000000000000000] :=
    Lib.tabIs_of_head gPow gPowType Tryz.underlying386 Tryz.underlying361 cells361 cells386 hL.tail.tail
  exact ⟨h.cell gPow 0 (by decide), h.cell gPow 1 (by decide)⟩

theorem abody {w0 : World} (hS : w0.ShapedOpen Tryz.prog) (hL : laidMetH Tryz.prog Rows.sourceOperatorsRow.laid w0) {n : Nat} (hn : n < 256) {sl : Value} {len : Nat} {L : Nat → Int} (hl : Lst w0 sl len L) :
    Calls Tryz.prog 3 #[.int .u8 n, sl] w0 fun e w' => e = .returned (.bool true) ∧ Below w0.heap.size w0 w' := by
  obtain ⟨a, ha, k40, k20, hV0⟩ := val0_ex hl
  obtain ⟨b, hb, k41, k21, hV1⟩ := val1_ex hl k20
  obtain ⟨ka, ma, la, na, rfl, _, hfa⟩ := vals_shape a ha
  obtain ⟨kb, mb, lb, nb, rfl, _, hfb⟩ := vals_shape b hb
  have hsl : sl.oneCell' = true := by
    obtain ⟨p, cap, rfl, _⟩ := hl.ok
    rfl
  obtain ⟨m0, hm0⟩ := maxCell hS
  have hp := powCells hL
  obtain ⟨y, hy⟩ : ∃ y : Inp, y = ⟨n, .int .i64 ka, .int .i64 ma, .str la na, .int .i64 kb, .int .i64 mb, .str lb nb, .int .i64 0, .str 0 0, .str 0 0, k20, k21, k40, k41, sl⟩ := ⟨_, rfl⟩
  have yn : y.n = n := by rw [hy]
  have yL : y.L = sl := by rw [hy]
  have y4 : y.a4 = .int .i64 ka := by rw [hy]
  have y5 : y.a5 = .int .i64 ma := by rw [hy]
  have y6 : y.a6 = .str la na := by rw [hy]
  have y7 : y.b7 = .int .i64 kb := by rw [hy]
  have y8 : y.b8 = .int .i64 mb := by rw [hy]
  have y9 : y.b9 = .str lb nb := by rw [hy]
  have z20 : y.k20 = k20 := by rw [hy]
  have z21 : y.k21 = k21 := by rw [hy]
  have z40 : y.k40 = k40 := by rw [hy]
  have z41 : y.k41 = k41 := by rw [hy]
  clear hy
  have hC : ∀ m s t, Ctx Tryz.prog (rho (y.put m s t)) w0 := fun m s t => ⟨fun k => rho_one _ (by show y.L.oneCell' = true; rw [yL]; exact hsl) k, globs hS hL⟩
  have F : Go.Ev.Tb.Frame y w0 := by
    refine ⟨by rw [yn]; exact hn, by rw [y4, y5, y6]; exact ha, by rw [y7, y8, y9]; exact hb, fun m s t => ⟨⟨hC m s t, ⟨m0, hm0⟩, hp.1, hp.2⟩, ?_, ?_⟩⟩
    · refine hV0 _ (hC m s t) ?_ ?_ ?_ ?_
      · show y.L = sl; exact yL
      · show Value.int .i64 y.k40 = _; rw [z40]
      · show Value.int .i64 y.k20 = _; rw [z20]
      · intro φ u hu
        have h4 : VEq (rho (y.put m s t)) (.sym 4) (.int .i64 ka) := .sym trivial (by show gv y.a4 = _; rw [y4])
        have h5 : VEq (rho (y.put m s t)) (.sym 5) (.int .i64 ma) := .sym trivial (by show gv y.a5 = _; rw [y5])
        have h6 : VEq (rho (y.put m s t)) (.sym 6) (.str la na) := .sym hfa (by show gv y.a6 = _; rw [y6])
        exact (VEq.agg (.cons h4 (.cons h5 (.cons h6 (.refl _)))) φ u).2 hu
    · refine hV1 _ (hC m s t) ?_ ?_ ?_ ?_ ?_
      · show y.L = sl; exact yL
      · show Value.int .i64 y.k20 = _; rw [z20]
      · show Value.int .i64 y.k41 = _; rw [z41]
      · show Value.int .i64 y.k21 = _; rw [z21]
      · intro φ u hu
        have h7 : VEq (rho (y.put m s t)) (.sym 7) (.int .i64 kb) := .sym trivial (by show gv y.b7 = _; rw [y7])
        have h8 : VEq (rho (y.put m s t)) (.sym 8) (.int .i64 mb) := .sym trivial (by show gv y.b8 = _; rw [y8])
        have h9 : VEq (rho (y.put m s t)) (.sym 9) (.str lb nb) := .sym hfb (by show gv y.b9 = _; rw [y9])
        exact (VEq.agg (.cons h7 (.cons h8 (.cons h9 (.refl _)))) φ u).2 hu
  have h := Go.Ev.Tb.main F (.int .i64 0) (.str 0 0) (.str 0 0)
  have r0 : rho (y.put (.int .i64 0) (.str 0 0) (.str 0 0)) 0 = .int .u8 n := by show Value.int .u8 y.n = _; rw [yn]
  have r30 : rho (y.put (.int .i64 0) (.str 0 0) (.str 0 0)) 30 = sl := by show y.L = sl; exact yL
  unfold Ans at h
  rw [r0, r30] at h
  exact h

theorem contract (H : Type) (enc : TypeId × Value → H) (W : World) (base : Nat) (args : Array Value) (ds gs : List (DataW H)) (before : List MemPlace)
    (hval : ∀ (j : Nat) t v, Tryz.f3.params[j]? = some t → args[j]? = some v → Value.okWide Tryz.prog W .any base t v)
    (hW : DataW.Whole enc Tryz.prog Tryz.f3.params.toList Rows.sourceOperatorsSpec.vars false W args.toList ds gs before) (hsz : (DataW.weightsEach Tryz.prog (Tryz.f3.params.toList ++ (OpenSpec.ofChange Rows.sourceOperatorsSpec).bare.plain.varTypes Tryz.prog) (ds ++ gs)).all (· ≤ reachBytes) = true)
    (hL : laidMetH Tryz.prog Rows.sourceOperatorsRow.laid W) (hS : W.ShapedOpen Tryz.prog) :
    Calls Tryz.prog 3 args W fun e W' => ∃ v, e = .returned v ∧ Rows.sourceOperatorsSpec.post enc Tryz.prog Tryz.f3 false true false false W args v W' := by
  have hW' := hW
  obtain ⟨p, q, hA0, hV, rfl, hfz, hnd⟩ := hW
  have hA : DataW.TrodAll enc Tryz.prog W 0 (fun _ => true) true Tryz.f3.params.toList args.toList ds p := hA0
  rw [Tryz.params3] at hA hval hsz
  obtain ⟨v0, vs0, d0, ds0, p0, q0, hargs, rfl, rfl, h0, r0⟩ := trodAll_cons hA
  obtain ⟨v1, vs1, d1, ds1, p1, q1, rfl, rfl, rfl, h1, r1⟩ := trodAll_cons r0
  obtain ⟨rfl, rfl, rfl⟩ := trodAll_nil r1
  obtain rfl : args = #[v0, v1] := by cases args; simp_all
  obtain ⟨rfl, rfl⟩ := trodVars_none hV
  obtain ⟨n, rfl, rfl, rfl, wn⟩ := open_int Tryz.underlying5 (hval 0 5 v0 rfl rfl) h0
  obtain ⟨a, len, cap, rfl⟩ := okWide_slice Tryz.underlying22 (hval 1 22 v1 rfl rfl)
  clear hA0
  simp only [List.append_nil, List.nil_append] at hW'
  have hlt : ∀ x ∈ p1, x.block < W.heap.size := fun x hx => by simpa using hW'.lt x hx
  obtain ⟨m, rfl, hm⟩ : ∃ m : Nat, n = (m : Int) ∧ m < 256 := by
    simp [Lit.wf, IntKind.min, IntKind.max, IntKind.signed, IntKind.bits] at wn
    exact ⟨n.toNat, by omega, by omega⟩
  have hl : ∃ L, Lst W (.slice a len cap) len L := by
    obtain ⟨fuel, hf⟩ := h1
    rcases open_ints Tryz.underlying22 Tryz.underlying3 cells3 hf with ⟨hcs, hx⟩ | ⟨a', len', cap', zs, hcs, _, hle, hmx, hz, hx, hcell, hwz⟩
    · simp [Value.cells] at hcs
      obtain ⟨rfl, rfl, rfl⟩ := hcs
      exact ⟨fun _ => 0, by omega, _, _, rfl, fun h => absurd h (by omega)⟩
    · simp [Value.cells] at hcs
      obtain ⟨rfl, rfl, rfl⟩ := hcs
      simp only [if_true] at hz
      simp only [Prod.mk.injEq] at hx
      obtain ⟨rfl, rfl⟩ := hx
      have hbig := sized_slice hsz (j := 1) (t := 22) (e := 3) rfl rfl Tryz.underlying22
      rw [bytes3] at hbig
      have hr2 : reachBytes < 140737488355328 := by decide
      simp only [lits, List.length_map, List.length_take, List.length_drop] at hbig
      refine ⟨fun i => zs.getD i 0, by omega, _, _, rfl, fun hpos => ?_⟩
      obtain ⟨b, off, spot⟩ := a'
      have hc0 := hcell 0 (by omega)
      have hspot : spot = none := by
        cases spot with
        | none => rfl
        | some sp =>
          exfalso
          simp [World.cell?, Addr.add] at hc0
          split at hc0 <;> simp_all
      subst hspot
      refine ⟨b, off, rfl, ?_, fun i hi => ?_⟩
      · refine Nat.lt_of_not_le fun hh => ?_
        have : W.heap[b]? = none := by rw [Array.getElem?_eq_none_iff]; exact hh
        simp [World.cell?, Addr.add, this] at hc0
      · rw [← add_plain]; exact hcell i (by omega)
  obtain ⟨L, hl⟩ := hl
  refine (abody hS hL hm hl).mono fun e W' ⟨he, hb⟩ => ?_
  subst he
  refine ⟨_, rfl, _, _, _, [], p1, [], hW', ?_, ?_, rfl, hb.frame _, fun h => by cases h⟩
  · exact trodAll_cons_mk (shut_bool Tryz.underlying4 _) trodAll_mk0
  · exact trodAll_cons_mk (shut_int Tryz.underlying5 wn) (trodAll_mk1 (Below.trod q1 (by kernel_rfl) (of_decide_eq_true (by kernel_rfl)) h1 hb hlt))
end Go.Proofs.YtiljcnaeckeilaaGreatDoor.srcOps
