/-
Proved here: what Value reads off a list of numbers.
Conditions: none beyond those that the statements name.
-/
import Derived.KernelRfl
import Derived.Test.YtiljcnaeckeilaaGreatDoorBas
import Derived.Test.YtiljcnaeckeilaaGreatDoorSnA
set_option maxRecDepth 100000
namespace Go.Ev.Tb
open Go Go.Ev Go.Proofs

noncomputable def nE (nx : Key) (k0 : AV) (n v : Nat) (k1 : AV) : HEnt := ⟨14, [.ptr .xH 0, .int .i64 (.ofNat n)], [(.xH, .cells 26 [.sym 30, k0])], nx, .int .i64 (.ofNat v), [(.xH, .cells 26 [.sym 30, k1])], nx⟩
noncomputable def vE (k0 : AV) (nx : Key) (s20 : Nat) (a : AV) (ny : Key) : HEnt := ⟨5, [.ptr .xH 0, .int .i64 (.ofNat 0)], [(.xH, .cells 26 [.sym 30, k0])], nx, a, [(.xH, .cells 26 [.sym 30, .sym s20])], ny⟩
noncomputable def nT1 (k0 : AV) (nx : Key) (s20 c : Nat) : List HEnt := [nE nx k0 9 c (.sym s20)]
noncomputable def nT2 (k0 : AV) (nx nx2 : Key) (s40 s20 c n d : Nat) : List HEnt := [nE nx k0 9 c (.sym s40), nE nx2 (.sym s40) n d (.sym s20)]
noncomputable def nS1 (k0 : AV) (nx : Key) (s20 c : Nat) : Nat → List AV → St → CR := sumH (nT1 k0 nx s20 c) fun _ _ _ => .bad
noncomputable def nS2 (k0 : AV) (nx nx2 : Key) (s40 s20 c n d : Nat) : Nat → List AV → St → CR := sumH (nT2 k0 nx nx2 s40 s20 c n d) fun _ _ _ => .bad
noncomputable def vc1 (k0 : AV) (nx nx1 : Key) (s20 : Nat) (ny : Key) (c : Nat) : Bool := sameB ((vE k0 nx s20 (.agg [.int .i64 (.ofNat 1), .int .i64 (.ofNat 0), .str 0 0]) ny).ends ((cfOf (nS1 k0 nx1 s20 c)).call 5 [.ptr .xH 0, .int .i64 (.ofNat 0)] (vE k0 nx s20 (.agg [.int .i64 (.ofNat 1), .int .i64 (.ofNat 0), .str 0 0]) ny).start)) (.agg [.int .i64 (.ofNat 1), .int .i64 (.ofNat 0), .str 0 0])
noncomputable def vc2 (k0 : AV) (nx nx1 : Key) (s40 s20 : Nat) (q : Nat × Nat × Nat × AV × Key × Key) : Bool :=
  sameB ((vE k0 nx s20 q.2.2.2.1 q.2.2.2.2.2).ends ((cfOf (nS2 k0 nx1 q.2.2.2.2.1 s40 s20 q.1 q.2.1 q.2.2.1)).call 5 [.ptr .xH 0, .int .i64 (.ofNat 0)] (vE k0 nx s20 q.2.2.2.1 q.2.2.2.2.2).start)) q.2.2.2.1
noncomputable def vL0 : List (Nat × Nat × Nat × AV × Key × Key) := [(1, 2, 0, .agg [.int .i64 (.ofNat 2), .int .i64 (.ofNat 0), .str 0 0], .xI .xH, .xI .xH), (1, 2, 1, .agg [.int .i64 (.ofNat 2), .int .i64 (.ofNat 1), .str 0 0], .xI .xH, .xI .xH), (2, 9, 0, .agg [.int .i64 (.ofNat 3), .int .i64 (.negSucc 1), .str 0 0], .xI .xH, .xI .xH), (2, 9, 1, .agg [.int .i64 (.ofNat 3), .int .i64 (.negSucc 0), .str 0 0], .xI .xH, .xI .xH), (2, 9, 2, .agg [.int .i64 (.ofNat 3), .int .i64 (.ofNat 0), .str 0 0], .xI .xH, .xI .xH), (2, 9, 3, .agg [.int .i64 (.ofNat 3), .int .i64 (.ofNat 1), .str 0 0], .xI .xH, .xI .xH), (2, 9, 4, .agg [.int .i64 (.ofNat 3), .int .i64 (.ofNat 2), .str 0 0], .xI .xH, .xI .xH), (2, 9, 5, .agg [.int .i64 (.ofNat 3), .int .i64 (.ofNat 3), .str 0 0], .xI .xH, .xI .xH), (2, 9, 6, .agg [.int .i64 (.ofNat 3), .int .i64 (.ofNat 4), .str 0 0], .xI .xH, .xI .xH), (2, 9, 7, .agg [.int .i64 (.ofNat 3), .int .i64 (.ofNat 5), .str 0 0], .xI .xH, .xI .xH), (2, 9, 8, .agg [.int .i64 (.ofNat 3), .int .i64 (.ofNat 6), .str 0 0], .xI .xH, .xI .xH), (3, 9, 0, .agg [.int .i64 (.ofNat 3), .int .i64 (.negSucc 1), .str 0 0], .xI .xH, .xI .xH), (3, 9, 1, .agg [.int .i64 (.ofNat 3), .int .i64 (.negSucc 0), .str 0 0], .xI .xH, .xI .xH), (3, 9, 2, .agg [.int .i64 (.ofNat 3), .int .i64 (.ofNat 0), .str 0 0], .xI .xH, .xI .xH), (3, 9, 3, .agg [.int .i64 (.ofNat 3), .int .i64 (.ofNat 1), .str 0 0], .xI .xH, .xI .xH), (3, 9, 4, .agg [.int .i64 (.ofNat 3), .int .i64 (.ofNat 2), .str 0 0], .xI .xH, .xI .xH), (3, 9, 5, .agg [.int .i64 (.ofNat 3), .int .i64 (.ofNat 3), .str 0 0], .xI .xH, .xI .xH), (3, 9, 6, .agg [.int .i64 (.ofNat 3), .int .i64 (.ofNat 4), .str 0 0], .xI .xH, .xI .xH), (3, 9, 7, .agg [.int .i64 (.ofNat 3), .int .i64 (.ofNat 5), .str 0 0], .xI .xH, .xI .xH), (3, 9, 8, .agg [.int .i64 (.ofNat 3), .int .i64 (.ofNat 6), .str 0 0], .xI .xH, .xI .xH), (4, 4, 0, .agg [.int .i64 (.ofNat 4), .int .i64 (.ofNat 0), .str 0 0], .xO (.xO .xH), .xO (.xO .xH)), (4, 4, 1, .agg [.int .i64 (.ofNat 4), .int .i64 (.ofNat 0), .str 1 97], .xO (.xO .xH), .xO (.xO .xH)), (4, 4, 2, .agg [.int .i64 (.ofNat 4), .int .i64 (.ofNat 0), .str 3 6430819], .xO (.xO .xH), .xO (.xO .xH)), (4, 4, 3, .agg [.int .i64 (.ofNat 4), .int .i64 (.ofNat 0), .str 4 1954115685], .xO (.xO .xH), .xO (.xO .xH))]
theorem vA0 : allB (vc1 (.int .i64 (.ofNat 0)) (.xO .xH) (.xI .xH) 20 (.xI .xH)) [0, 5, 6, 7, 8] = true := by kernel_rfl
theorem vB0 : allB (vc2 (.int .i64 (.ofNat 0)) (.xO .xH) (.xI .xH) 40 20) vL0 = true := by kernel_rfl
noncomputable def vL1 : List (Nat × Nat × Nat × AV × Key × Key) := [(1, 2, 0, .agg [.int .i64 (.ofNat 2), .int .i64 (.ofNat 0), .str 0 0], .xO (.xI .xH), .xO (.xI .xH)), (1, 2, 1, .agg [.int .i64 (.ofNat 2), .int .i64 (.ofNat 1), .str 0 0], .xO (.xI .xH), .xO (.xI .xH)), (2, 9, 0, .agg [.int .i64 (.ofNat 3), .int .i64 (.negSucc 1), .str 0 0], .xO (.xI .xH), .xO (.xI .xH)), (2, 9, 1, .agg [.int .i64 (.ofNat 3), .int .i64 (.negSucc 0), .str 0 0], .xO (.xI .xH), .xO (.xI .xH)), (2, 9, 2, .agg [.int .i64 (.ofNat 3), .int .i64 (.ofNat 0), .str 0 0], .xO (.xI .xH), .xO (.xI .xH)), (2, 9, 3, .agg [.int .i64 (.ofNat 3), .int .i64 (.ofNat 1), .str 0 0], .xO (.xI .xH), .xO (.xI .xH)), (2, 9, 4, .agg [.int .i64 (.ofNat 3), .int .i64 (.ofNat 2), .str 0 0], .xO (.xI .xH), .xO (.xI .xH)), (2, 9, 5, .agg [.int .i64 (.ofNat 3), .int .i64 (.ofNat 3), .str 0 0], .xO (.xI .xH), .xO (.xI .xH)), (2, 9, 6, .agg [.int .i64 (.ofNat 3), .int .i64 (.ofNat 4), .str 0 0], .xO (.xI .xH), .xO (.xI .xH)), (2, 9, 7, .agg [.int .i64 (.ofNat 3), .int .i64 (.ofNat 5), .str 0 0], .xO (.xI .xH), .xO (.xI .xH)), (2, 9, 8, .agg [.int .i64 (.ofNat 3), .int .i64 (.ofNat 6), .str 0 0], .xO (.xI .xH), .xO (.xI .xH)), (3, 9, 0, .agg [.int .i64 (.ofNat 3), .int .i64 (.negSucc 1), .str 0 0], .xO (.xI .xH), .xO (.xI .xH)), (3, 9, 1, .agg [.int .i64 (.ofNat 3), .int .i64 (.negSucc 0), .str 0 0], .xO (.xI .xH), .xO (.xI .xH)), (3, 9, 2, .agg [.int .i64 (.ofNat 3), .int .i64 (.ofNat 0), .str 0 0], .xO (.xI .xH), .xO (.xI .xH)), (3, 9, 3, .agg [.int .i64 (.ofNat 3), .int .i64 (.ofNat 1), .str 0 0], .xO (.xI .xH), .xO (.xI .xH)), (3, 9, 4, .agg [.int .i64 (.ofNat 3), .int .i64 (.ofNat 2), .str 0 0], .xO (.xI .xH), .xO (.xI .xH)), (3, 9, 5, .agg [.int .i64 (.ofNat 3), .int .i64 (.ofNat 3), .str 0 0], .xO (.xI .xH), .xO (.xI .xH)), (3, 9, 6, .agg [.int .i64 (.ofNat 3), .int .i64 (.ofNat 4), .str 0 0], .xO (.xI .xH), .xO (.xI .xH)), (3, 9, 7, .agg [.int .i64 (.ofNat 3), .int .i64 (.ofNat 5), .str 0 0], .xO (.xI .xH), .xO (.xI .xH)), (3, 9, 8, .agg [.int .i64 (.ofNat 3), .int .i64 (.ofNat 6), .str 0 0], .xO (.xI .xH), .xO (.xI .xH)), (4, 4, 0, .agg [.int .i64 (.ofNat 4), .int .i64 (.ofNat 0), .str 0 0], .xI (.xI .xH), .xI (.xI .xH)), (4, 4, 1, .agg [.int .i64 (.ofNat 4), .int .i64 (.ofNat 0), .str 1 97], .xI (.xI .xH), .xI (.xI .xH)), (4, 4, 2, .agg [.int .i64 (.ofNat 4), .int .i64 (.ofNat 0), .str 3 6430819], .xI (.xI .xH), .xI (.xI .xH)), (4, 4, 3, .agg [.int .i64 (.ofNat 4), .int .i64 (.ofNat 0), .str 4 1954115685], .xI (.xI .xH), .xI (.xI .xH))]
theorem vA1 : allB (vc1 (.sym 20) (.xI (.xO .xH)) (.xO (.xI .xH)) 21 (.xO (.xI .xH))) [0, 5, 6, 7, 8] = true := by kernel_rfl
theorem vB1 : allB (vc2 (.sym 20) (.xI (.xO .xH)) (.xO (.xI .xH)) 41 21) vL1 = true := by kernel_rfl
end Go.Ev.Tb
set_option maxRecDepth 100000
namespace Go.Ev.Tb
open Go Go.Ev Go.Proofs

section
variable {w0 : World} {sl : Value} {len : Nat} {L : Nat → Int}
theorem body14 : HasBody Tryz.prog 14 := ⟨_, Tryz.func14, rfl, by rw [show Tryz.f14.name = _ from rfl]; decide⟩
theorem nE_sem (h : Lst w0 sl len L) {ρ : Nat → Value} (h30 : ρ 30 = sl) {k k' : Nat} {k0 k1 : AV} {nx : Key} {n v : Nat} (hn : 0 < n) (hn' : n < 100) (hk0 : ∀ φ u, VR ρ φ k0 u → u = .int .i64 k) (hk1 : ∀ φ, VR ρ φ k1 (.int .i64 k'))
    (hv : (nxtV len L k n).1 = v) (hk : (nxtV len L k n).2 = k') : HEntSem Tryz.prog ρ w0 (nE nx k0 n v k1) := by
  have := nxW h k (n := n) (by omega) (by omega)
  rw [hv, hk, ← h30] at this
  exact nxt_sem body14 hk0 hk1 rfl this
theorem symK {ρ : Nat → Value} {s k : Nat} (h : ρ s = .int .i64 k) : (∀ φ u, VR ρ φ (.sym s) u → u = .int .i64 k) ∧ ∀ φ, VR ρ φ (.sym s) (.int .i64 k) :=
  ⟨fun φ u hu => by rw [hu.sym_eq, h], fun φ => by rw [← h]; exact .sym s⟩
theorem noSumS {ρ : Nat → Value} : CallOk Tryz.prog ρ w0 (fun _ _ _ => .bad) := noSum_ok
theorem v1_sem (h : Lst w0 sl len L) {ρ : Nat → Value} (hC : Ctx Tryz.prog ρ w0) (h30 : ρ 30 = sl) {k k' c s20 : Nat} {k0 : AV} {nx nx1 ny : Key} (hk0 : ∀ φ u, VR ρ φ k0 u → u = .int .i64 k) (h20 : ρ s20 = .int .i64 k')
    (hv : (nxtV len L k 9).1 = c) (hk : (nxtV len L k 9).2 = k') (hc : vc1 k0 nx nx1 s20 ny c = true) : HEntSem Tryz.prog ρ w0 (vE k0 nx s20 (.agg [.int .i64 (.ofNat 1), .int .i64 (.ofNat 0), .str 0 0]) ny) := by
  refine (goH_ok hC (sum := nS1 k0 nx1 s20 c) (sumHS_ok (fun x hx => ?_) noSumS) (sameB_eq hc)).sem
  simp only [nT1, List.mem_cons, List.not_mem_nil, or_false] at hx
  subst hx
  exact nE_sem h h30 (by omega) (by omega) hk0 (symK h20).2 hv hk
theorem v2_sem (h : Lst w0 sl len L) {ρ : Nat → Value} (hC : Ctx Tryz.prog ρ w0) (h30 : ρ 30 = sl) {k k' k'' c n d s40 s20 : Nat} {a k0 : AV} {nx nx1 nx2 ny : Key} (hk0 : ∀ φ u, VR ρ φ k0 u → u = .int .i64 k) (h40 : ρ s40 = .int .i64 k') (h20 : ρ s20 = .int .i64 k'')
    (hn : 0 < n) (hn' : n < 100) (hv : (nxtV len L k 9).1 = c) (hk : (nxtV len L k 9).2 = k') (hv' : (nxtV len L k' n).1 = d) (hk' : (nxtV len L k' n).2 = k'') (hc : vc2 k0 nx nx1 s40 s20 (c, n, d, a, nx2, ny) = true) : HEntSem Tryz.prog ρ w0 (vE k0 nx s20 a ny) := by
  refine (goH_ok hC (sum := nS2 k0 nx1 nx2 s40 s20 c n d) (sumHS_ok (fun x hx => ?_) noSumS) (sameB_eq hc)).sem
  simp only [nT2, List.mem_cons, List.not_mem_nil, or_false] at hx
  rcases hx with rfl | rfl
  · exact nE_sem h h30 (by omega) (by omega) hk0 (symK h40).2 hv hk
  · exact nE_sem h h30 hn hn' (symK h40).1 (symK h20).2 hv' hk'
/-- Value's result and where it leaves the list, whatever the symbols are called -/
theorem val_ex (h : Lst w0 sl len L) (k : Nat) (k0 : AV) (nx nx1 ny1 ny : Key) (s40 s20 : Nat) (vL : List (Nat × Nat × Nat × AV × Key × Key)) (hA : allB (vc1 k0 nx nx1 s20 ny1) [0, 5, 6, 7, 8] = true) (hB : allB (vc2 k0 nx nx1 s40 s20) vL = true)
    (hny : ny1.num ≤ ny.num) (hL : ∀ q ∈ vL, q.2.2.2.2.2.num ≤ ny.num ∧ q.2.2.2.1 ∈ vals)
    (hall : ∀ c n d : Nat, (c = 1 ∧ n = 2 ∨ c = 2 ∧ n = 9 ∨ c = 3 ∧ n = 9 ∨ c = 4 ∧ n = 4) → d < n → ∃ a x y, (c, n, d, a, x, y) ∈ vL) :
    ∃ a ∈ vals, ∃ k40 k20 : Nat, ∀ ρ, Ctx Tryz.prog ρ w0 → ρ 30 = sl → (∀ φ u, VR ρ φ k0 u → u = .int .i64 k) → ρ s40 = .int .i64 k40 → ρ s20 = .int .i64 k20 → HEntSem Tryz.prog ρ w0 (vE k0 nx s20 a ny) := by
  obtain ⟨hr1, hr2⟩ := nxtV_range (len := len) (L := L) (k := k) (n := 9) (by omega)
  obtain ⟨c, hc⟩ : ∃ c : Nat, (nxtV len L k 9).1 = c := ⟨(nxtV len L k 9).1.toNat, by omega⟩
  by_cases h1 : 1 ≤ c ∧ c ≤ 4
  · obtain ⟨n, hn⟩ : ∃ n : Nat, c = 1 ∧ n = 2 ∨ c = 2 ∧ n = 9 ∨ c = 3 ∧ n = 9 ∨ c = 4 ∧ n = 4 := by
      have : c = 1 ∨ c = 2 ∨ c = 3 ∨ c = 4 := by omega
      rcases this with rfl | rfl | rfl | rfl
      · exact ⟨2, by omega⟩
      · exact ⟨9, by omega⟩
      · exact ⟨9, by omega⟩
      · exact ⟨4, by omega⟩
    obtain ⟨hr3, hr4⟩ := nxtV_range (len := len) (L := L) (k := (nxtV len L k 9).2) (n := n) (by omega)
    obtain ⟨d, hd⟩ : ∃ d : Nat, (nxtV len L (nxtV len L k 9).2 n).1 = d := ⟨(nxtV len L (nxtV len L k 9).2 n).1.toNat, by omega⟩
    obtain ⟨a, x, y, hq⟩ := hall c n d hn (by omega)
    have hq' := hL _ hq
    refine ⟨a, hq'.2, (nxtV len L k 9).2, (nxtV len L (nxtV len L k 9).2 n).2, fun ρ hC h30 hk0 h40 h20 => ?_⟩
    exact (v2_sem h hC h30 hk0 h40 h20 (by omega) (by omega) hc rfl hd rfl (allB_mem hB _ hq)).conv (v := a) (ny := ny) (fun _ _ h => h) hq'.1
  · refine ⟨.agg [.int .i64 (.ofNat 1), .int .i64 (.ofNat 0), .str 0 0], by simp [vals], 0, (nxtV len L k 9).2, fun ρ hC h30 hk0 _ h20 => ?_⟩
    refine (v1_sem h hC h30 (ny := ny1) hk0 h20 hc rfl (allB_mem hA _ ?_)).conv (v := .agg [.int .i64 (.ofNat 1), .int .i64 (.ofNat 0), .str 0 0]) (ny := ny) (fun _ _ h => h) hny
    have : c = 0 ∨ c = 5 ∨ c = 6 ∨ c = 7 ∨ c = 8 := by omega
    simpa using this
theorem vLok0 : ∀ q ∈ vL0, q.2.2.2.2.2.num ≤ (.xO (.xO .xH) : Key).num ∧ q.2.2.2.1 ∈ vals := by
  intro q hq
  simp only [vL0, List.mem_cons, List.not_mem_nil, or_false] at hq
  rcases hq with rfl | rfl | rfl | rfl | rfl | rfl | rfl | rfl | rfl | rfl | rfl | rfl | rfl | rfl | rfl | rfl | rfl | rfl | rfl | rfl | rfl | rfl | rfl | rfl <;> exact ⟨by decide, by simp [vals]⟩
theorem vLall0 : ∀ c n d : Nat, (c = 1 ∧ n = 2 ∨ c = 2 ∧ n = 9 ∨ c = 3 ∧ n = 9 ∨ c = 4 ∧ n = 4) → d < n → ∃ a x y, (c, n, d, a, x, y) ∈ vL0 := by
  intro c n d h hd
  rcases h with ⟨rfl, rfl⟩ | ⟨rfl, rfl⟩ | ⟨rfl, rfl⟩ | ⟨rfl, rfl⟩
  · have : d = 0 ∨ d = 1 := by omega
    rcases this with rfl | rfl
    · exact ⟨_, _, _, List.mem_of_getElem? (i := 0) rfl⟩
    · exact ⟨_, _, _, List.mem_of_getElem? (i := 1) rfl⟩
  · have : d = 0 ∨ d = 1 ∨ d = 2 ∨ d = 3 ∨ d = 4 ∨ d = 5 ∨ d = 6 ∨ d = 7 ∨ d = 8 := by omega
    rcases this with rfl | rfl | rfl | rfl | rfl | rfl | rfl | rfl | rfl
    · exact ⟨_, _, _, List.mem_of_getElem? (i := 2) rfl⟩
    · exact ⟨_, _, _, List.mem_of_getElem? (i := 3) rfl⟩
    · exact ⟨_, _, _, List.mem_of_getElem? (i := 4) rfl⟩
    · exact ⟨_, _, _, List.mem_of_getElem? (i := 5) rfl⟩
    · exact ⟨_, _, _, List.mem_of_getElem? (i := 6) rfl⟩
    · exact ⟨_, _, _, List.mem_of_getElem? (i := 7) rfl⟩
    · exact ⟨_, _, _, List.mem_of_getElem? (i := 8) rfl⟩
    · exact ⟨_, _, _, List.mem_of_getElem? (i := 9) rfl⟩
    · exact ⟨_, _, _, List.mem_of_getElem? (i := 10) rfl⟩
  · have : d = 0 ∨ d = 1 ∨ d = 2 ∨ d = 3 ∨ d = 4 ∨ d = 5 ∨ d = 6 ∨ d = 7 ∨ d = 8 := by omega
    rcases this with rfl | rfl | rfl | rfl | rfl | rfl | rfl | rfl | rfl
    · exact ⟨_, _, _, List.mem_of_getElem? (i := 11) rfl⟩
    · exact ⟨_, _, _, List.mem_of_getElem? (i := 12) rfl⟩
    · exact ⟨_, _, _, List.mem_of_getElem? (i := 13) rfl⟩
    · exact ⟨_, _, _, List.mem_of_getElem? (i := 14) rfl⟩
    · exact ⟨_, _, _, List.mem_of_getElem? (i := 15) rfl⟩
    · exact ⟨_, _, _, List.mem_of_getElem? (i := 16) rfl⟩
    · exact ⟨_, _, _, List.mem_of_getElem? (i := 17) rfl⟩
    · exact ⟨_, _, _, List.mem_of_getElem? (i := 18) rfl⟩
    · exact ⟨_, _, _, List.mem_of_getElem? (i := 19) rfl⟩
  · have : d = 0 ∨ d = 1 ∨ d = 2 ∨ d = 3 := by omega
    rcases this with rfl | rfl | rfl | rfl
    · exact ⟨_, _, _, List.mem_of_getElem? (i := 20) rfl⟩
    · exact ⟨_, _, _, List.mem_of_getElem? (i := 21) rfl⟩
    · exact ⟨_, _, _, List.mem_of_getElem? (i := 22) rfl⟩
    · exact ⟨_, _, _, List.mem_of_getElem? (i := 23) rfl⟩
theorem vLok1 : ∀ q ∈ vL1, q.2.2.2.2.2.num ≤ (.xI (.xI .xH) : Key).num ∧ q.2.2.2.1 ∈ vals := by
  intro q hq
  simp only [vL1, List.mem_cons, List.not_mem_nil, or_false] at hq
  rcases hq with rfl | rfl | rfl | rfl | rfl | rfl | rfl | rfl | rfl | rfl | rfl | rfl | rfl | rfl | rfl | rfl | rfl | rfl | rfl | rfl | rfl | rfl | rfl | rfl <;> exact ⟨by decide, by simp [vals]⟩
theorem vLall1 : ∀ c n d : Nat, (c = 1 ∧ n = 2 ∨ c = 2 ∧ n = 9 ∨ c = 3 ∧ n = 9 ∨ c = 4 ∧ n = 4) → d < n → ∃ a x y, (c, n, d, a, x, y) ∈ vL1 := by
  intro c n d h hd
  rcases h with ⟨rfl, rfl⟩ | ⟨rfl, rfl⟩ | ⟨rfl, rfl⟩ | ⟨rfl, rfl⟩
  · have : d = 0 ∨ d = 1 := by omega
    rcases this with rfl | rfl
    · exact ⟨_, _, _, List.mem_of_getElem? (i := 0) rfl⟩
    · exact ⟨_, _, _, List.mem_of_getElem? (i := 1) rfl⟩
  · have : d = 0 ∨ d = 1 ∨ d = 2 ∨ d = 3 ∨ d = 4 ∨ d = 5 ∨ d = 6 ∨ d = 7 ∨ d = 8 := by omega
    rcases this with rfl | rfl | rfl | rfl | rfl | rfl | rfl | rfl | rfl
    · exact ⟨_, _, _, List.mem_of_getElem? (i := 2) rfl⟩
    · exact ⟨_, _, _, List.mem_of_getElem? (i := 3) rfl⟩
    · exact ⟨_, _, _, List.mem_of_getElem? (i := 4) rfl⟩
    · exact ⟨_, _, _, List.mem_of_getElem? (i := 5) rfl⟩
    · exact ⟨_, _, _, List.mem_of_getElem? (i := 6) rfl⟩
    · exact ⟨_, _, _, List.mem_of_getElem? (i := 7) rfl⟩
    · exact ⟨_, _, _, List.mem_of_getElem? (i := 8) rfl⟩
    · exact ⟨_, _, _, List.mem_of_getElem? (i := 9) rfl⟩
    · exact ⟨_, _, _, List.mem_of_getElem? (i := 10) rfl⟩
  · have : d = 0 ∨ d = 1 ∨ d = 2 ∨ d = 3 ∨ d = 4 ∨ d = 5 ∨ d = 6 ∨ d = 7 ∨ d = 8 := by omega
    rcases this with rfl | rfl | rfl | rfl | rfl | rfl | rfl | rfl | rfl
    · exact ⟨_, _, _, List.mem_of_getElem? (i := 11) rfl⟩
    · exact ⟨_, _, _, List.mem_of_getElem? (i := 12) rfl⟩
    · exact ⟨_, _, _, List.mem_of_getElem? (i := 13) rfl⟩
    · exact ⟨_, _, _, List.mem_of_getElem? (i := 14) rfl⟩
    · exact ⟨_, _, _, List.mem_of_getElem? (i := 15) rfl⟩
    · exact ⟨_, _, _, List.mem_of_getElem? (i := 16) rfl⟩
    · exact ⟨_, _, _, List.mem_of_getElem? (i := 17) rfl⟩
    · exact ⟨_, _, _, List.mem_of_getElem? (i := 18) rfl⟩
    · exact ⟨_, _, _, List.mem_of_getElem? (i := 19) rfl⟩
  · have : d = 0 ∨ d = 1 ∨ d = 2 ∨ d = 3 := by omega
    rcases this with rfl | rfl | rfl | rfl
    · exact ⟨_, _, _, List.mem_of_getElem? (i := 20) rfl⟩
    · exact ⟨_, _, _, List.mem_of_getElem? (i := 21) rfl⟩
    · exact ⟨_, _, _, List.mem_of_getElem? (i := 22) rfl⟩
    · exact ⟨_, _, _, List.mem_of_getElem? (i := 23) rfl⟩
theorem val0_ex (h : Lst w0 sl len L) : ∃ a ∈ vals, ∃ k40 k20 : Nat, ∀ ρ, Ctx Tryz.prog ρ w0 → ρ 30 = sl → ρ 40 = .int .i64 k40 → ρ 20 = .int .i64 k20 → (∀ φ u, VR ρ φ a u → VR ρ φ (.agg [.sym 4, .sym 5, .sym 6]) u) → HEntSem Tryz.prog ρ w0 LwV.val0 := by
  obtain ⟨a, ha, k40, k20, hk⟩ := val_ex h 0 (.int .i64 (.ofNat 0)) LwV.h2 (.xI .xH) (.xI .xH) LwV.h4 40 20 vL0 vA0 vB0 (by decide) vLok0 vLall0
  refine ⟨a, ha, k40, k20, fun ρ hC h30 h40 h20 hv => ?_⟩
  exact (hk ρ hC h30 (fun φ u hu => hu.int_eq) h40 h20).conv (v := .agg [.sym 4, .sym 5, .sym 6]) (ny := LwV.h4) hv (Nat.le_refl _)
theorem val1_ex (h : Lst w0 sl len L) (k : Nat) : ∃ a ∈ vals, ∃ k41 k21 : Nat, ∀ ρ, Ctx Tryz.prog ρ w0 → ρ 30 = sl → ρ 20 = .int .i64 k → ρ 41 = .int .i64 k41 → ρ 21 = .int .i64 k21 → (∀ φ u, VR ρ φ a u → VR ρ φ (.agg [.sym 7, .sym 8, .sym 9]) u) → HEntSem Tryz.prog ρ w0 LwV.val1 := by
  obtain ⟨a, ha, k41, k21, hk⟩ := val_ex h k (.sym 20) LwV.h5 (.xO (.xI .xH)) (.xO (.xI .xH)) LwV.h7 41 21 vL1 vA1 vB1 (by decide) vLok1 vLall1
  refine ⟨a, ha, k41, k21, fun ρ hC h30 h20 h41 h21 hv => ?_⟩
  exact (hk ρ hC h30 (symK h20).1 h41 h21).conv (v := .agg [.sym 7, .sym 8, .sym 9]) (ny := LwV.h7) hv (Nat.le_refl _)
end
end Go.Ev.Tb
