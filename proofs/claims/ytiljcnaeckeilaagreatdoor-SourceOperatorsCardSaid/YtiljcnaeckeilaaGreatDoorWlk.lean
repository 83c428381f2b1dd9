/-
Proved here: walks of three functions: Index, the number of digits, Next.
Conditions: none beyond those that the statements name.
-/
import Derived.Test.YtiljcnaeckeilaaGreatDoorProg
import Derived.WalkKit
import Derived.WalkLawsBesides
import Derived.Lib.IndexEntry
import Derived.Lib.Bytealg
import Derived.Laws.Externs
import Derived.Handy
import Derived.KernelRfl
import Derived.BigRegion
import Derived.Deep.QuietTactic
import Derived.BigQuiet
import Derived.Tactics2
import Derived.Test.YtiljcnaeckeilaaGreatDoorEvH
namespace Go.Proofs.YtiljcnaeckeilaaGreatDoor
open Go.RowKit

set_option maxRecDepth 100000 in
set_option maxHeartbeats 4000000 in
theorem idx_walk (m : Int) (w : World) (hm : w.cell? ⟨0, 0, none⟩ = some (.int .i64 m)) :
    Calls Tryz.prog 186 #[.string ⟨#[32, 47, 32]⟩, .string ⟨#[39, 39]⟩] w fun e w' => e = .returned (.int .i64 (-1)) ∧ w' = w := by
  go_enter Tryz.func186, Tryz.ntmps186
  go_wp2
  · have h2 : 2 ≤ m := by assumption
    rw [run_callFunc_extern Tryz.func260 (by kernel_rfl) (by kernel_rfl) (by kernel_rfl) (e := Extern.BytealgIndex.index) (by kernel_rfl),
      Lib.run_indexString ⟨#[32, 47, 32]⟩ ⟨#[39, 39]⟩ w 0 m (by kernel_rfl) hm (by decide) h2 (by decide)]
    go_wp2
    rw [show Lib.index ([32, 47, 32] : List UInt8) [39, 39] = -1 from by decide +kernel]
    go_ret
    exact ⟨rfl, rfl⟩
  · refine wp_loop_rounds 1 ?_
    repeat any_goals (rw [rounds_succ]; go_wp2)
    rw [run_callFunc_extern Tryz.func308 (by kernel_rfl) (by kernel_rfl) (by kernel_rfl) (e := Extern.BytealgIndexByte.indexByte) (by kernel_rfl), Lib.run_indexByteString]
    rw [show Lib.indexByte (({ data := #[32, 47, 32] } : ByteArray).extract 1 2).data.toList _ = -1 from by decide +kernel]
    go_wp2
    go_ret
    exact ⟨rfl, rfl⟩
end Go.Proofs.YtiljcnaeckeilaaGreatDoor
namespace Go.Ev
open Go

def idxEnt : Ent := (186, [.str 3 2109216, .str 2 10023], .int .i64 (-1))
def idxArg (v w : Value) : Prop := v = .string ⟨#[32, 47, 32]⟩ ∧ w = .string ⟨#[39, 39]⟩
theorem idx_str {l n : Nat} {s : ByteArray} (m : List UInt8) (h : StrR l n s) (h1 : m.length = l) (h2 : strNat m 0 = n) : s = ⟨m.toArray⟩ := by
  have := strNat_inj (h.1.trans h1.symm) (h.2.trans h2.symm)
  cases s with
  | mk d =>
    have : d = m.toArray := by rw [← this]
    rw [this]
section
open Go.Proofs.YtiljcnaeckeilaaGreatDoor Go.RowKit Go.Proofs
variable {ρ : Nat → Value} {w0 : World}
theorem idx_ok {m : Int} (hm : w0.cell? ⟨0, 0, none⟩ = some (.int .i64 m)) : CallOk Tryz.prog ρ w0 (sumT [idxEnt] fun _ _ _ => .bad) := by
  have inv : ∀ {f : Nat} {args : List AV} {σ : St} {c : CR}, sumT [idxEnt] (fun _ _ _ => .bad) f args σ = c → c = .bad ∨ (c = .val (.int .i64 (-1)) σ ∧ f = 186 ∧ args = [.str 3 2109216, .str 2 10023]) := by
    intro f args σ c h
    have h : (Option.rec .bad (fun v => .val v σ) (tabV [idxEnt] f args) : CR) = c := h
    cases hv : tabV [idxEnt] f args with
    | none => rw [hv] at h; exact .inl h.symm
    | some v =>
      rw [hv] at h
      have := tabV_mem hv
      simp only [List.mem_singleton, idxEnt, Prod.mk.injEq] at this
      obtain ⟨rfl, rfl, rfl⟩ := this
      exact .inr ⟨h.symm, rfl, rfl⟩
  constructor
  · intro f args σ v σ' h φ w vs hW hv r
    rcases inv h with h | ⟨h, rfl, rfl⟩
    · cases h
    cases h
    cases hv with
    | cons _ v1 _ x1 h1 hs =>
    cases hs with
    | cons _ v2 _ x2 h2 hs =>
    cases hs
    cases h1 with
    | str _ _ s1 h1 =>
    cases h2 with
    | str _ _ s2 h2 =>
    have e1 := idx_str [32, 47, 32] h1 (by decide) (by decide)
    have e2 := idx_str [39, 39] h2 (by decide) (by decide)
    subst e1 e2
    have hc : w.cell? ⟨0, 0, none⟩ = some (.int .i64 m) := by
      have hlt : 0 < w0.heap.size := by
        refine Nat.lt_of_not_le fun hh => ?_
        have : w0.heap[0]? = none := by rw [Array.getElem?_eq_none_iff]; exact hh
        simp only [World.cell?, this] at hm
        cases hm
      have := hW.base 0 hlt
      unfold World.cell? at hm ⊢
      simp only at hm ⊢
      rw [this]; exact hm
    have hk := idx_walk m w hc
    refine callsIn_FR ((callsIn_wide (n := 0)).2 (hk.mono ?_))
    rintro e w' ⟨rfl, rfl⟩
    exact ⟨_, φ, rfl, .int _ _, .refl hW⟩
  · intro f args σ v σ' h φ w vs hW hv r
    rcases inv h with h | ⟨h, _⟩ <;> cases h
  · intro f args σ
    refine ⟨fun v σ' h => ?_, fun v σ' h => ?_⟩
    · rcases inv h with h | ⟨h, rfl, rfl⟩
      · cases h
      · exact ⟨_, Tryz.func186, rfl, by rw [show Tryz.f186.name = _ from rfl]; decide⟩
    · rcases inv h with h | ⟨h, _⟩ <;> cases h
end
end Go.Ev
namespace Go.Proofs.YtiljcnaeckeilaaGreatDoor
open Go.RowKit
set_option maxRecDepth 100000 in
set_option maxHeartbeats 4000000 in
theorem len_1 (w : World) : Calls Tryz.prog 332 #[.int .u64 1] w fun e w' => e = .returned (.int .i64 1) ∧ w' = w := by
  go_enter Tryz.func332, Tryz.ntmps332
  go_wp2
  go_ret
  refine ⟨?_, rfl⟩
  kernel_rfl
set_option maxRecDepth 100000 in
set_option maxHeartbeats 4000000 in
theorem len_2 (w : World) : Calls Tryz.prog 332 #[.int .u64 2] w fun e w' => e = .returned (.int .i64 2) ∧ w' = w := by
  go_enter Tryz.func332, Tryz.ntmps332
  go_wp2
  go_ret
  refine ⟨?_, rfl⟩
  kernel_rfl
set_option maxRecDepth 100000 in
set_option maxHeartbeats 4000000 in
theorem len_3 (w : World) : Calls Tryz.prog 332 #[.int .u64 3] w fun e w' => e = .returned (.int .i64 2) ∧ w' = w := by
  go_enter Tryz.func332, Tryz.ntmps332
  go_wp2
  go_ret
  refine ⟨?_, rfl⟩
  kernel_rfl
set_option maxRecDepth 100000 in
set_option maxHeartbeats 4000000 in
theorem len_4 (w : World) : Calls Tryz.prog 332 #[.int .u64 4] w fun e w' => e = .returned (.int .i64 3) ∧ w' = w := by
  go_enter Tryz.func332, Tryz.ntmps332
  go_wp2
  go_ret
  refine ⟨?_, rfl⟩
  kernel_rfl
set_option maxRecDepth 100000 in
set_option maxHeartbeats 4000000 in
theorem len_5 (w : World) : Calls Tryz.prog 332 #[.int .u64 5] w fun e w' => e = .returned (.int .i64 3) ∧ w' = w := by
  go_enter Tryz.func332, Tryz.ntmps332
  go_wp2
  go_ret
  refine ⟨?_, rfl⟩
  kernel_rfl
set_option maxRecDepth 100000 in
set_option maxHeartbeats 4000000 in
theorem len_6 (w : World) : Calls Tryz.prog 332 #[.int .u64 6] w fun e w' => e = .returned (.int .i64 3) ∧ w' = w := by
  go_enter Tryz.func332, Tryz.ntmps332
  go_wp2
  go_ret
  refine ⟨?_, rfl⟩
  kernel_rfl
set_option maxRecDepth 100000 in
set_option maxHeartbeats 4000000 in
theorem len_7 (w : World) : Calls Tryz.prog 332 #[.int .u64 7] w fun e w' => e = .returned (.int .i64 3) ∧ w' = w := by
  go_enter Tryz.func332, Tryz.ntmps332
  go_wp2
  go_ret
  refine ⟨?_, rfl⟩
  kernel_rfl
set_option maxRecDepth 100000 in
set_option maxHeartbeats 4000000 in
theorem len_8 (w : World) : Calls Tryz.prog 332 #[.int .u64 8] w fun e w' => e = .returned (.int .i64 4) ∧ w' = w := by
  go_enter Tryz.func332, Tryz.ntmps332
  go_wp2
  go_ret
  refine ⟨?_, rfl⟩
  kernel_rfl
set_option maxRecDepth 100000 in
set_option maxHeartbeats 4000000 in
theorem len_9 (w : World) : Calls Tryz.prog 332 #[.int .u64 9] w fun e w' => e = .returned (.int .i64 4) ∧ w' = w := by
  go_enter Tryz.func332, Tryz.ntmps332
  go_wp2
  go_ret
  refine ⟨?_, rfl⟩
  kernel_rfl
set_option maxRecDepth 100000 in
set_option maxHeartbeats 4000000 in
theorem len_10 (w : World) : Calls Tryz.prog 332 #[.int .u64 10] w fun e w' => e = .returned (.int .i64 4) ∧ w' = w := by
  go_enter Tryz.func332, Tryz.ntmps332
  go_wp2
  go_ret
  refine ⟨?_, rfl⟩
  kernel_rfl
set_option maxRecDepth 100000 in
set_option maxHeartbeats 4000000 in
theorem len_11 (w : World) : Calls Tryz.prog 332 #[.int .u64 11] w fun e w' => e = .returned (.int .i64 4) ∧ w' = w := by
  go_enter Tryz.func332, Tryz.ntmps332
  go_wp2
  go_ret
  refine ⟨?_, rfl⟩
  kernel_rfl
set_option maxRecDepth 100000 in
set_option maxHeartbeats 4000000 in
theorem len_12 (w : World) : Calls Tryz.prog 332 #[.int .u64 12] w fun e w' => e = .returned (.int .i64 4) ∧ w' = w := by
  go_enter Tryz.func332, Tryz.ntmps332
  go_wp2
  go_ret
  refine ⟨?_, rfl⟩
  kernel_rfl
set_option maxRecDepth 100000 in
set_option maxHeartbeats 4000000 in
theorem log_1 (w : World) : Calls Tryz.prog 331 #[.int .i64 1] w fun e w' => e = .returned (.int .i64 0) ∧ w' = w := by
  go_enter Tryz.func331, Tryz.ntmps331
  go_wp2
  go_ret
  refine ⟨?_, rfl⟩
  kernel_rfl
set_option maxRecDepth 100000 in
set_option maxHeartbeats 4000000 in
theorem log_2 (w : World) : Calls Tryz.prog 331 #[.int .i64 2] w fun e w' => e = .returned (.int .i64 0) ∧ w' = w := by
  go_enter Tryz.func331, Tryz.ntmps331
  go_wp2
  go_ret
  refine ⟨?_, rfl⟩
  kernel_rfl
set_option maxRecDepth 100000 in
set_option maxHeartbeats 4000000 in
theorem log_3 (w : World) : Calls Tryz.prog 331 #[.int .i64 3] w fun e w' => e = .returned (.int .i64 0) ∧ w' = w := by
  go_enter Tryz.func331, Tryz.ntmps331
  go_wp2
  go_ret
  refine ⟨?_, rfl⟩
  kernel_rfl
set_option maxRecDepth 100000 in
set_option maxHeartbeats 4000000 in
theorem log_4 (w : World) : Calls Tryz.prog 331 #[.int .i64 4] w fun e w' => e = .returned (.int .i64 1) ∧ w' = w := by
  go_enter Tryz.func331, Tryz.ntmps331
  go_wp2
  go_ret
  refine ⟨?_, rfl⟩
  kernel_rfl
set_option maxRecDepth 100000 in
set_option maxHeartbeats 4000000 in
theorem dig_1 (w : World) (h0 : w.cell? ⟨1, 0, none⟩ = some (.int .u64 1)) (h1 : w.cell? ⟨1, 1, none⟩ = some (.int .u64 10)) :
    Calls Tryz.prog 303 #[.int .u64 1] w fun e w' => e = .returned (.int .i64 1) ∧ w' = w := by
  go_enter Tryz.func303, Tryz.ntmps303
  go_wp2_with (first | (go_at_call 332; go_call (len_1 _) as _ _ ⟨rfl, rfl⟩) | (go_at_call 331; go_call (log_1 _) as _ _ ⟨rfl, rfl⟩) | go_in)
  go_ret
  exact ⟨rfl, rfl⟩
set_option maxRecDepth 100000 in
set_option maxHeartbeats 4000000 in
theorem dig_2 (w : World) (h0 : w.cell? ⟨1, 0, none⟩ = some (.int .u64 1)) (h1 : w.cell? ⟨1, 1, none⟩ = some (.int .u64 10)) :
    Calls Tryz.prog 303 #[.int .u64 2] w fun e w' => e = .returned (.int .i64 1) ∧ w' = w := by
  go_enter Tryz.func303, Tryz.ntmps303
  go_wp2_with (first | (go_at_call 332; go_call (len_2 _) as _ _ ⟨rfl, rfl⟩) | (go_at_call 331; go_call (log_2 _) as _ _ ⟨rfl, rfl⟩) | go_in)
  go_ret
  exact ⟨rfl, rfl⟩
set_option maxRecDepth 100000 in
set_option maxHeartbeats 4000000 in
theorem dig_3 (w : World) (h0 : w.cell? ⟨1, 0, none⟩ = some (.int .u64 1)) (h1 : w.cell? ⟨1, 1, none⟩ = some (.int .u64 10)) :
    Calls Tryz.prog 303 #[.int .u64 3] w fun e w' => e = .returned (.int .i64 1) ∧ w' = w := by
  go_enter Tryz.func303, Tryz.ntmps303
  go_wp2_with (first | (go_at_call 332; go_call (len_3 _) as _ _ ⟨rfl, rfl⟩) | (go_at_call 331; go_call (log_2 _) as _ _ ⟨rfl, rfl⟩) | go_in)
  go_ret
  exact ⟨rfl, rfl⟩
set_option maxRecDepth 100000 in
set_option maxHeartbeats 4000000 in
theorem dig_4 (w : World) (h0 : w.cell? ⟨1, 0, none⟩ = some (.int .u64 1)) (h1 : w.cell? ⟨1, 1, none⟩ = some (.int .u64 10)) :
    Calls Tryz.prog 303 #[.int .u64 4] w fun e w' => e = .returned (.int .i64 1) ∧ w' = w := by
  go_enter Tryz.func303, Tryz.ntmps303
  go_wp2_with (first | (go_at_call 332; go_call (len_4 _) as _ _ ⟨rfl, rfl⟩) | (go_at_call 331; go_call (log_3 _) as _ _ ⟨rfl, rfl⟩) | go_in)
  go_ret
  exact ⟨rfl, rfl⟩
set_option maxRecDepth 100000 in
set_option maxHeartbeats 4000000 in
theorem dig_5 (w : World) (h0 : w.cell? ⟨1, 0, none⟩ = some (.int .u64 1)) (h1 : w.cell? ⟨1, 1, none⟩ = some (.int .u64 10)) :
    Calls Tryz.prog 303 #[.int .u64 5] w fun e w' => e = .returned (.int .i64 1) ∧ w' = w := by
  go_enter Tryz.func303, Tryz.ntmps303
  go_wp2_with (first | (go_at_call 332; go_call (len_5 _) as _ _ ⟨rfl, rfl⟩) | (go_at_call 331; go_call (log_3 _) as _ _ ⟨rfl, rfl⟩) | go_in)
  go_ret
  exact ⟨rfl, rfl⟩
set_option maxRecDepth 100000 in
set_option maxHeartbeats 4000000 in
theorem dig_6 (w : World) (h0 : w.cell? ⟨1, 0, none⟩ = some (.int .u64 1)) (h1 : w.cell? ⟨1, 1, none⟩ = some (.int .u64 10)) :
    Calls Tryz.prog 303 #[.int .u64 6] w fun e w' => e = .returned (.int .i64 1) ∧ w' = w := by
  go_enter Tryz.func303, Tryz.ntmps303
  go_wp2_with (first | (go_at_call 332; go_call (len_6 _) as _ _ ⟨rfl, rfl⟩) | (go_at_call 331; go_call (log_3 _) as _ _ ⟨rfl, rfl⟩) | go_in)
  go_ret
  exact ⟨rfl, rfl⟩
set_option maxRecDepth 100000 in
set_option maxHeartbeats 4000000 in
theorem dig_7 (w : World) (h0 : w.cell? ⟨1, 0, none⟩ = some (.int .u64 1)) (h1 : w.cell? ⟨1, 1, none⟩ = some (.int .u64 10)) :
    Calls Tryz.prog 303 #[.int .u64 7] w fun e w' => e = .returned (.int .i64 1) ∧ w' = w := by
  go_enter Tryz.func303, Tryz.ntmps303
  go_wp2_with (first | (go_at_call 332; go_call (len_7 _) as _ _ ⟨rfl, rfl⟩) | (go_at_call 331; go_call (log_3 _) as _ _ ⟨rfl, rfl⟩) | go_in)
  go_ret
  exact ⟨rfl, rfl⟩
set_option maxRecDepth 100000 in
set_option maxHeartbeats 4000000 in
theorem dig_8 (w : World) (h0 : w.cell? ⟨1, 0, none⟩ = some (.int .u64 1)) (h1 : w.cell? ⟨1, 1, none⟩ = some (.int .u64 10)) :
    Calls Tryz.prog 303 #[.int .u64 8] w fun e w' => e = .returned (.int .i64 1) ∧ w' = w := by
  go_enter Tryz.func303, Tryz.ntmps303
  go_wp2_with (first | (go_at_call 332; go_call (len_8 _) as _ _ ⟨rfl, rfl⟩) | (go_at_call 331; go_call (log_4 _) as _ _ ⟨rfl, rfl⟩) | go_in)
  go_ret
  exact ⟨rfl, rfl⟩
set_option maxRecDepth 100000 in
set_option maxHeartbeats 4000000 in
theorem dig_9 (w : World) (h0 : w.cell? ⟨1, 0, none⟩ = some (.int .u64 1)) (h1 : w.cell? ⟨1, 1, none⟩ = some (.int .u64 10)) :
    Calls Tryz.prog 303 #[.int .u64 9] w fun e w' => e = .returned (.int .i64 1) ∧ w' = w := by
  go_enter Tryz.func303, Tryz.ntmps303
  go_wp2_with (first | (go_at_call 332; go_call (len_9 _) as _ _ ⟨rfl, rfl⟩) | (go_at_call 331; go_call (log_4 _) as _ _ ⟨rfl, rfl⟩) | go_in)
  go_ret
  exact ⟨rfl, rfl⟩
set_option maxRecDepth 100000 in
set_option maxHeartbeats 4000000 in
theorem dig_10 (w : World) (h0 : w.cell? ⟨1, 0, none⟩ = some (.int .u64 1)) (h1 : w.cell? ⟨1, 1, none⟩ = some (.int .u64 10)) :
    Calls Tryz.prog 303 #[.int .u64 10] w fun e w' => e = .returned (.int .i64 2) ∧ w' = w := by
  go_enter Tryz.func303, Tryz.ntmps303
  go_wp2_with (first | (go_at_call 332; go_call (len_10 _) as _ _ ⟨rfl, rfl⟩) | (go_at_call 331; go_call (log_4 _) as _ _ ⟨rfl, rfl⟩) | go_in)
  go_ret
  exact ⟨rfl, rfl⟩
set_option maxRecDepth 100000 in
set_option maxHeartbeats 4000000 in
theorem dig_11 (w : World) (h0 : w.cell? ⟨1, 0, none⟩ = some (.int .u64 1)) (h1 : w.cell? ⟨1, 1, none⟩ = some (.int .u64 10)) :
    Calls Tryz.prog 303 #[.int .u64 11] w fun e w' => e = .returned (.int .i64 2) ∧ w' = w := by
  go_enter Tryz.func303, Tryz.ntmps303
  go_wp2_with (first | (go_at_call 332; go_call (len_11 _) as _ _ ⟨rfl, rfl⟩) | (go_at_call 331; go_call (log_4 _) as _ _ ⟨rfl, rfl⟩) | go_in)
  go_ret
  exact ⟨rfl, rfl⟩
set_option maxRecDepth 100000 in
set_option maxHeartbeats 4000000 in
theorem dig_12 (w : World) (h0 : w.cell? ⟨1, 0, none⟩ = some (.int .u64 1)) (h1 : w.cell? ⟨1, 1, none⟩ = some (.int .u64 10)) :
    Calls Tryz.prog 303 #[.int .u64 12] w fun e w' => e = .returned (.int .i64 2) ∧ w' = w := by
  go_enter Tryz.func303, Tryz.ntmps303
  go_wp2_with (first | (go_at_call 332; go_call (len_12 _) as _ _ ⟨rfl, rfl⟩) | (go_at_call 331; go_call (log_4 _) as _ _ ⟨rfl, rfl⟩) | go_in)
  go_ret
  exact ⟨rfl, rfl⟩
end Go.Proofs.YtiljcnaeckeilaaGreatDoor
namespace Go.Ev
open Go
section
open Go.Proofs.YtiljcnaeckeilaaGreatDoor Go.RowKit Go.Proofs
variable {ρ : Nat → Value} {w0 : World}
theorem one_arg {φ : Key → Option Pl} {k : IntKind} {n : Int} {vs : List Value} (h : VRs ρ φ [.int k n] vs) : vs = [.int k n] := by
  cases h with
  | cons _ v _ x h hs =>
  cases hs; cases h; rfl
theorem body303 : HasBody Tryz.prog 303 := ⟨_, Tryz.func303, rfl, by rw [show Tryz.f303.name = _ from rfl]; decide⟩
theorem digS_1 (h0 : w0.cell? ⟨1, 0, none⟩ = some (.int .u64 1)) (h1 : w0.cell? ⟨1, 1, none⟩ = some (.int .u64 10)) : EntSem Tryz.prog ρ w0 (303, [.int .u64 (.ofNat 1)], .int .i64 (.ofNat 1)) := by
  refine .pure body303 fun φ σ w vs hW hv => ⟨_, .int _ _, ?_⟩
  rw [one_arg hv]
  exact dig_1 w (hW.cell h0) (hW.cell h1)
theorem digS_2 (h0 : w0.cell? ⟨1, 0, none⟩ = some (.int .u64 1)) (h1 : w0.cell? ⟨1, 1, none⟩ = some (.int .u64 10)) : EntSem Tryz.prog ρ w0 (303, [.int .u64 (.ofNat 2)], .int .i64 (.ofNat 1)) := by
  refine .pure body303 fun φ σ w vs hW hv => ⟨_, .int _ _, ?_⟩
  rw [one_arg hv]
  exact dig_2 w (hW.cell h0) (hW.cell h1)
theorem digS_3 (h0 : w0.cell? ⟨1, 0, none⟩ = some (.int .u64 1)) (h1 : w0.cell? ⟨1, 1, none⟩ = some (.int .u64 10)) : EntSem Tryz.prog ρ w0 (303, [.int .u64 (.ofNat 3)], .int .i64 (.ofNat 1)) := by
  refine .pure body303 fun φ σ w vs hW hv => ⟨_, .int _ _, ?_⟩
  rw [one_arg hv]
  exact dig_3 w (hW.cell h0) (hW.cell h1)
theorem digS_4 (h0 : w0.cell? ⟨1, 0, none⟩ = some (.int .u64 1)) (h1 : w0.cell? ⟨1, 1, none⟩ = some (.int .u64 10)) : EntSem Tryz.prog ρ w0 (303, [.int .u64 (.ofNat 4)], .int .i64 (.ofNat 1)) := by
  refine .pure body303 fun φ σ w vs hW hv => ⟨_, .int _ _, ?_⟩
  rw [one_arg hv]
  exact dig_4 w (hW.cell h0) (hW.cell h1)
theorem digS_5 (h0 : w0.cell? ⟨1, 0, none⟩ = some (.int .u64 1)) (h1 : w0.cell? ⟨1, 1, none⟩ = some (.int .u64 10)) : EntSem Tryz.prog ρ w0 (303, [.int .u64 (.ofNat 5)], .int .i64 (.ofNat 1)) := by
  refine .pure body303 fun φ σ w vs hW hv => ⟨_, .int _ _, ?_⟩
  rw [one_arg hv]
  exact dig_5 w (hW.cell h0) (hW.cell h1)
theorem digS_6 (h0 : w0.cell? ⟨1, 0, none⟩ = some (.int .u64 1)) (h1 : w0.cell? ⟨1, 1, none⟩ = some (.int .u64 10)) : EntSem Tryz.prog ρ w0 (303, [.int .u64 (.ofNat 6)], .int .i64 (.ofNat 1)) := by
  refine .pure body303 fun φ σ w vs hW hv => ⟨_, .int _ _, ?_⟩
  rw [one_arg hv]
  exact dig_6 w (hW.cell h0) (hW.cell h1)
theorem digS_7 (h0 : w0.cell? ⟨1, 0, none⟩ = some (.int .u64 1)) (h1 : w0.cell? ⟨1, 1, none⟩ = some (.int .u64 10)) : EntSem Tryz.prog ρ w0 (303, [.int .u64 (.ofNat 7)], .int .i64 (.ofNat 1)) := by
  refine .pure body303 fun φ σ w vs hW hv => ⟨_, .int _ _, ?_⟩
  rw [one_arg hv]
  exact dig_7 w (hW.cell h0) (hW.cell h1)
theorem digS_8 (h0 : w0.cell? ⟨1, 0, none⟩ = some (.int .u64 1)) (h1 : w0.cell? ⟨1, 1, none⟩ = some (.int .u64 10)) : EntSem Tryz.prog ρ w0 (303, [.int .u64 (.ofNat 8)], .int .i64 (.ofNat 1)) := by
  refine .pure body303 fun φ σ w vs hW hv => ⟨_, .int _ _, ?_⟩
  rw [one_arg hv]
  exact dig_8 w (hW.cell h0) (hW.cell h1)
theorem digS_9 (h0 : w0.cell? ⟨1, 0, none⟩ = some (.int .u64 1)) (h1 : w0.cell? ⟨1, 1, none⟩ = some (.int .u64 10)) : EntSem Tryz.prog ρ w0 (303, [.int .u64 (.ofNat 9)], .int .i64 (.ofNat 1)) := by
  refine .pure body303 fun φ σ w vs hW hv => ⟨_, .int _ _, ?_⟩
  rw [one_arg hv]
  exact dig_9 w (hW.cell h0) (hW.cell h1)
theorem digS_10 (h0 : w0.cell? ⟨1, 0, none⟩ = some (.int .u64 1)) (h1 : w0.cell? ⟨1, 1, none⟩ = some (.int .u64 10)) : EntSem Tryz.prog ρ w0 (303, [.int .u64 (.ofNat 10)], .int .i64 (.ofNat 2)) := by
  refine .pure body303 fun φ σ w vs hW hv => ⟨_, .int _ _, ?_⟩
  rw [one_arg hv]
  exact dig_10 w (hW.cell h0) (hW.cell h1)
theorem digS_11 (h0 : w0.cell? ⟨1, 0, none⟩ = some (.int .u64 1)) (h1 : w0.cell? ⟨1, 1, none⟩ = some (.int .u64 10)) : EntSem Tryz.prog ρ w0 (303, [.int .u64 (.ofNat 11)], .int .i64 (.ofNat 2)) := by
  refine .pure body303 fun φ σ w vs hW hv => ⟨_, .int _ _, ?_⟩
  rw [one_arg hv]
  exact dig_11 w (hW.cell h0) (hW.cell h1)
theorem digS_12 (h0 : w0.cell? ⟨1, 0, none⟩ = some (.int .u64 1)) (h1 : w0.cell? ⟨1, 1, none⟩ = some (.int .u64 10)) : EntSem Tryz.prog ρ w0 (303, [.int .u64 (.ofNat 12)], .int .i64 (.ofNat 2)) := by
  refine .pure body303 fun φ σ w vs hW hv => ⟨_, .int _ _, ?_⟩
  rw [one_arg hv]
  exact dig_12 w (hW.cell h0) (hW.cell h1)
def digT : List Ent := [(303, [.int .u64 (.ofNat 1)], .int .i64 (.ofNat 1)), (303, [.int .u64 (.ofNat 2)], .int .i64 (.ofNat 1)), (303, [.int .u64 (.ofNat 3)], .int .i64 (.ofNat 1)), (303, [.int .u64 (.ofNat 4)], .int .i64 (.ofNat 1)), (303, [.int .u64 (.ofNat 5)], .int .i64 (.ofNat 1)), (303, [.int .u64 (.ofNat 6)], .int .i64 (.ofNat 1)), (303, [.int .u64 (.ofNat 7)], .int .i64 (.ofNat 1)), (303, [.int .u64 (.ofNat 8)], .int .i64 (.ofNat 1)), (303, [.int .u64 (.ofNat 9)], .int .i64 (.ofNat 1)), (303, [.int .u64 (.ofNat 10)], .int .i64 (.ofNat 2)), (303, [.int .u64 (.ofNat 11)], .int .i64 (.ofNat 2)), (303, [.int .u64 (.ofNat 12)], .int .i64 (.ofNat 2))]
theorem digT_ok (h0 : w0.cell? ⟨1, 0, none⟩ = some (.int .u64 1)) (h1 : w0.cell? ⟨1, 1, none⟩ = some (.int .u64 10)) : ∀ x ∈ digT, EntSem Tryz.prog ρ w0 x := by
  intro x hx
  simp only [digT, List.mem_cons, List.not_mem_nil, or_false] at hx
  rcases hx with rfl | rfl | rfl | rfl | rfl | rfl | rfl | rfl | rfl | rfl | rfl | rfl
  · exact digS_1 h0 h1
  · exact digS_2 h0 h1
  · exact digS_3 h0 h1
  · exact digS_4 h0 h1
  · exact digS_5 h0 h1
  · exact digS_6 h0 h1
  · exact digS_7 h0 h1
  · exact digS_8 h0 h1
  · exact digS_9 h0 h1
  · exact digS_10 h0 h1
  · exact digS_11 h0 h1
  · exact digS_12 h0 h1
end
end Go.Ev
namespace Go.Proofs.YtiljcnaeckeilaaGreatDoor
open Go.RowKit

set_option maxRecDepth 100000 in
set_option maxHeartbeats 4000000 in
theorem nxt_out (w : World) (b o : Nat) (s : Option Addr) (len cap : Nat) (k : Nat) (n : Int) (hk : len ≤ k) (h0 : w.cell? ⟨b, o, none⟩ = some (.slice s len cap)) (h1 : w.cell? ⟨b, o + 1, none⟩ = some (.int .i64 k)) :
    Calls Tryz.prog 14 #[.pointer (some ⟨b, o, none⟩), .int .i64 n] w fun e w' => e = .returned (.int .i64 0) ∧ ∃ d, w' = { w with drawn := d } := by
  go_enter Tryz.func14, Tryz.ntmps14
  go_wp2
  go_region
  all_goals (try go_wp2)
  all_goals go_ret
  all_goals exact ⟨rfl, _, rfl⟩
end Go.Proofs.YtiljcnaeckeilaaGreatDoor
namespace Go.Proofs.YtiljcnaeckeilaaGreatDoor
open Go.RowKit

theorem tmod_gt (x n : Int) (hn : 0 < n) : -n < Int.tmod x n := by
  have h := Int.tmod_lt_of_pos (-x) hn
  rw [Int.neg_tmod] at h
  omega
theorem mod_lt (x n : Int) (hn : 0 < n) (h : Int.tmod x n < 0) : Int.tmod x n + n = x % n := by
  have h1 := Int.tmod_def x n
  have h2 := Int.emod_def x n
  have h3 : 0 ≤ x % n := Int.emod_nonneg x (by omega)
  have h4 : x % n < n := Int.emod_lt_of_pos x hn
  have h5 : -n < Int.tmod x n := tmod_gt x n hn
  have h6 : (x % n) - (Int.tmod x n + n) = n * (Int.tdiv x n - 1 - x / n) := by
    rw [h1, h2, Int.mul_sub, Int.mul_sub]; omega
  have h7 : Int.tdiv x n - 1 - x / n = 0 := by
    generalize Int.tdiv x n - 1 - x / n = z at h6
    by_cases h0 : z ≤ -1
    · have : n * z ≤ n * (-1) := Int.mul_le_mul_of_nonneg_left h0 (by omega)
      omega
    · by_cases h1 : 1 ≤ z
      · have : n * 1 ≤ n * z := Int.mul_le_mul_of_nonneg_left h1 (by omega)
        omega
      · omega
  rw [h7] at h6; omega
theorem mod_ge (x n : Int) (hn : 0 < n) (h : ¬ Int.tmod x n < 0) : Int.tmod x n = x % n := by
  by_cases hx : 0 ≤ x
  · exact Int.tmod_eq_emod_of_nonneg hx
  · have h3 : 0 ≤ x % n := Int.emod_nonneg x (by omega)
    have h4 : x % n < n := Int.emod_lt_of_pos x hn
    have h1 := Int.tmod_def x n
    have h2 := Int.emod_def x n
    have h5 : Int.tmod x n < n := Int.tmod_lt_of_pos x hn
    have h6 : (x % n) - (Int.tmod x n) = n * (Int.tdiv x n - x / n) := by
      rw [h1, h2, Int.mul_sub]; omega
    have h7 : Int.tdiv x n - x / n = 0 := by
      generalize Int.tdiv x n - x / n = z at h6
      by_cases h0 : z ≤ -1
      · have : n * z ≤ n * (-1) := Int.mul_le_mul_of_nonneg_left h0 (by omega)
        omega
      · by_cases h1 : 1 ≤ z
        · have : n * 1 ≤ n * z := Int.mul_le_mul_of_nonneg_left h1 (by omega)
          omega
        · omega
    rw [h7] at h6; omega

set_option maxRecDepth 100000 in
set_option maxHeartbeats 4000000 in
theorem mod_ok (w : World) (x n : Int) (hn : 0 < n) (hn' : n < 100) : Calls Tryz.prog 32 #[.int .i64 x, .int .i64 n] w fun e w' => e = .returned (.int .i64 (x % n)) ∧ w' = w := by
  have hb : -n < Int.tmod x n ∧ Int.tmod x n < n := ⟨tmod_gt x n hn, Int.tmod_lt_of_pos x hn⟩
  have hlt := mod_lt x n hn
  have hge := mod_ge x n hn
  go_enter Tryz.func32, Tryz.ntmps32
  go_wp2
  · go_ret
    exact ⟨rfl, rfl⟩
  · go_ret
    rename_i h
    rw [hge h]
    exact ⟨rfl, rfl⟩
end Go.Proofs.YtiljcnaeckeilaaGreatDoor
namespace Go.Proofs.YtiljcnaeckeilaaGreatDoor
open Go.RowKit

set_option maxRecDepth 100000 in
set_option maxHeartbeats 4000000 in
theorem nxt_in (w : World) (b o : Nat) (sb so : Nat) (len cap : Nat) (k : Nat) (n x : Int) (hk : k < len) (hl : len < 4611686018427387904) (hn : 0 < n) (hn' : n < 100) (h0 : w.cell? ⟨b, o, none⟩ = some (.slice (some ⟨sb, so, none⟩) len cap)) (h1 : w.cell? ⟨b, o + 1, none⟩ = some (.int .i64 k))
    (hf : w.frozen? ⟨b, o + 1, none⟩ = false) (hne : sb ≠ b) (hx : w.cell? ⟨sb, so + k, none⟩ = some (.int .i64 x)) :
    Calls Tryz.prog 14 #[.pointer (some ⟨b, o, none⟩), .int .i64 n] w fun e w' => e = .returned (.int .i64 (x % n)) ∧ ∃ d, w' = { (w.setCell ⟨b, o + 1, none⟩ (.int .i64 ((k + 1 : Nat) : Int))) with drawn := d } := by
  have g1 : decide ((k : Int) ≥ (len : Int)) = false := by simp; omega
  have g2 : decide ((len : Int) ≤ (k : Int)) = false := by simp; omega
  have g3 : decide (n < 1) = false := by simp; omega
  have g4 : ¬ ((len : Int) ≤ (k : Int)) := by omega
  have g5 : ¬ (n < 1) := by omega
  go_enter Tryz.func14, Tryz.ntmps14
  go_wp2
  go_quiet (fail)
  go_wp2
  have hs : (⟨b, o + 1, none⟩ : Addr) ≠ ⟨sb, so + k, none⟩ := by intro h; injection h with h; exact hne h.symm
  have c1 : ((w.drewN nq).setCell ⟨b, o + 1, none⟩ (.int .i64 ((k : Int) + 1))).cell? ⟨sb, so + k, none⟩ = some (.int .i64 x) := by
    rw [World.cell?_setCell_other _ _ _ _ hs]; exact hx
  go_quiet ((go_at_call 32; refine Calls.quiet_of_same (mod_ok _ x n hn hn')))
  go_wp2
  go_ret
  exact ⟨rfl, _, rfl⟩
end Go.Proofs.YtiljcnaeckeilaaGreatDoor
