/-
Proved here: the law answers true at every operator and every two values.
Conditions: none beyond those that the statements name.
-/
import Derived.Test.YtiljcnaeckeilaaGreatDoorLw0b
import Derived.Test.YtiljcnaeckeilaaGreatDoorLw1b
import Derived.Test.YtiljcnaeckeilaaGreatDoorLw2b
import Derived.Test.YtiljcnaeckeilaaGreatDoorGra
import Derived.Test.YtiljcnaeckeilaaGreatDoorGrb
import Derived.Test.YtiljcnaeckeilaaGreatDoorGr5
import Derived.Test.YtiljcnaeckeilaaGreatDoorGr6
import Derived.Test.YtiljcnaeckeilaaGreatDoorGr7
import Derived.Test.YtiljcnaeckeilaaGreatDoorGr8
import Derived.Test.YtiljcnaeckeilaaGreatDoorGr9
import Derived.Test.YtiljcnaeckeilaaGreatDoorGr10
import Derived.Test.YtiljcnaeckeilaaGreatDoorGr11
import Derived.Test.YtiljcnaeckeilaaGreatDoorGr12
import Derived.Test.YtiljcnaeckeilaaGreatDoorGr13
import Derived.Test.YtiljcnaeckeilaaGreatDoorGr14
import Derived.Test.YtiljcnaeckeilaaGreatDoorSnG
set_option maxRecDepth 100000
namespace Go.Ev.Tb
open Go Go.Ev Go.Proofs

/-! what the symbols stand for -/
structure Inp where
  n : Nat
  a4 : AV
  a5 : AV
  a6 : AV
  b7 : AV
  b8 : AV
  b9 : AV
  m : AV
  s : AV
  t : AV
  k20 : Nat
  k21 : Nat
  k40 : Nat
  k41 : Nat
  L : Value
def rho (x : Inp) : Nat → Value
  | 0 => .int .u8 x.n
  | 1 => .int .u8 (x.n % 12 : Nat)
  | 2 => .int .i64 (x.n % 12 : Nat)
  | 3 => .int .i64 (3 + x.n % 12 : Nat)
  | 4 => gv x.a4
  | 5 => gv x.a5
  | 6 => gv x.a6
  | 7 => gv x.b7
  | 8 => gv x.b8
  | 9 => gv x.b9
  | 11 => gv x.m
  | 12 => gv x.s
  | 13 => gv x.t
  | 20 => .int .i64 x.k20
  | 21 => .int .i64 x.k21
  | 30 => x.L
  | 40 => .int .i64 x.k40
  | 41 => .int .i64 x.k41
  | _ => .int .i64 0
theorem rho_one (x : Inp) (h : x.L.oneCell' = true) (k : Nat) : (rho x k).oneCell' = true := by
  unfold rho
  split <;> first | rfl | exact gv_one _ | exact h
theorem vals_shape : ∀ a ∈ vals, ∃ k : Int, ∃ m l n, a = .agg [.int .i64 k, .int .i64 m, .str l n] ∧ k ≠ 0 ∧ n < 256 ^ l := by
  intro a ha
  simp only [vals, List.mem_cons, List.not_mem_nil, or_false] at ha
  rcases ha with rfl | rfl | rfl | rfl | rfl | rfl | rfl | rfl | rfl | rfl | rfl | rfl | rfl | rfl | rfl | rfl <;> exact ⟨_, _, _, _, rfl, by decide, by decide⟩
theorem binAll {k : Nat} (h1 : 5 ≤ k) (h2 : k ≤ 14) : all2 (.int .i64 (.ofNat k)) = true := by
  have : k = 5 ∨ k = 6 ∨ k = 7 ∨ k = 8 ∨ k = 9 ∨ k = 10 ∨ k = 11 ∨ k = 12 ∨ k = 13 ∨ k = 14 := by omega
  rcases this with rfl | rfl | rfl | rfl | rfl | rfl | rfl | rfl | rfl | rfl
  · exact bin5
  · exact bin6
  · exact bin7
  · exact bin8
  · exact bin9
  · exact bin10
  · exact bin11
  · exact bin12
  · exact bin13
  · exact bin14
theorem linOAll {k : Nat} (h1 : 5 ≤ k) (h2 : k ≤ 14) : chkL (oLine (.ofNat k)) = true := by
  refine allB_mem linO _ ?_
  have : k = 5 ∨ k = 6 ∨ k = 7 ∨ k = 8 ∨ k = 9 ∨ k = 10 ∨ k = 11 ∨ k = 12 ∨ k = 13 ∨ k = 14 := by omega
  rcases this with rfl | rfl | rfl | rfl | rfl | rfl | rfl | rfl | rfl | rfl <;> simp
structure Good (x : Inp) (w0 : World) : Prop where
  hn : x.n < 256
  S : Setup (rho x) w0
  ha : .agg [x.a4, x.a5, x.a6] ∈ vals
  hb : .agg [x.b7, x.b8, x.b9] ∈ vals
  hm : ∃ m ∈ intL, x.m = .int .i64 m
  h27 : go sumX 27 [x.m] = some x.t
  h98 : go sumX 98 [x.m] = some x.t
  ht : strB x.t = true
  hs : strB x.s = true
section
variable {x : Inp} {w0 : World}
theorem strB_flat {a : AV} (h : strB a = true) : Flat a ∧ ∃ l n, a = .str l n := by
  unfold strB at h
  split at h
  · exact ⟨by show _ < _; simpa using h, _, _, rfl⟩
  · cases h
theorem val3 {a b c : AV} (h : .agg [a, b, c] ∈ vals) : Flat a ∧ Flat b ∧ Flat c ∧ (∃ k : Int, k ≠ 0 ∧ a = .int .i64 k) ∧ AV.grL [a, b, c] = true := by
  obtain ⟨k, m, l, n, he, hk, hn⟩ := vals_shape _ h
  injection he with he
  simp only [List.cons.injEq, and_true] at he
  obtain ⟨rfl, rfl, rfl⟩ := he
  exact ⟨trivial, trivial, hn, ⟨k, hk, rfl⟩, rfl⟩
theorem eA (G : Good x w0) : VEqs (rho x) [.sym 4, .sym 5, .sym 6] [x.a4, x.a5, x.a6] :=
  have h := val3 G.ha
  .cons (.sym h.1 rfl) (.cons (.sym h.2.1 rfl) (.cons (.sym h.2.2.1 rfl) (.refl _)))
theorem eB (G : Good x w0) : VEqs (rho x) [.sym 7, .sym 8, .sym 9] [x.b7, x.b8, x.b9] :=
  have h := val3 G.hb
  .cons (.sym h.1 rfl) (.cons (.sym h.2.1 rfl) (.cons (.sym h.2.2.1 rfl) (.refl _)))
theorem e3 : VEq (rho x) (.sym 3) (.int .i64 (.ofNat (3 + x.n % 12))) := .sym trivial rfl
theorem e11 (G : Good x w0) : VEq (rho x) (.sym 11) x.m := by
  obtain ⟨m, _, hm⟩ := G.hm
  exact .sym (by rw [hm]; trivial) rfl
theorem e12 (G : Good x w0) : VEq (rho x) (.sym 12) x.s := .sym (strB_flat G.hs).1 rfl
theorem e13 (G : Good x w0) : VEq (rho x) (.sym 13) x.t := .sym (strB_flat G.ht).1 rfl
theorem rhoOk (G : Good x w0) {c : Nat} (h0 : c = 0 → 2 ≤ x.n % 12) (h1 : c ≠ 0 → x.n % 12 + 1 = c) : Rho (rho x) c := by
  obtain ⟨ka, ka0, hka⟩ := (val3 G.ha).2.2.2.1
  obtain ⟨kb, kb0, hkb⟩ := (val3 G.hb).2.2.2.1
  refine ⟨⟨x.n, G.hn, rfl, rfl, rfl, rfl, h0, h1⟩, ⟨ka, ka0, by show gv x.a4 = _; rw [hka]; rfl⟩, ⟨kb, kb0, by show gv x.b7 = _; rw [hkb]; rfl⟩, ?_, ?_⟩
  · obtain ⟨_, l, n, h⟩ := strB_flat G.hs
    exact ⟨_, by show gv x.s = _; rw [h]; rfl⟩
  · obtain ⟨_, l, n, h⟩ := strB_flat G.ht
    exact ⟨_, by show gv x.t = _; rw [h]; rfl⟩
theorem s27 (G : Good x w0) : EntSem Tryz.prog (rho x) w0 (27, [.sym 11], .sym 13) := by
  obtain ⟨m, _, hm⟩ := G.hm
  obtain ⟨_, l, n, ht⟩ := strB_flat G.ht
  exact (goX G.S G.h27 (by rw [hm]; rfl) (by rw [ht]; rfl)).sub (.cons (e11 G) (.refl _)) (e13 G)
theorem s98 (G : Good x w0) : EntSem Tryz.prog (rho x) w0 (98, [.sym 11], .sym 13) := by
  obtain ⟨m, _, hm⟩ := G.hm
  obtain ⟨_, l, n, ht⟩ := strB_flat G.ht
  exact (goX G.S G.h98 (by rw [hm]; rfl) (by rw [ht]; rfl)).sub (.cons (e11 G) (.refl _)) (e13 G)
theorem ne_sem (S : Setup (rho x) w0) {l : AV} (h : chkL l = true) (hg : AV.grL [l] = true) : EntSem Tryz.prog (rho x) w0 (111, [l], .ne) := by
  obtain ⟨r, h1, h2⟩ := optB_some h
  unfold neB at h2
  split at h2
  · rename_i n m
    refine (goX S h1 hg rfl).conv (fun _ _ h => h) fun φ u hu => hu.ne_of ?_
    have : 0 < n := Nat.blt_eq ▸ h2
    omega
  · cases h2
theorem argsSem {ρ : Nat → Value} {f : Nat} {a b : List AV} {v : AV} (h : EntSem Tryz.prog ρ w0 (f, b, v)) (e : VEqs ρ a b) : EntSem Tryz.prog ρ w0 (f, a, v) := h.sub e (.refl _)
theorem grLine {c : Nat} {l : List AV} (h : AV.grL l = true) : AV.grL [.agg (.int .i64 (.ofNat 1) :: .str 1 c :: .str 0 0 :: .str 0 0 :: .str 0 0 :: .nils :: l)] = true := by
  simp only [AV.grL, AV.gr, Bool.and_true, h]
theorem sLines1 (G : Good x w0) : ∀ e ∈ [lineA, lineB], EntSem Tryz.prog (rho x) w0 e := by
  intro e he
  simp only [List.mem_cons, List.not_mem_nil, or_false] at he
  rcases he with rfl | rfl
  · exact argsSem (ne_sem G.S (allB_mem linA _ G.ha) (grLine (val3 G.ha).2.2.2.2)) (.cons (.agg (.cons (.refl _) (.cons (.refl _) (.cons (.refl _) (.cons (.refl _) (.cons (.refl _) (.cons (.refl _) (eA G)))))))) (.refl _))
  · exact argsSem (ne_sem G.S (allB_mem linB _ G.hb) (grLine (val3 G.hb).2.2.2.2)) (.cons (.agg (.cons (.refl _) (.cons (.refl _) (.cons (.refl _) (.cons (.refl _) (.cons (.refl _) (.cons (.refl _) (eB G)))))))) (.refl _))
theorem sLines (G : Good x w0) (h : 2 ≤ x.n % 12) : ∀ e ∈ [lineA, lineB, lineO], EntSem Tryz.prog (rho x) w0 e := by
  intro e he
  simp only [List.mem_cons, List.not_mem_nil, or_false] at he
  rcases he with rfl | rfl | rfl
  · exact sLines1 G _ (by simp)
  · exact sLines1 G _ (by simp)
  · have hk := Nat.mod_lt x.n (show 12 > 0 by omega)
    exact argsSem (ne_sem G.S (linOAll (k := 3 + x.n % 12) (by omega) (by omega)) rfl) (.cons (.agg (.cons e3 (.refl _))) (.refl _))
end
end Go.Ev.Tb
set_option maxRecDepth 100000
namespace Go.Ev.Tb
open Go Go.Ev Go.Proofs

def Inp.put (y : Inp) (m s t : AV) : Inp := { y with m := m, s := s, t := t }
structure Frame (y : Inp) (w0 : World) : Prop where
  hn : y.n < 256
  ha : .agg [y.a4, y.a5, y.a6] ∈ vals
  hb : .agg [y.b7, y.b8, y.b9] ∈ vals
  F : ∀ m s t, Setup (rho (y.put m s t)) w0 ∧ HEntSem Tryz.prog (rho (y.put m s t)) w0 LwV.val0 ∧ HEntSem Tryz.prog (rho (y.put m s t)) w0 LwV.val1
theorem strOk : allB (fun s : Nat × Nat => strB (.str s.1 s.2)) strL = true := by kernel_rfl
section
variable {y : Inp} {w0 : World}
theorem Frame.good (F : Frame y w0) {m : Int} (hm : m ∈ intL) {s : Nat × Nat} (hs : s ∈ strL) : ∃ t, Good (y.put (.int .i64 m) (.str s.1 s.2) t) w0 := by
  obtain ⟨t, h1, h2⟩ := optB_some (allB_mem txt m hm)
  obtain ⟨h2, h3⟩ := bcond_and3 h2
  exact ⟨t, ⟨F.hn, (F.F _ _ _).1, F.ha, F.hb, ⟨m, hm, rfl⟩, h1, sameB_eq h2, h3, allB_mem strOk s hs⟩⟩
theorem int0 : (0 : Int) ∈ intL := by simp [intL]
theorem str0 : ((0, 0) : Nat × Nat) ∈ strL := by simp [strL]
variable {x : Inp}
theorem sanSem {ρ : Nat → Value} (S : Setup ρ w0) : EntSem Tryz.prog ρ w0 (4, [], .bool true) := (sanity_ok S.hC (sum0_ok' S)).sem
theorem gr3 (G : Good x w0) {o : AV} (ho : o.gr = true) : AV.grL [o, .agg [x.a4, x.a5, x.a6], .agg [x.b7, x.b8, x.b9]] = true := by
  simp only [AV.grL, AV.gr, ho, Bool.and_true, Bool.true_and]
  have h1 := (val3 G.ha).2.2.2.2
  have h2 := (val3 G.hb).2.2.2.2
  simp only [AV.grL, Bool.and_true, Bool.and_eq_true] at h1 h2 ⊢
  exact ⟨h1, h2⟩
theorem gr2 (G : Good x w0) {o : AV} (ho : o.gr = true) : AV.grL [o, .agg [x.a4, x.a5, x.a6]] = true := by
  have h1 := (val3 G.ha).2.2.2.2
  simp only [AV.grL, AV.gr, ho, Bool.and_true, Bool.true_and, Bool.and_eq_true] at h1 ⊢
  exact h1
theorem opSem (G : Good x w0) {f : Nat} {o o' r ans : AV} (h : go sumX f [o', .agg [x.a4, x.a5, x.a6], .agg [x.b7, x.b8, x.b9]] = some r) (ho : o'.gr = true) (hr : r.gr = true) (eo : VEq (rho x) o o') (e : VEq (rho x) ans r) :
    EntSem Tryz.prog (rho x) w0 (f, [o, .agg [.sym 4, .sym 5, .sym 6], .agg [.sym 7, .sym 8, .sym 9]], ans) :=
  (goX G.S h (gr3 G ho) hr).sub (.cons eo (.cons (.agg (eA G)) (.cons (.agg (eB G)) (.refl _)))) e
theorem unSem (G : Good x w0) {f : Nat} {o r ans : AV} (h : go sumX f [o, .agg [x.a4, x.a5, x.a6]] = some r) (ho : o.gr = true) (hr : r.gr = true) (e : VEq (rho x) ans r) :
    EntSem Tryz.prog (rho x) w0 (f, [o, .agg [.sym 4, .sym 5, .sym 6]], ans) :=
  (goX G.S h (gr2 G ho) hr).sub (.cons (.refl _) (.cons (.agg (eA G)) (.refl _))) e
theorem tops {ρ : Nat → Value} {φ : Key → Option Pl} {u : Value} {a b c d : AV} (h : VR ρ φ (.tup [.agg [a, b, c], d]) u) : VR ρ φ (.tup [.agg [.top, .top, .top], .top]) u := by
  cases h with
  | tup _ z h =>
  cases h with
  | cons _ v1 _ l1 h1 h =>
  cases h with
  | cons _ v2 _ l2 h2 h =>
  cases h
  cases h1 with
  | agg _ q h1 hq =>
  cases h1 with
  | cons _ q1 _ _ g1 h1 =>
  cases h1 with
  | cons _ q2 _ _ g2 h1 =>
  cases h1 with
  | cons _ q3 _ _ g3 h1 =>
  cases h1
  exact .tup _ _ (.cons _ _ _ _ (.agg _ _ (.cons _ _ _ _ (.top _) (.cons _ _ _ _ (.top _) (.cons _ _ _ _ (.top _) .nil))) hq) (.cons _ _ _ _ (.top _) .nil))
theorem topSem (G : Good x w0) {o a b c d : AV} (ho : o.gr = true) (h : go sumX 6 [o, .agg [x.a4, x.a5, x.a6], .agg [x.b7, x.b8, x.b9]] = some (.tup [.agg [a, b, c], d])) (hr : (AV.tup [.agg [a, b, c], d]).gr = true) :
    EntSem Tryz.prog (rho x) w0 (6, [o, .agg [.sym 4, .sym 5, .sym 6], .agg [.sym 7, .sym 8, .sym 9]], .tup [.agg [.top, .top, .top], .top]) :=
  (opSem G h ho hr (.refl _) (.refl _)).conv (fun _ _ h => h) fun _ _ hu => tops hu
theorem three {P : Ent → Prop} {a b c : Ent} (h1 : P a) (h2 : P b) (h3 : P c) : ∀ e ∈ [a, b, c], P e := by
  intro e he
  simp only [List.mem_cons, List.not_mem_nil, or_false] at he
  rcases he with rfl | rfl | rfl <;> assumption
theorem four {P : Ent → Prop} {a b c d : Ent} (h1 : P a) (h2 : P b) (h3 : P c) (h4 : P d) : ∀ e ∈ [a, b, c, d], P e := by
  intro e he
  simp only [List.mem_cons, List.not_mem_nil, or_false] at he
  rcases he with rfl | rfl | rfl | rfl <;> assumption
theorem eI (G : Good x w0) {m : Int} (hm : x.m = .int .i64 m) : VEq (rho x) (.tup [.agg [.int .i64 (.ofNat 3), .sym 11, .str 0 0], .str 0 0]) (mkI m) := by
  have := e11 G
  rw [hm] at this
  exact .tup (.cons (.agg (.cons (.refl _) (.cons this (.refl _)))) (.refl _))
theorem eS (G : Good x w0) {s : Nat × Nat} (hs : x.s = .str s.1 s.2) : VEq (rho x) (.tup [.agg [.int .i64 (.ofNat 4), .int .i64 (.ofNat 0), .sym 12], .str 0 0]) (mkS s) := by
  have := e12 G
  rw [hs] at this
  exact .tup (.cons (.agg (.cons (.refl _) (.cons (.refl _) (.cons this (.refl _))))) (.refl _))
def Law (y : Inp) (w0 : World) : Prop := ∀ (m s t : AV), Ans (rho (y.put m s t)) w0
theorem one_law {m s t : AV} (h : Ans (rho (y.put m s t)) w0) : Law y w0 := fun _ _ _ => h
theorem main0 (F : Frame y w0) (h2 : 2 ≤ y.n % 12) : Law y w0 := by
  have hk := Nat.mod_lt y.n (show 12 > 0 by omega)
  have h := allB_mem (allB_mem (binAll (k := 3 + y.n % 12) (by omega) (by omega)) _ F.ha) _ F.hb
  obtain ⟨r, h6, h'⟩ := optB_some h
  obtain ⟨h164, hR⟩ := bcond_and3 h'
  have h164 := sameB_eq h164
  have hR := memB_mem hR
  rw [RL_eq] at hR
  rcases List.mem_append.1 hR with h5 | hR
  · obtain ⟨t, G⟩ := F.good int0 str0
    have f := F.F (.int .i64 0) (.str (0, 0).1 (0, 0).2) t
    have hr : Rho (rho (y.put (.int .i64 0) (.str (0, 0).1 (0, 0).2) t)) 0 := rhoOk G (fun _ => h2) (fun h => (h rfl).elim)
    simp only [R5, List.mem_cons, List.not_mem_nil, or_false] at h5
    rcases h5 with rfl | rfl | rfl | rfl | rfl
    · exact one_law (LwE0.fin0 f.1 hr (sLines G h2) f.2.1 f.2.2 (s98 G) (opSem G h164 rfl rfl e3 (.refl _)) (three (sanSem f.1) (opSem G h6 rfl rfl e3 (.refl _)) (s27 G)))
    · exact one_law (LwE0.fin1 f.1 hr (sLines G h2) f.2.1 f.2.2 (s98 G) (opSem G h164 rfl rfl e3 (.refl _)) (three (sanSem f.1) (opSem G h6 rfl rfl e3 (.refl _)) (s27 G)))
    · exact one_law (LwE0.fin2 f.1 hr (sLines G h2) f.2.1 f.2.2 (s98 G) (opSem G h164 rfl rfl e3 (.refl _)) (three (sanSem f.1) (opSem G h6 rfl rfl e3 (.refl _)) (s27 G)))
    · exact one_law (LwE0.fin3 f.1 hr (sLines G h2) f.2.1 f.2.2 (s98 G) (opSem G h164 rfl rfl e3 (.refl _)) (three (sanSem f.1) (opSem G h6 rfl rfl e3 (.refl _)) (s27 G)))
    · exact one_law (LwE0.fin4 f.1 hr (sLines G h2) f.2.1 f.2.2 (s98 G) (opSem G h164 rfl rfl e3 (.refl _)) (three (sanSem f.1) (opSem G h6 rfl rfl e3 (.refl _)) (s27 G)))
  · rcases List.mem_append.1 hR with hs | hi
    · obtain ⟨s, hsm, hrs⟩ := List.mem_map.1 hs
      subst hrs
      obtain ⟨t, G⟩ := F.good int0 hsm
      have f := F.F (.int .i64 0) (.str s.1 s.2) t
      have hr : Rho (rho (y.put (.int .i64 0) (.str s.1 s.2) t)) 0 := rhoOk G (fun _ => h2) (fun h => (h rfl).elim)
      exact one_law (LwE0.fin6 f.1 hr (sLines G h2) f.2.1 f.2.2 (s98 G) (opSem G h164 rfl rfl e3 (eS G rfl)) (three (sanSem f.1) (opSem G h6 rfl rfl e3 (eS G rfl)) (s27 G)))
    · obtain ⟨m, hm, hrm⟩ := List.mem_map.1 hi
      subst hrm
      obtain ⟨t, G⟩ := F.good hm str0
      have f := F.F (.int .i64 m) (.str (0, 0).1 (0, 0).2) t
      have hr : Rho (rho (y.put (.int .i64 m) (.str (0, 0).1 (0, 0).2) t)) 0 := rhoOk G (fun _ => h2) (fun h => (h rfl).elim)
      exact one_law (LwE0.fin5 f.1 hr (sLines G h2) f.2.1 f.2.2 (s98 G) (opSem G h164 rfl rfl e3 (eI G rfl)) (three (sanSem f.1) (opSem G h6 rfl rfl e3 (eI G rfl)) (s27 G)))
theorem main1 (F : Frame y w0) (h2 : y.n % 12 = 0) : Law y w0 := by
  obtain ⟨r, h7, h'⟩ := optB_some (allB_mem un3 _ F.ha)
  obtain ⟨h216, hR⟩ := bcond_and3 h'
  have h216 := sameB_eq h216
  have hR := memB_mem hR
  have h6 := sameB_eq (allB_mem (allB_mem six3 _ F.ha) _ F.hb)
  obtain ⟨t, G⟩ := F.good int0 str0
  have f := F.F (.int .i64 0) (.str (0, 0).1 (0, 0).2) t
  have hr : Rho (rho (y.put (.int .i64 0) (.str (0, 0).1 (0, 0).2) t)) 1 := rhoOk G (fun h => (nomatch h)) (fun _ => by show y.n % 12 + 1 = 1; omega)
  simp only [List.mem_cons, List.not_mem_nil, or_false] at hR
  rcases hR with rfl | rfl | rfl
  · exact one_law (LwE1.fin0 f.1 hr (sLines1 G) f.2.1 f.2.2 (s98 G) (unSem G h216 rfl rfl (.refl _)) (four (sanSem f.1) (topSem G rfl h6 rfl) (unSem G h7 rfl rfl (.refl _)) (s27 G)))
  · exact one_law (LwE1.fin3 f.1 hr (sLines1 G) f.2.1 f.2.2 (s98 G) (unSem G h216 rfl rfl (.refl _)) (four (sanSem f.1) (topSem G rfl h6 rfl) (unSem G h7 rfl rfl (.refl _)) (s27 G)))
  · exact one_law (LwE1.fin4 f.1 hr (sLines1 G) f.2.1 f.2.2 (s98 G) (unSem G h216 rfl rfl (.refl _)) (four (sanSem f.1) (topSem G rfl h6 rfl) (unSem G h7 rfl rfl (.refl _)) (s27 G)))
theorem main2 (F : Frame y w0) (h2 : y.n % 12 = 1) : Law y w0 := by
  obtain ⟨r, h7, h'⟩ := optB_some (allB_mem un4 _ F.ha)
  obtain ⟨h216, hR⟩ := bcond_and3 h'
  have h216 := sameB_eq h216
  have hR := memB_mem hR
  have h6 := sameB_eq (allB_mem (allB_mem six4 _ F.ha) _ F.hb)
  rw [RI_eq] at hR
  rcases List.mem_append.1 hR with h5 | hi
  · obtain ⟨t, G⟩ := F.good int0 str0
    have f := F.F (.int .i64 0) (.str (0, 0).1 (0, 0).2) t
    have hr : Rho (rho (y.put (.int .i64 0) (.str (0, 0).1 (0, 0).2) t)) 2 := rhoOk G (fun h => (nomatch h)) (fun _ => by show y.n % 12 + 1 = 2; omega)
    have h5 : r ∈ R5.take 1 := h5
    simp only [R5, List.take, List.mem_cons, List.not_mem_nil, or_false] at h5
    subst h5
    exact one_law (LwE2.fin0 f.1 hr (sLines1 G) f.2.1 f.2.2 (s98 G) (unSem G h216 rfl rfl (.refl _)) (four (sanSem f.1) (topSem G rfl h6 rfl) (unSem G h7 rfl rfl (.refl _)) (s27 G)))
  · obtain ⟨m, hm, hrm⟩ := List.mem_map.1 hi
    subst hrm
    obtain ⟨t, G⟩ := F.good hm str0
    have f := F.F (.int .i64 m) (.str (0, 0).1 (0, 0).2) t
    have hr : Rho (rho (y.put (.int .i64 m) (.str (0, 0).1 (0, 0).2) t)) 2 := rhoOk G (fun h => (nomatch h)) (fun _ => by show y.n % 12 + 1 = 2; omega)
    exact one_law (LwE2.fin5 f.1 hr (sLines1 G) f.2.1 f.2.2 (s98 G) (unSem G h216 rfl rfl (eI G rfl)) (four (sanSem f.1) (topSem G rfl h6 rfl) (unSem G h7 rfl rfl (eI G rfl)) (s27 G)))
/-- the law's function answers true at every operator's byte and every two values -/
theorem main (F : Frame y w0) : Law y w0 := by
  have : y.n % 12 = 0 ∨ y.n % 12 = 1 ∨ 2 ≤ y.n % 12 := by omega
  rcases this with h | h | h
  · exact main1 F h
  · exact main2 F h
  · exact main0 F h
end
end Go.Ev.Tb
