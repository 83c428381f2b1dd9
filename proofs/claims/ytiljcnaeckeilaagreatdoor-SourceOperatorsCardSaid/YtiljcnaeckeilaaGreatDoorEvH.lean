/-
Proved here: the evaluator is sound, and so are tables of calls that were evaluated.
Conditions: none beyond those that the statements name.
-/
import Derived.Test.YtiljcnaeckeilaaGreatDoorEvF
import Derived.Test.YtiljcnaeckeilaaGreatDoorEvG
import Derived.Test.YtiljcnaeckeilaaGreatDoorEvA
import Derived.Test.YtiljcnaeckeilaaGreatDoorEvB
namespace Go.Ev
open Go

section
variable {P : Program} {ρ : Nat → Value} {w0 : World}
theorem all_forms (hm : P.follows .mixedOrders = true) (hC : Ctx P ρ w0) (fuel : Nat) : AllForms P ρ w0 fuel := ⟨fun _ hF _ _ id ops => dreg_ok hm hC hF id ops⟩
theorem evAll_cf (hm : P.follows .mixedOrders = true) (hC : Ctx P ρ w0) {base : Cf} (hH : HintOk ρ base) (hP : PrimOk P base) {tbl : Nat → Option IF} (hT : TblOk P tbl) {sum : Nat → List AV → St → CR} (hS : CallOk P ρ w0 sum) (fuel n : Nat) :
    CfOk P ρ w0 (evAll base tbl sum fuel n) := evAll_ok hC hH hP (all_forms hm hC fuel) hT hS n
end
end Go.Ev
namespace Go.Ev
open Go

/-! calls whose arguments and result speak of no block, from a table -/
mutual
def AV.gr : AV → Bool
  | .ptr _ _ | .sli _ _ _ _ | .map _ | .yld _ => false
  | .fn _ a b => AV.grL a && AV.grL b
  | .ifc _ v => AV.gr v
  | .agg l => AV.grL l
  | .tup l => AV.grL l
  | .top | .any | .sym _ | .ne | .bool _ | .int _ _ | .str _ _ | .nilp | .nils | .esl | .nilm | .glob _ | .nilf | .nili => true
def AV.grL : List AV → Bool
  | [] => true
  | a :: l => AV.gr a && AV.grL l
end

section
variable {P : Program} {ρ : Nat → Value} {w0 w w' : World} {φ φ' : Key → Option Pl} {σ σ' : St}
theorem VR.gr {a : AV} {u : Value} (h : VR ρ φ a u) (hg : a.gr = true) : VR ρ φ' a u := by
  refine VR.rec (motive_1 := fun a u _ => a.gr = true → VR ρ φ' a u) (motive_2 := fun l x _ => AV.grL l = true → VRs ρ φ' l x) ?_ ?_ ?_ ?_ ?_ ?_ ?_ ?_ ?_ ?_ ?_ ?_ ?_ ?_ ?_ ?_ ?_ ?_ ?_ ?_ ?_ ?_ ?_ ?_ ?_ h hg
  · intro v _; exact .top _
  · intro v h _; exact .any _ h
  · intro k _; exact .sym _
  · intro s h _; exact .ne _ h
  · intro b _; exact .bool _
  · intro k n _; exact .int _ _
  · intro l n s h _; exact .str _ _ _ h
  · intro _; exact .nilp
  · intro b off pl _ h; simp [AV.gr] at h
  · intro _; exact .nils
  · intro b off len c pl _ h; simp [AV.gr] at h
  · intro b off len z c pl _ _ _ h; simp [AV.gr] at h
  · intro a c _; exact .esl _ _
  · intro _; exact .nilm
  · intro b pl _ h; simp [AV.gr] at h
  · intro f a b x y _ _ ih1 ih2 h
    simp only [AV.gr, Bool.and_eq_true] at h
    exact .fn _ _ _ _ _ (ih1 h.1) (ih2 h.2)
  · intro l pl _ h; simp [AV.gr] at h
  · intro g _; exact .glob _
  · intro _; exact .nilf
  · intro t v w _ ih h; exact .ifc _ _ _ (ih (by simpa [AV.gr] using h))
  · intro _; exact .nili
  · intro l x _ h1 ih h; exact .agg _ _ (ih (by simpa [AV.gr] using h)) h1
  · intro l x _ ih h; exact .tup _ _ (ih (by simpa [AV.gr] using h))
  · intro _; exact .nil
  · intro a v l x _ _ ih1 ih2 h
    simp only [AV.grL, Bool.and_eq_true] at h
    exact .cons _ _ _ _ (ih1 h.1) (ih2 h.2)
theorem VRs.gr : ∀ {l : List AV} {x : List Value}, VRs ρ φ l x → AV.grL l = true → VRs ρ φ' l x
  | [], _, h, _ => by cases h; exact .nil
  | a :: l, _, h, hg => by
    cases h with
    | cons _ v _ x h hs =>
    simp only [AV.grL, Bool.and_eq_true] at hg
    exact .cons _ _ _ _ (h.gr hg.1) (VRs.gr hs hg.2)
theorem Go1.forget' {φ1 : Key → Option Pl} {n : Key} (h : WR P ρ w0 φ σ w) (hg : Go1 P ρ w0 φ1 ⟨.lf, n⟩ w φ' σ' w') : Go1 P ρ w0 φ σ w φ σ w' := by
  have hk : ∀ c, c < w.heap.size → w'.heap[c]? = w.heap[c]? := by
    intro c hc
    refine hg.keep c hc ?_
    rintro ⟨k, b, pl, h1, _⟩
    simp only [Tr.get_lf] at h1
    cases h1
  refine ⟨PExt.refl _, ⟨?_, h.inj, h.fresh, hg.rel.base, h.low, hg.rel.top⟩, hg.os, hg.tape, hg.output, hg.size, fun c hc _ => hk c hc, fun c hc => .inr hc, Nat.le_refl _, fun _ _ h => .inl h⟩
  intro k b hkb
  obtain ⟨pl, o, h1, h2, h3⟩ := h.live k b hkb
  exact ⟨pl, o, h1, by rw [hk _ (Array.getElem?_eq_some_iff.1 h2).1]; exact h2, h3⟩
theorem WR.none (h : WR P ρ w0 φ σ w) (n : Key) : WR P ρ w0 (fun _ => none) ⟨.lf, n⟩ w := by
  refine ⟨?_, ?_, ?_, h.base, ?_, h.top⟩
  · intro k b hk; simp only [Tr.get_lf] at hk; cases hk
  · intro k k' b b' _ _ hk; simp only [Tr.get_lf] at hk; cases hk
  · intro k pl hk; cases hk
  · intro k b pl hk; simp only [Tr.get_lf] at hk; cases hk
end

abbrev Ent := Nat × List AV × AV
noncomputable def tabV (t : List Ent) (f : Nat) (args : List AV) : Option AV :=
  List.rec none (fun x _ ih => bcond (bcond (Nat.beq x.1 f) (AV.beqL x.2.1 args) false) (some x.2.2) ih) t
noncomputable def sumT (t : List Ent) (rest : Nat → List AV → St → CR) (f : Nat) (args : List AV) (σ : St) : CR :=
  Option.rec (rest f args σ) (fun v => .val v σ) (tabV t f args)
theorem tabV_mem : ∀ {t : List Ent} {f : Nat} {args : List AV} {v : AV}, tabV t f args = some v → (f, args, v) ∈ t
  | [], _, _, _, h => by cases h
  | x :: t, f, args, v, h => by
    have h3 : bcond (bcond (Nat.beq x.1 f) (AV.beqL x.2.1 args) false) (some x.2.2) (tabV t f args) = some v := h
    clear h
    rw [bcond_eq] at h3
    split at h3
    · rename_i hc
      obtain ⟨h1, h2⟩ := bcond_and hc
      have h1 := Nat.eq_of_beq_eq_true h1
      have h2 := AV.beqL_eq _ _ h2
      injection h3 with h3
      have : x = (f, args, v) := by rw [← h1, ← h2, ← h3]
      rw [this]; exact List.mem_cons_self
    · exact List.mem_cons_of_mem _ (tabV_mem h3)

/-- an entry of the table stands for a call that was evaluated -/
def EntOk (P : Program) (ρ : Nat → Value) (w0 : World) (x : Ent) : Prop :=
  AV.grL x.2.1 = true ∧ x.2.2.gr = true ∧ ∃ call σ', CallOk P ρ w0 call ∧ call x.1 x.2.1 ⟨.lf, .xH⟩ = .val x.2.2 σ'
section
variable {P : Program} {ρ : Nat → Value} {w0 : World}
theorem sumT_ok {t : List Ent} (ht : ∀ x ∈ t, EntOk P ρ w0 x) {rest : Nat → List AV → St → CR} (hr : CallOk P ρ w0 rest) : CallOk P ρ w0 (sumT t rest) := by
  have inv : ∀ {f : Nat} {args : List AV} {σ : St} {c : CR}, sumT t rest f args σ = c → rest f args σ = c ∨ ∃ v, c = .val v σ ∧ EntOk P ρ w0 (f, args, v) := by
    intro f args σ c h
    have h : (Option.rec (rest f args σ) (fun v => .val v σ) (tabV t f args) : CR) = c := h
    cases hv : tabV t f args with
    | none => rw [hv] at h; exact .inl h
    | some v => rw [hv] at h; exact .inr ⟨v, h.symm, ht _ (tabV_mem hv)⟩
  constructor
  · intro f args σ v σ' h φ w vs hW hv r
    rcases inv h with h | ⟨v', h, g1, g2, cf, σ2, hF, hc⟩
    · exact hr.val f args σ v σ' h φ w vs hW hv r
    · cases h
      refine (hF.val f args _ _ σ2 hc (fun _ => none) w vs (hW.none .xH) (hv.gr g1) r).mono ?_
      rintro en w' ⟨u, φ', rfl, hu, hg⟩
      exact ⟨u, φ, rfl, hu.gr g2, Go1.forget' hW hg⟩
  · intro f args σ v σ' h φ w vs hW hv r
    rcases inv h with h | ⟨v', h, _⟩
    · exact hr.pan f args σ v σ' h φ w vs hW hv r
    · cases h
  · intro f args σ
    refine ⟨fun v σ' h => ?_, fun v σ' h => ?_⟩
    · rcases inv h with h | ⟨v', h, g1, g2, cf, σ2, hF, hc⟩
      · exact (hr.body f args σ).1 v σ' h
      · exact (hF.body f args _).1 _ _ hc
    · rcases inv h with h | ⟨v', h, _⟩
      · exact (hr.body f args σ).2 v σ' h
      · cases h
theorem noSum_ok : CallOk P ρ w0 (fun _ _ _ => .bad) :=
  ⟨fun _ _ _ _ _ h => (nomatch h), fun _ _ _ _ _ h => (nomatch h), fun _ _ _ => ⟨fun _ _ h => (nomatch h), fun _ _ h => (nomatch h)⟩⟩
end
end Go.Ev
namespace Go.Ev
/-! the same evaluator, laid out for the kernel: tables without loose variables -/
/-! trees -/
noncomputable def getA : Key → Tr AV → Option AV :=
  Key.rec (motive := fun _ => Tr AV → Option AV)
    (Tr.rec (motive := fun _ => Option AV) none (fun v _ _ _ _ => v))
    (fun _ ih => Tr.rec (motive := fun _ => Option AV) none (fun _ l _ _ _ => ih l))
    (fun _ ih => Tr.rec (motive := fun _ => Option AV) none (fun _ _ r _ _ => ih r))
noncomputable def getB : Key → Tr Blk → Option Blk :=
  Key.rec (motive := fun _ => Tr Blk → Option Blk)
    (Tr.rec (motive := fun _ => Option Blk) none (fun v _ _ _ _ => v))
    (fun _ ih => Tr.rec (motive := fun _ => Option Blk) none (fun _ l _ _ _ => ih l))
    (fun _ ih => Tr.rec (motive := fun _ => Option Blk) none (fun _ _ r _ _ => ih r))
noncomputable def setA : Key → Tr AV → Option AV → Tr AV :=
  Key.rec (motive := fun _ => Tr AV → Option AV → Tr AV)
    (Tr.rec (motive := fun _ => Option AV → Tr AV) (fun x => .nd x .lf .lf) (fun _ l r _ _ x => .nd x l r))
    (fun _ ih => Tr.rec (motive := fun _ => Option AV → Tr AV) (fun x => .nd none (ih .lf x) .lf) (fun v l r _ _ x => .nd v (ih l x) r))
    (fun _ ih => Tr.rec (motive := fun _ => Option AV → Tr AV) (fun x => .nd none .lf (ih .lf x)) (fun v l r _ _ x => .nd v l (ih r x)))
noncomputable def setB : Key → Tr Blk → Option Blk → Tr Blk :=
  Key.rec (motive := fun _ => Tr Blk → Option Blk → Tr Blk)
    (Tr.rec (motive := fun _ => Option Blk → Tr Blk) (fun x => .nd x .lf .lf) (fun _ l r _ _ x => .nd x l r))
    (fun _ ih => Tr.rec (motive := fun _ => Option Blk → Tr Blk) (fun x => .nd none (ih .lf x) .lf) (fun v l r _ _ x => .nd v (ih l x) r))
    (fun _ ih => Tr.rec (motive := fun _ => Option Blk → Tr Blk) (fun x => .nd none .lf (ih .lf x)) (fun v l r _ _ x => .nd v l (ih r x)))
theorem getA_eq : ∀ (k : Key) (t : Tr AV), getA k t = t.get k
  | .xH, .lf => rfl | .xH, .nd _ _ _ => rfl
  | .xO _k, .lf => rfl | .xO k, .nd _ l _ => getA_eq k l
  | .xI _k, .lf => rfl | .xI k, .nd _ _ r => getA_eq k r
theorem getB_eq : ∀ (k : Key) (t : Tr Blk), getB k t = t.get k
  | .xH, .lf => rfl | .xH, .nd _ _ _ => rfl
  | .xO _k, .lf => rfl | .xO k, .nd _ l _ => getB_eq k l
  | .xI _k, .lf => rfl | .xI k, .nd _ _ r => getB_eq k r
theorem setA_eq (x : Option AV) : ∀ (k : Key) (t : Tr AV), setA k t x = t.set x k
  | .xH, .lf => rfl | .xH, .nd _ _ _ => rfl
  | .xO k, .lf => congrArg (fun z => Tr.nd none z .lf) (setA_eq x k .lf) | .xO k, .nd v l r => congrArg (fun z => Tr.nd v z r) (setA_eq x k l)
  | .xI k, .lf => congrArg (fun z => Tr.nd none .lf z) (setA_eq x k .lf) | .xI k, .nd v l r => congrArg (fun z => Tr.nd v l z) (setA_eq x k r)
theorem setB_eq (x : Option Blk) : ∀ (k : Key) (t : Tr Blk), setB k t x = t.set x k
  | .xH, .lf => rfl | .xH, .nd _ _ _ => rfl
  | .xO k, .lf => congrArg (fun z => Tr.nd none z .lf) (setB_eq x k .lf) | .xO k, .nd v l r => congrArg (fun z => Tr.nd v z r) (setB_eq x k l)
  | .xI k, .lf => congrArg (fun z => Tr.nd none .lf z) (setB_eq x k .lf) | .xI k, .nd v l r => congrArg (fun z => Tr.nd v l z) (setB_eq x k r)
/-! operands, guards, results -/
noncomputable def optTop : Option AV → AV := Option.rec AV.top (fun v => v)
noncomputable def evQ : Opd → Env → AV := Opd.rec (fun k e => optTop (getA k e)) (fun v _ => v)
theorem evQ_eq (x : Opd) (e : Env) : evQ x e = x.ev e := by
  cases x with
  | t k => show optTop (getA k e) = _; rw [getA_eq]; rfl
  | c v => rfl
noncomputable def putO : Option Key → Env → AV → Env := Option.rec (fun e _ => e) (fun k e v => setA k e (some v))
theorem putO_eq (e : Env) (d : Option Key) (v : AV) : putO d e v = putD e d v := by
  cases d with
  | none => rfl
  | some k => exact setA_eq _ _ _
noncomputable def wBool : Bool → Bool → Want := Bool.rec (Bool.rec .yes .no) (Bool.rec .no .yes)
noncomputable def wTup : List AV → Want := List.rec .no (fun _ _ _ => .bad)

noncomputable def wVal : AV → Bool → Want :=
  AV.rec (motive_1 := fun _ => Bool → Want) (motive_2 := fun _ => Unit)
    (fun _ => .bad)
    (fun _ => .bad)
    (fun _ _ => .bad)
    (fun _ => .bad)
    (fun c g => wBool c g)
    (fun _ _ _ => .bad)
    (fun _ _ _ => .bad)
    (fun _ => .bad)
    (fun _ _ _ => .bad)
    (fun _ => .bad)
    (fun _ _ _ _ _ => .bad)
    (fun _ => .bad)
    (fun _ => .bad)
    (fun _ _ => .bad)
    (fun _ _ _ _ _ _ => .bad)
    (fun _ _ => .bad)
    (fun _ _ => .bad)
    (fun _ => .bad)
    (fun _ _ _ _ => .bad)
    (fun _ => .bad)
    (fun _ _ _ => .bad)
    (fun l _ _g => wTup l) () (fun _ _ _ _ => ())

noncomputable def wOpt : Option AV → Bool → Want := Option.rec (fun _ => .bad) (fun v g => wVal v g)
noncomputable def wantQ : Option (Key × Bool) → Env → Want := Option.rec (fun _ => .yes) (fun p e => wOpt (getA p.1 e) p.2)
theorem wantQ_eq (g : Option (Key × Bool)) (e : Env) : wantQ g e = wantV g e := by
  cases g with
  | none => rfl
  | some p =>
    obtain ⟨k, b⟩ := p
    show wOpt (getA k e) b = Option.rec .bad (fun v => match v with
      | .bool c => Bool.rec (bcond b .no .yes) (bcond b .yes .no) c
      | .tup [] => .no
      | _ => .bad) (e.get k)
    rw [getA_eq]
    cases e.get k with
    | none => rfl
    | some v =>
      cases v <;> first | rfl | skip
      · rename_i c; cases c <;> cases b <;> rfl
      · rename_i l; cases l <;> rfl
/-! blocks -/
noncomputable def cellsB : Blk → Option (Nat × List AV) := Blk.rec (fun t c => some (t, c)) (fun _ _ => none) (fun _ _ _ => none) (fun _ _ => none) (fun _ _ _ _ _ _ => none)
noncomputable def oCells : Option Blk → Option (Nat × List AV) := Option.rec none cellsB
noncomputable def cellsQ (σ : St) (k : Key) : Option (Nat × List AV) := oCells (getB k σ.heap)
theorem cellsQ_eq (σ : St) (k : Key) : cellsQ σ k = σ.cells k := by
  show oCells (getB k σ.heap) = _
  rw [getB_eq]
  show _ = obind (σ.heap.get k) Blk.cellsO
  cases σ.heap.get k with
  | none => rfl
  | some b => cases b <;> rfl
noncomputable def nthQ : List AV → Nat → Option AV := List.rec (motive := fun _ => Nat → Option AV) (fun _ => none) (fun a _ ih => Nat.rec (some a) (fun m _ => ih m))
theorem nthQ_eq : ∀ (l : List AV) (n : Nat), nthQ l n = nthL l n
  | [], _ => rfl
  | _ :: _, 0 => rfl
  | _ :: l, n + 1 => nthQ_eq l n
noncomputable def oNth : Option (Nat × List AV) → Nat → Option AV := Option.rec (fun _ => none) (fun p n => nthQ p.2 n)
noncomputable def oTakeN : Option (Nat × List AV) → Nat → Nat → Option (List AV) := Option.rec (fun _ _ => none) (fun p o n => takeL n (dropL p.2 o))
noncomputable def oV : Option AV → St → OR := Option.rec (fun _ => .bad) (fun v σ => .val v σ)
theorem oV_eq (x : Option AV) (σ : St) : oV x σ = OR.ofV x σ := by cases x <;> rfl
noncomputable def oAgg : Option (List AV) → St → OR := Option.rec (fun _ => .bad) (fun l σ => .val (.agg l) σ)

noncomputable def ldP : AV → St → OR :=
  AV.rec (motive_1 := fun _ => St → OR) (motive_2 := fun _ => Unit)
    (fun _ => .bad)
    (fun _ => .bad)
    (fun _ _ => .bad)
    (fun _ => .bad)
    (fun _ _ => .bad)
    (fun _ _ _ => .bad)
    (fun _ _ _ => .bad)
    (fun _ => .bad)
    (fun b o σ => oV (oNth (cellsQ σ b) o) σ)
    (fun _ => .bad)
    (fun _ _ _ _ _ => .bad)
    (fun _ => .bad)
    (fun _ => .bad)
    (fun _ _ => .bad)
    (fun _ _ _ _ _ _ => .bad)
    (fun _ _ => .bad)
    (fun _ _ => .bad)
    (fun _ => .bad)
    (fun _ _ _ _ => .bad)
    (fun _ => .bad)
    (fun _ _ _ => .bad)
    (fun _ _ _ => .bad) () (fun _ _ _ _ => ())

noncomputable def ldNP : AV → Nat → St → OR :=
  AV.rec (motive_1 := fun _ => Nat → St → OR) (motive_2 := fun _ => Unit)
    (fun _ _ => .bad)
    (fun _ _ => .bad)
    (fun _ _ _ => .bad)
    (fun _ _ => .bad)
    (fun _ _ _ => .bad)
    (fun _ _ _ _ => .bad)
    (fun _ _ _ _ => .bad)
    (fun _ _ => .bad)
    (fun b o n σ => oAgg (oTakeN (cellsQ σ b) o n) σ)
    (fun _ _ => .bad)
    (fun _ _ _ _ _ _ => .bad)
    (fun _ _ => .bad)
    (fun _ _ => .bad)
    (fun _ _ _ => .bad)
    (fun _ _ _ _ _ _ _ => .bad)
    (fun _ _ _ => .bad)
    (fun _ _ _ => .bad)
    (fun _ _ => .bad)
    (fun _ _ _ _ _ => .bad)
    (fun _ _ => .bad)
    (fun _ _ _ _ => .bad)
    (fun _ _ _ _ => .bad) () (fun _ _ _ _ => ())

noncomputable def fldAP : AV → Nat → St → OR :=
  AV.rec (motive_1 := fun _ => Nat → St → OR) (motive_2 := fun _ => Unit)
    (fun _ _ => .bad)
    (fun _ _ => .bad)
    (fun _ _ _ => .bad)
    (fun _ _ => .bad)
    (fun _ _ _ => .bad)
    (fun _ _ _ _ => .bad)
    (fun _ _ _ _ => .bad)
    (fun _ _ => .bad)
    (fun b o f σ => natK (Nat.add o f) fun o => .val (.ptr b o) σ)
    (fun _ _ => .bad)
    (fun _ _ _ _ _ _ => .bad)
    (fun _ _ => .bad)
    (fun _ _ => .bad)
    (fun _ _ _ => .bad)
    (fun _ _ _ _ _ _ _ => .bad)
    (fun _ _ _ => .bad)
    (fun _ _ _ => .bad)
    (fun _ _ => .bad)
    (fun _ _ _ _ _ => .bad)
    (fun _ _ => .bad)
    (fun _ _ _ _ => .bad)
    (fun _ _ _ _ => .bad) () (fun _ _ _ _ => ())

noncomputable def ixAB : Bool → Nat → Key → Nat → Nat → St → OR := Bool.rec (fun _ _ _ _ _ => .bad) (fun m b o z σ => natK (Nat.add o (Nat.mul m z)) fun o => .val (.ptr b o) σ)
noncomputable def ixAN : Int → Key → Nat → Nat → Nat → St → OR := Int.rec (fun m b o l z σ => ixAB (Nat.blt m l) m b o z σ) (fun _ _ _ _ _ _ => .bad)

noncomputable def ixAI : AV → Key → Nat → Nat → Nat → St → OR :=
  AV.rec (motive_1 := fun _ => Key → Nat → Nat → Nat → St → OR) (motive_2 := fun _ => Unit)
    (fun _ _ _ _ _ => .bad)
    (fun _ _ _ _ _ => .bad)
    (fun _ _ _ _ _ _ => .bad)
    (fun _ _ _ _ _ => .bad)
    (fun _ _ _ _ _ _ => .bad)
    (fun _ i b o l z σ => ixAN i b o l z σ)
    (fun _ _ _ _ _ _ _ => .bad)
    (fun _ _ _ _ _ => .bad)
    (fun _ _ _ _ _ _ _ => .bad)
    (fun _ _ _ _ _ => .bad)
    (fun _ _ _ _ _ _ _ _ _ => .bad)
    (fun _ _ _ _ _ => .bad)
    (fun _ _ _ _ _ => .bad)
    (fun _ _ _ _ _ _ => .bad)
    (fun _ _ _ _ _ _ _ _ _ _ => .bad)
    (fun _ _ _ _ _ _ => .bad)
    (fun _ _ _ _ _ _ => .bad)
    (fun _ _ _ _ _ => .bad)
    (fun _ _ _ _ _ _ _ _ => .bad)
    (fun _ _ _ _ _ => .bad)
    (fun _ _ _ _ _ _ _ => .bad)
    (fun _ _ _ _ _ _ _ => .bad) () (fun _ _ _ _ => ())

noncomputable def ixAS : AV → AV → Nat → St → OR :=
  AV.rec (motive_1 := fun _ => AV → Nat → St → OR) (motive_2 := fun _ => Unit)
    (fun _ _ _ => .bad)
    (fun _ _ _ => .bad)
    (fun _ _ _ _ => .bad)
    (fun _ _ _ => .bad)
    (fun _ _ _ _ => .bad)
    (fun _ _ _ _ _ => .bad)
    (fun _ _ _ _ _ => .bad)
    (fun _ _ _ => .bad)
    (fun _ _ _ _ _ => .bad)
    (fun _ _ _ => .bad)
    (fun b o l _ i z σ => ixAI i b o l z σ)
    (fun _ _ _ => .bad)
    (fun _ _ _ => .bad)
    (fun _ _ _ _ => .bad)
    (fun _ _ _ _ _ _ _ _ => .bad)
    (fun _ _ _ _ => .bad)
    (fun _ _ _ _ => .bad)
    (fun _ _ _ => .bad)
    (fun _ _ _ _ _ _ => .bad)
    (fun _ _ _ => .bad)
    (fun _ _ _ _ _ => .bad)
    (fun _ _ _ _ _ => .bad) () (fun _ _ _ _ => ())

noncomputable def pickT : Bool → Opd → Opd → Env → St → OR := Bool.rec (fun _ y e σ => .val (evQ y e) σ) (fun x _ e σ => .val (evQ x e) σ)

noncomputable def pickB : AV → Opd → Opd → Env → St → OR :=
  AV.rec (motive_1 := fun _ => Opd → Opd → Env → St → OR) (motive_2 := fun _ => Unit)
    (fun _ _ _ _ => .bad)
    (fun _ _ _ _ => .bad)
    (fun _ _ _ _ _ => .bad)
    (fun _ _ _ _ => .bad)
    (fun t x y e σ => pickT t x y e σ)
    (fun _ _ _ _ _ _ => .bad)
    (fun _ _ _ _ _ _ => .bad)
    (fun _ _ _ _ => .bad)
    (fun _ _ _ _ _ _ => .bad)
    (fun _ _ _ _ => .bad)
    (fun _ _ _ _ _ _ _ _ => .bad)
    (fun _ _ _ _ => .bad)
    (fun _ _ _ _ => .bad)
    (fun _ _ _ _ _ => .bad)
    (fun _ _ _ _ _ _ _ _ _ => .bad)
    (fun _ _ _ _ _ => .bad)
    (fun _ _ _ _ _ => .bad)
    (fun _ _ _ _ => .bad)
    (fun _ _ _ _ _ _ _ => .bad)
    (fun _ _ _ _ => .bad)
    (fun _ _ _ _ _ _ => .bad)
    (fun _ _ _ _ _ _ => .bad) () (fun _ _ _ _ => ())

noncomputable def notB : AV → St → OR :=
  AV.rec (motive_1 := fun _ => St → OR) (motive_2 := fun _ => Unit)
    (fun _ => .bad)
    (fun _ => .bad)
    (fun _ _ => .bad)
    (fun _ => .bad)
    (fun t σ => .val (.bool (bcond t false true)) σ)
    (fun _ _ _ => .bad)
    (fun _ _ _ => .bad)
    (fun _ => .bad)
    (fun _ _ _ => .bad)
    (fun _ => .bad)
    (fun _ _ _ _ _ => .bad)
    (fun _ => .bad)
    (fun _ => .bad)
    (fun _ _ => .bad)
    (fun _ _ _ _ _ _ => .bad)
    (fun _ _ => .bad)
    (fun _ _ => .bad)
    (fun _ => .bad)
    (fun _ _ _ _ => .bad)
    (fun _ => .bad)
    (fun _ _ _ => .bad)
    (fun _ _ _ => .bad) () (fun _ _ _ _ => ())

noncomputable def nilC : AV → St → OR :=
  AV.rec (motive_1 := fun _ => St → OR) (motive_2 := fun _ => Unit)
    (fun _ => .bad)
    (fun _ => .bad)
    (fun _ _ => .bad)
    (fun _ => .bad)
    (fun _ _ => .bad)
    (fun _ _ _ => .bad)
    (fun _ _ _ => .bad)
    (fun _ => .bad)
    (fun b o σ => .val (.ptr b o) σ)
    (fun _ => .bad)
    (fun _ _ _ _ _ => .bad)
    (fun _ => .bad)
    (fun _ => .bad)
    (fun _ _ => .bad)
    (fun f x y _ _ σ => .val (.fn f x y) σ)
    (fun _ _ => .bad)
    (fun _ _ => .bad)
    (fun _ => .bad)
    (fun t v _ σ => .val (.ifc t v) σ)
    (fun _ => .bad)
    (fun _ _ _ => .bad)
    (fun _ _ _ => .bad) () (fun _ _ _ _ => ())

noncomputable def extrT : AV → Nat → St → OR :=
  AV.rec (motive_1 := fun _ => Nat → St → OR) (motive_2 := fun _ => Unit)
    (fun _ _ => .bad)
    (fun _ _ => .bad)
    (fun _ _ _ => .bad)
    (fun _ _ => .bad)
    (fun _ _ _ => .bad)
    (fun _ _ _ _ => .bad)
    (fun _ _ _ _ => .bad)
    (fun _ _ => .bad)
    (fun _ _ _ _ => .bad)
    (fun _ _ => .bad)
    (fun _ _ _ _ _ _ => .bad)
    (fun _ _ => .bad)
    (fun _ _ => .bad)
    (fun _ _ _ => .bad)
    (fun _ _ _ _ _ _ _ => .bad)
    (fun _ _ _ => .bad)
    (fun _ _ _ => .bad)
    (fun _ _ => .bad)
    (fun _ _ _ _ _ => .bad)
    (fun _ _ => .bad)
    (fun _ _ _ _ => .bad)
    (fun l _ i σ => oV (nthQ l i) σ) () (fun _ _ _ _ => ())

noncomputable def fldT : AV → Nat → St → OR :=
  AV.rec (motive_1 := fun _ => Nat → St → OR) (motive_2 := fun _ => Unit)
    (fun _ _ => .bad)
    (fun _ _ => .bad)
    (fun _ _ _ => .bad)
    (fun _ _ => .bad)
    (fun _ _ _ => .bad)
    (fun _ _ _ _ => .bad)
    (fun _ _ _ _ => .bad)
    (fun _ _ => .bad)
    (fun _ _ _ _ => .bad)
    (fun _ _ => .bad)
    (fun _ _ _ _ _ _ => .bad)
    (fun _ _ => .bad)
    (fun _ _ => .bad)
    (fun _ _ _ => .bad)
    (fun _ _ _ _ _ _ _ => .bad)
    (fun _ _ _ => .bad)
    (fun _ _ _ => .bad)
    (fun _ _ => .bad)
    (fun _ _ _ _ _ => .bad)
    (fun _ _ => .bad)
    (fun l _ i σ => oV (nthQ l i) σ)
    (fun _ _ _ _ => .bad) () (fun _ _ _ _ => ())

noncomputable def lenSl : AV → St → OR :=
  AV.rec (motive_1 := fun _ => St → OR) (motive_2 := fun _ => Unit)
    (fun _ => .bad)
    (fun _ => .bad)
    (fun _ _ => .bad)
    (fun _ => .bad)
    (fun _ _ => .bad)
    (fun _ _ _ => .bad)
    (fun _ _ _ => .bad)
    (fun _ => .bad)
    (fun _ _ _ => .bad)
    (fun σ => .val (.int .i64 (Int.ofNat 0)) σ)
    (fun _ _ n _ σ => .val (.int .i64 (Int.ofNat n)) σ)
    (fun σ => .val (.int .i64 (Int.ofNat 0)) σ)
    (fun _ => .bad)
    (fun _ _ => .bad)
    (fun _ _ _ _ _ _ => .bad)
    (fun _ _ => .bad)
    (fun _ _ => .bad)
    (fun _ => .bad)
    (fun _ _ _ _ => .bad)
    (fun _ => .bad)
    (fun _ _ _ => .bad)
    (fun _ _ _ => .bad) () (fun _ _ _ _ => ())

noncomputable def lenSt : AV → St → OR :=
  AV.rec (motive_1 := fun _ => St → OR) (motive_2 := fun _ => Unit)
    (fun _ => .bad)
    (fun _ => .bad)
    (fun _ _ => .bad)
    (fun _ => .bad)
    (fun _ _ => .bad)
    (fun _ _ _ => .bad)
    (fun n _ σ => .val (.int .i64 (Int.ofNat n)) σ)
    (fun _ => .bad)
    (fun _ _ _ => .bad)
    (fun _ => .bad)
    (fun _ _ _ _ _ => .bad)
    (fun _ => .bad)
    (fun _ => .bad)
    (fun _ _ => .bad)
    (fun _ _ _ _ _ _ => .bad)
    (fun _ _ => .bad)
    (fun _ _ => .bad)
    (fun _ => .bad)
    (fun _ _ _ _ => .bad)
    (fun _ => .bad)
    (fun _ _ _ => .bad)
    (fun _ _ _ => .bad) () (fun _ _ _ _ => ())

/-! arithmetic -/
noncomputable def fitsQ : IntKind → Int → Bool :=
  IntKind.rec (fun _ => false) (fun _ => false) (Int.rec (fun a => Nat.blt a 2147483648) (fun a => Nat.blt a 2147483648)) (Int.rec (fun a => Nat.blt a 9223372036854775808) (fun a => Nat.blt a 9223372036854775808))
    (Int.rec (fun a => Nat.blt a 256) (fun _ => false)) (fun _ => false) (fun _ => false) (Int.rec (fun a => Nat.blt a 18446744073709551616) (fun _ => false))
theorem fitsQ_eq (k : IntKind) (n : Int) : fitsQ k n = fitsF k n := by cases k <;> rfl
noncomputable def wrapB : Bool → IntKind → Int → Int := Bool.rec (fun k n => k.wrap n) (fun _ n => n)
noncomputable def mkOf : Int → IntKind → Option AV := Int.rec (fun m k => natK m fun m => some (.int k (Int.ofNat m))) (fun m k => natK m fun m => some (.int k (Int.negSucc m)))
noncomputable def mkQ (k : IntKind) (n : Int) : Option AV := mkOf (wrapB (fitsQ k n) k n) k
theorem mkQ_eq (k : IntKind) (n : Int) : mkQ k n = mkInt k n some := by
  show mkOf (wrapB (fitsQ k n) k n) k = intK (bcond (fitsF k n) n (k.wrap n)) fun n => some (.int k n)
  rw [fitsQ_eq]
  have : ∀ z : Int, mkOf z k = intK z fun n => some (.int k n) := fun z => by cases z <;> rfl
  cases fitsF k n <;> exact this _
noncomputable def addN : Int → Int → Int := Int.rec (fun a => Int.rec (fun b => Int.ofNat (Nat.add a b)) (fun b => Int.add (Int.ofNat a) (Int.negSucc b))) (fun a y => Int.add (Int.negSucc a) y)
noncomputable def orB (b : Bool) : Bool := b
noncomputable def binIT : BinOp → IntKind → Int → Int → Option AV :=
  BinOp.rec (fun k x y => mkQ k (addN x y)) (fun k x y => mkQ k (Int.sub x y)) (fun k x y => mkQ k (Int.mul x y)) (fun k x y => binI .quo k x y) (fun k x y => binI .rem k x y)
    (fun k x y => binI .and k x y) (fun _ _ _ => none) (fun _ _ _ => none) (fun _ _ _ => none) (fun k x y => binI .shr k x y) (fun _ _ _ => none)
    (fun _ x y => some (.bool (eqI x y))) (fun _ x y => some (.bool (bcond (eqI x y) false true))) (fun _ x y => some (.bool (ltI x y))) (fun _ x y => some (.bool (bcond (ltI y x) false true)))
    (fun _ x y => some (.bool (ltI y x))) (fun _ x y => some (.bool (bcond (ltI x y) false true)))
theorem addN_eq (x y : Int) : addN x y = Int.add x y := by cases x <;> cases y <;> rfl
theorem binIT_eq (op : BinOp) (k : IntKind) (x y : Int) : binIT op k x y = binI op k x y := by
  cases op <;> first | rfl | skip
  · show mkQ k (addN x y) = _; rw [addN_eq, mkQ_eq]; rfl
  · show mkQ k (Int.sub x y) = _; rw [mkQ_eq]; rfl
  · show mkQ k (Int.mul x y) = _; rw [mkQ_eq]; rfl
noncomputable def kIdx : IntKind → Nat := IntKind.rec 0 1 2 3 4 5 6 7
noncomputable def bin2 : Bool → BinOp → IntKind → Int → Int → Option AV := Bool.rec (fun _ _ _ _ => none) (fun op k x y => binIT op k x y)
/-- shr takes operands of two kinds -/
noncomputable def isShr : BinOp → Bool := BinOp.rec false false false false false false false false false true false false false false false false false
noncomputable def bin1 : Bool → BinOp → IntKind → Int → IntKind → Int → Option AV := Bool.rec (fun op k x l y => bin2 (Nat.beq (kIdx k) (kIdx l)) op k x y) (fun _op k x _ y => binI .shr k x y)

noncomputable def binY : AV → AV → IntKind → Int → Cf → BinOp → EqS → Option AV :=
  AV.rec (motive_1 := fun _ => AV → IntKind → Int → Cf → BinOp → EqS → Option AV) (motive_2 := fun _ => Unit)
    (fun y k a cf op s => binV cf op s (.int k a) y)
    (fun y k a cf op s => binV cf op s (.int k a) y)
    (fun _ y k a cf op s => binV cf op s (.int k a) y)
    (fun y k a cf op s => binV cf op s (.int k a) y)
    (fun _ y k a cf op s => binV cf op s (.int k a) y)
    (fun l b _y k a _cf op _s => bin1 (isShr op) op k a l b)
    (fun _ _ y k a cf op s => binV cf op s (.int k a) y)
    (fun y k a cf op s => binV cf op s (.int k a) y)
    (fun _ _ y k a cf op s => binV cf op s (.int k a) y)
    (fun y k a cf op s => binV cf op s (.int k a) y)
    (fun _ _ _ _ y k a cf op s => binV cf op s (.int k a) y)
    (fun y k a cf op s => binV cf op s (.int k a) y)
    (fun y k a cf op s => binV cf op s (.int k a) y)
    (fun _ y k a cf op s => binV cf op s (.int k a) y)
    (fun _ _ _ _ _ y k a cf op s => binV cf op s (.int k a) y)
    (fun _ y k a cf op s => binV cf op s (.int k a) y)
    (fun _ y k a cf op s => binV cf op s (.int k a) y)
    (fun y k a cf op s => binV cf op s (.int k a) y)
    (fun _ _ _ y k a cf op s => binV cf op s (.int k a) y)
    (fun y k a cf op s => binV cf op s (.int k a) y)
    (fun _ _ y k a cf op s => binV cf op s (.int k a) y)
    (fun _ _ y k a cf op s => binV cf op s (.int k a) y) () (fun _ _ _ _ => ())

noncomputable def binX : AV → AV → AV → Cf → BinOp → EqS → Option AV :=
  AV.rec (motive_1 := fun _ => AV → AV → Cf → BinOp → EqS → Option AV) (motive_2 := fun _ => Unit)
    (fun x y cf op s => binV cf op s x y)
    (fun x y cf op s => binV cf op s x y)
    (fun _ x y cf op s => binV cf op s x y)
    (fun x y cf op s => binV cf op s x y)
    (fun _ x y cf op s => binV cf op s x y)
    (fun k a _x y cf op s => binY y y k a cf op s)
    (fun _ _ x y cf op s => binV cf op s x y)
    (fun x y cf op s => binV cf op s x y)
    (fun _ _ x y cf op s => binV cf op s x y)
    (fun x y cf op s => binV cf op s x y)
    (fun _ _ _ _ x y cf op s => binV cf op s x y)
    (fun x y cf op s => binV cf op s x y)
    (fun x y cf op s => binV cf op s x y)
    (fun _ x y cf op s => binV cf op s x y)
    (fun _ _ _ _ _ x y cf op s => binV cf op s x y)
    (fun _ x y cf op s => binV cf op s x y)
    (fun _ x y cf op s => binV cf op s x y)
    (fun x y cf op s => binV cf op s x y)
    (fun _ _ _ x y cf op s => binV cf op s x y)
    (fun x y cf op s => binV cf op s x y)
    (fun _ _ x y cf op s => binV cf op s x y)
    (fun _ _ x y cf op s => binV cf op s x y) () (fun _ _ _ _ => ())

theorem binX_eq (cf : Cf) (op : BinOp) (s : EqS) (x y : AV) : binX x x y cf op s = binV cf op s x y := by
  cases x <;> first | rfl | skip
  rename_i k a
  show binY y y k a cf op s = _
  cases y <;> first | rfl | skip
  rename_i l b
  show bin1 (isShr op) op k a l b = _
  cases op <;> first | rfl | (show bin2 (kindEq k l) _ k a b = bcond (kindEq k l) _ none; cases kindEq k l <;> first | rfl | exact binIT_eq .add k a b | exact binIT_eq .sub k a b | exact binIT_eq .mul k a b)
namespace Q
noncomputable def mov (x : Opd) (_ : Cf) (e : Env) (σ : St) : OR := .val (evQ x e) σ
noncomputable def pick (c a b : Opd) (_ : Cf) (e : Env) (σ : St) : OR := pickB (evQ c e) a b e σ
noncomputable def load : Opd → Cf → Env → St → OR := Opd.rec (fun k _ e σ => ldP (optTop (getA k e)) σ) (fun v cf e σ => A.load (.c v) cf e σ)
noncomputable def loadN (n : Nat) (a : Opd) (_ : Cf) (e : Env) (σ : St) : OR := ldNP (evQ a e) n σ
noncomputable def nilchk (x : Opd) (_ : Cf) (e : Env) (σ : St) : OR := nilC (evQ x e) σ
noncomputable def bin (op : BinOp) (s : EqS) (x y : Opd) (cf : Cf) (e : Env) (σ : St) : OR := oV (binX (evQ x e) (evQ x e) (evQ y e) cf op s) σ
noncomputable def un : UnOp → Opd → Cf → Env → St → OR := UnOp.rec (fun x cf e σ => A.un .neg x cf e σ) (fun x cf e σ => A.un .xor x cf e σ) (fun x _ e σ => notB (evQ x e) σ) (fun x cf e σ => A.un .plus x cf e σ)
noncomputable def fldA (off : Nat) (x : Opd) (_ : Cf) (e : Env) (σ : St) : OR := fldAP (evQ x e) off σ
noncomputable def fld (off : Nat) (x : Opd) (_ : Cf) (e : Env) (σ : St) : OR := fldT (evQ x e) off σ
noncomputable def ixA (z : Nat) (x i : Opd) (_ : Cf) (e : Env) (σ : St) : OR := ixAS (evQ x e) (evQ i e) z σ
noncomputable def extr (x : Opd) (i : Nat) (_ : Cf) (e : Env) (σ : St) : OR := extrT (evQ x e) i σ
noncomputable def len : LK → Opd → Cf → Env → St → OR := LK.rec (fun x _ e σ => lenSl (evQ x e) σ) (fun x _ e σ => lenSt (evQ x e) σ) (fun x cf e σ => A.len .mp x cf e σ)
end Q
theorem Q.load_eq (a : Opd) : Q.load a = A.load a := by
  funext cf e σ
  cases a with
  | c v => rfl
  | t k =>
    show ldP (optTop (getA k e)) σ = ((Opd.t k).ev e).ptrK .bad fun b off => OR.ofV (σ.load b off) σ
    rw [show optTop (getA k e) = (Opd.t k).ev e from evQ_eq (.t k) e]
    generalize (Opd.t k).ev e = v
    cases v <;> first | rfl | skip
    rename_i b o
    show oV (oNth (cellsQ σ b) o) σ = OR.ofV (obind (σ.cells b) fun p => nthL p.2 o) σ
    rw [oV_eq, cellsQ_eq]
    cases σ.cells b with
    | none => rfl
    | some p => exact congrArg (fun z => OR.ofV z σ) (nthQ_eq p.2 o)
theorem Q.loadN_eq (n : Nat) (a : Opd) : Q.loadN n a = A.loadN n a := by
  funext cf e σ
  show ldNP (evQ a e) n σ = (a.ev e).ptrK .bad fun b off => OR.ofV (obind (σ.loadN b off n) fun l => some (.agg l)) σ
  rw [evQ_eq]
  generalize a.ev e = v
  cases v <;> first | rfl | skip
  rename_i b o
  show oAgg (oTakeN (cellsQ σ b) o n) σ = OR.ofV (obind (obind (σ.cells b) fun p => takeL n (dropL p.2 o)) fun l => some (.agg l)) σ
  rw [cellsQ_eq]
  cases σ.cells b with
  | none => rfl
  | some p =>
    show oAgg (takeL n (dropL p.2 o)) σ = OR.ofV (obind (takeL n (dropL p.2 o)) fun l => some (.agg l)) σ
    cases takeL n (dropL p.2 o) <;> rfl
theorem Q.mov_eq (x : Opd) : Q.mov x = A.mov x := by funext cf e σ; show OR.val (evQ x e) σ = .val (x.ev e) σ; rw [evQ_eq]
theorem Q.pick_eq (c a b : Opd) : Q.pick c a b = A.pick c a b := by
  funext cf e σ
  show pickB (evQ c e) a b e σ = (c.ev e).boolV .bad fun t => .val (bcond t (a.ev e) (b.ev e)) σ
  rw [evQ_eq]
  generalize c.ev e = v
  cases v <;> first | rfl | skip
  rename_i t
  cases t
  · show OR.val (evQ b e) σ = .val (b.ev e) σ; rw [evQ_eq]
  · show OR.val (evQ a e) σ = .val (a.ev e) σ; rw [evQ_eq]
theorem Q.nilchk_eq (x : Opd) : Q.nilchk x = A.nilchk x := by
  funext cf e σ
  show nilC (evQ x e) σ = A.nilchk x cf e σ
  unfold A.nilchk
  rw [evQ_eq]
  cases x.ev e <;> rfl
theorem Q.bin_eq (op : BinOp) (s : EqS) (x y : Opd) : Q.bin op s x y = A.bin op s x y := by
  funext cf e σ
  show oV (binX (evQ x e) (evQ x e) (evQ y e) cf op s) σ = OR.ofV (binV cf op s (x.ev e) (y.ev e)) σ
  rw [oV_eq, evQ_eq, evQ_eq, binX_eq]
theorem Q.un_eq (op : UnOp) (x : Opd) : Q.un op x = A.un op x := by
  funext cf e σ
  cases op <;> first | rfl | skip
  show notB (evQ x e) σ = OR.ofV ((x.ev e).boolV none fun b => some (.bool (bcond b false true))) σ
  rw [evQ_eq]
  cases x.ev e <;> rfl
theorem Q.fldA_eq (off : Nat) (x : Opd) : Q.fldA off x = A.fldA off x := by
  funext cf e σ
  show fldAP (evQ x e) off σ = (x.ev e).ptrK .bad fun b o => natK (Nat.add o off) fun o => .val (.ptr b o) σ
  rw [evQ_eq]
  cases x.ev e <;> rfl
theorem Q.fld_eq (off : Nat) (x : Opd) : Q.fld off x = A.fld off x := by
  funext cf e σ
  show fldT (evQ x e) off σ = (x.ev e).aggV .bad fun l => OR.ofV (nthL l off) σ
  rw [evQ_eq]
  cases x.ev e <;> first | rfl | skip
  rename_i l
  show oV (nthQ l off) σ = OR.ofV (nthL l off) σ
  rw [oV_eq, nthQ_eq]
theorem Q.ixA_eq (z : Nat) (x i : Opd) : Q.ixA z x i = A.ixA z x i := by
  funext cf e σ
  show ixAS (evQ x e) (evQ i e) z σ = A.ixA z x i cf e σ
  unfold A.ixA
  rw [evQ_eq, evQ_eq]
  cases x.ev e <;> first | rfl | skip
  rename_i b o l c
  show ixAI (i.ev e) b o l z σ = (i.ev e).natV .bad fun i => bcond (Nat.blt i l) (natK (Nat.add o (Nat.mul i z)) fun o => .val (.ptr b o) σ) .bad
  cases i.ev e <;> first | rfl | skip
  rename_i k n
  cases n with
  | ofNat m =>
    show ixAB (Nat.blt m l) m b o z σ = bcond (Nat.blt m l) (natK (Nat.add o (Nat.mul m z)) fun o => .val (.ptr b o) σ) .bad
    cases Nat.blt m l <;> rfl
  | negSucc m => rfl
theorem Q.extr_eq (x : Opd) (i : Nat) : Q.extr x i = A.extr x i := by
  funext cf e σ
  show extrT (evQ x e) i σ = (x.ev e).tupV .bad fun l => OR.ofV (nthL l i) σ
  rw [evQ_eq]
  cases x.ev e <;> first | rfl | skip
  rename_i l
  show oV (nthQ l i) σ = OR.ofV (nthL l i) σ
  rw [oV_eq, nthQ_eq]
theorem Q.len_eq (k : LK) (x : Opd) : Q.len k x = A.len k x := by
  funext cf e σ
  cases k
  · show lenSl (evQ x e) σ = A.len .sl x cf e σ
    simp only [A.len]
    rw [evQ_eq]
    cases x.ev e <;> rfl
  · show lenSt (evQ x e) σ = A.len .st x cf e σ
    simp only [A.len]
    rw [evQ_eq]
    cases x.ev e <;> rfl
  · rfl
noncomputable def opQ : IOp → Cf → Env → St → OR :=
  IOp.rec (motive := fun _ => Cf → Env → St → OR)
    Q.mov Q.pick A.alloc A.box A.build A.buildS Q.load Q.loadN A.store Q.nilchk Q.bin Q.un A.cint A.cid A.cI2s A.cS2b A.cB2s A.cP2u A.cU2p A.mkIfc A.mkFn
    A.mkMap A.mkS A.sliS A.sli A.sliA Q.fldA Q.fld A.fldN Q.ixA A.ixAA A.ix A.ixS A.look A.mapUp A.range A.rangeS A.next A.nextS A.entry A.tasT Q.extr
    A.call A.callW Q.len A.lenA A.cap A.append A.appendZ A.copy A.clear A.delete A.min A.min3 A.max A.bad A.uSliceData A.uString A.defer A.panic A.ext A.bad
theorem opQ_eq (o : IOp) : opQ o = opV o := by
  cases o
  case mov x => exact Q.mov_eq x
  case pick c a b => exact Q.pick_eq c a b
  case load a => exact Q.load_eq a
  case loadN n a => exact Q.loadN_eq n a
  case nilchk x => exact Q.nilchk_eq x
  case bin op s x y => exact Q.bin_eq op s x y
  case un op x => exact Q.un_eq op x
  case fldA o x => exact Q.fldA_eq o x
  case fld o x => exact Q.fld_eq o x
  case ixA z x i => exact Q.ixA_eq z x i
  case extr x i => exact Q.extr_eq x i
  case len k x => exact Q.len_eq k x
  all_goals rfl
/-! code -/
abbrev EvF := Env → List Dfr → St → Res
noncomputable def isDfr : IOp → Bool := IOp.dfrs
noncomputable def orSel : OR → OpI → EvF → Env → List Dfr → Res :=
  OR.rec (fun _ _ _ _ => .bad) (fun v σ o ih e d => ih (putO o.dst e v) d σ)
    (fun f a σ o ih e d => bcond o.op.dfrs (ih (putO o.dst e (.tup [])) ((f, a) :: d) σ) .bad)
    (fun v σ o _ e d => bcond o.op.pans (.mk (.pan v) e d σ) .bad)
noncomputable def wSel : Want → Cf → OpI → EvF → Env → List Dfr → St → Res :=
  Want.rec (fun cf o ih e d σ => orSel (opQ o.op cf e σ) o ih e d) (fun _ o ih e d σ => ih (putO o.dst e (.tup [])) d σ) (fun _ _ _ _ _ _ => .bad)
noncomputable def stepQ (cf : Cf) (o : OpI) (ih : EvF) (e : Env) (d : List Dfr) (σ : St) : Res := wSel (wantQ o.guard e) cf o ih e d σ
theorem stepQ_eq (cf : Cf) (o : OpI) (ih : EvF) (e : Env) (d : List Dfr) (σ : St) : stepQ cf o ih e d σ = stepO cf o ih e d σ := by
  unfold stepQ stepO
  rw [wantQ_eq]
  cases wantV o.guard e with
  | bad => rfl
  | no => show ih (putO o.dst e (.tup [])) d σ = ih (putD e o.dst (.tup [])) d σ; rw [putO_eq]
  | yes =>
    show orSel (opQ o.op cf e σ) o ih e d = _
    rw [opQ_eq]
    cases opV o.op cf e σ with
    | bad => rfl
    | val v σ => show ih (putO o.dst e v) d σ = ih (putD e o.dst v) d σ; rw [putO_eq]
    | dfr f a σ => show bcond _ (ih (putO o.dst e (.tup [])) _ σ) _ = bcond _ (ih (putD e o.dst (.tup [])) _ σ) _; rw [putO_eq]
    | pan v σ => rfl
noncomputable def opsQ (cf : Cf) : List OpI → EvF :=
  List.rec (motive := fun _ => EvF) (fun e d σ => .mk .norm e d σ) (fun o _ ih => stepQ cf o ih)
theorem opsQ_eq (cf : Cf) : ∀ l : List OpI, opsQ cf l = evOps cf l
  | [] => rfl
  | o :: l => by
    funext e d σ
    show stepQ cf o (opsQ cf l) e d σ = stepO cf o (evOps cf l) e d σ
    rw [stepQ_eq, opsQ_eq cf l]
noncomputable def exSel : Ex → EvF → EvF := Ex.rec (fun g e d σ => g e d σ) (fun i _ e d σ => .mk (.exit i) e d σ) (fun _ e d σ => .mk .ret e d σ) (fun v _ e d σ => .mk (.pan v) e d σ)
noncomputable def rsSel : Res → EvF → Res := Res.rec (fun _ => .bad) (fun x e d σ g => exSel x g e d σ)
noncomputable def seqQ (f g : EvF) (e : Env) (d : List Dfr) (σ : St) : Res := rsSel (f e d σ) g
theorem seqQ_eq (f g : EvF) : seqQ f g = C.seq f g := by
  funext e d σ
  unfold seqQ C.seq
  cases f e d σ with
  | bad => rfl
  | mk x e d σ => cases x <;> rfl
noncomputable def boolSel : Bool → EvF → EvF → EvF := Bool.rec (fun _ g => g) (fun f _ => f)

noncomputable def condV : AV → EvF → EvF → Env → List Dfr → St → Res :=
  AV.rec (motive_1 := fun _ => EvF → EvF → Env → List Dfr → St → Res) (motive_2 := fun _ => Unit)
    (fun _ _ _ _ _ => .bad)
    (fun _ _ _ _ _ => .bad)
    (fun _ _ _ _ _ _ => .bad)
    (fun _ _ _ _ _ => .bad)
    (fun b f g e d σ => boolSel b f g e d σ)
    (fun _ _ _ _ _ _ _ => .bad)
    (fun _ _ _ _ _ _ _ => .bad)
    (fun _ _ _ _ _ => .bad)
    (fun _ _ _ _ _ _ _ => .bad)
    (fun _ _ _ _ _ => .bad)
    (fun _ _ _ _ _ _ _ _ _ => .bad)
    (fun _ _ _ _ _ => .bad)
    (fun _ _ _ _ _ => .bad)
    (fun _ _ _ _ _ _ => .bad)
    (fun _ _ _ _ _ _ _ _ _ _ => .bad)
    (fun _ _ _ _ _ _ => .bad)
    (fun _ _ _ _ _ _ => .bad)
    (fun _ _ _ _ _ => .bad)
    (fun _ _ _ _ _ _ _ _ => .bad)
    (fun _ _ _ _ _ => .bad)
    (fun _ _ _ _ _ _ _ => .bad)
    (fun _ _ _ _ _ _ _ => .bad) () (fun _ _ _ _ => ())

noncomputable def condQ (c : Opd) (f g : EvF) (e : Env) (d : List Dfr) (σ : St) : Res := condV (evQ c e) f g e d σ
theorem condQ_eq (c : Opd) (f g : EvF) : condQ c f g = C.cond c f g := by
  funext e d σ
  show condV (evQ c e) f g e d σ = (c.ev e).boolV .bad fun b => Bool.rec (g e d σ) (f e d σ) b
  rw [evQ_eq]
  cases c.ev e <;> first | rfl | skip
  rename_i b
  cases b <;> rfl
noncomputable def exBlk : Ex → Nat → EvF := Ex.rec (fun _ e d σ => .mk .norm e d σ) (fun i id e d σ => bcond (Nat.beq i id) (.mk .norm e d σ) (.mk (.exit i) e d σ)) (fun _ e d σ => .mk .ret e d σ) (fun v _ e d σ => .mk (.pan v) e d σ)
noncomputable def rsBlk : Res → Nat → Res := Res.rec (fun _ => .bad) (fun x e d σ id => exBlk x id e d σ)
noncomputable def blockQ (id : Nat) (f : EvF) (e : Env) (d : List Dfr) (σ : St) : Res := rsBlk (f e d σ) id
theorem blockQ_eq (id : Nat) (f : EvF) : blockQ id f = C.block id f := by
  funext e d σ
  unfold blockQ C.block
  cases f e d σ with
  | bad => rfl
  | mk x e d σ => cases x <;> rfl
noncomputable def loopQ (f : EvF) : Nat → EvF := Nat.rec (motive := fun _ => EvF) (fun _ _ _ => .bad) (fun _ ih e d σ => rsSel (f e d σ) ih)
theorem loopQ_eq (f : EvF) : ∀ n, loopQ f n = loopN f n
  | 0 => rfl
  | n + 1 => by
    funext e d σ
    show rsSel (f e d σ) (loopQ f n) = Res.rec .bad (fun x e d σ => Ex.rec (loopN f n e d σ) (fun i => .mk (.exit i) e d σ) (.mk .ret e d σ) (fun v => .mk (.pan v) e d σ) x) (f e d σ)
    rw [loopQ_eq f n]
    cases f e d σ with
    | bad => rfl
    | mk x e d σ => cases x <;> rfl
/-! drawn regions -/
noncomputable def recheckQ (cf : Cf) (o : IOp) (e : Env) (v : AV) (n : Nat) : List St → Bool :=
  Nat.rec (motive := fun _ => List St → Bool) (fun _ => true)
    (fun _ ih l => List.rec false (fun σ l _ => OR.rec false (fun w _ => bcond (AV.beq v w) (ih l) false) (fun _ _ _ => false) (fun _ _ => false) (opQ o cf e σ)) l) n
theorem recheckQ_eq (cf : Cf) (o : IOp) (e : Env) (v : AV) (n : Nat) (l : List St) : recheckQ cf o e v n l = recheck cf o e v n l := by
  unfold recheckQ recheck
  rw [opQ_eq]
noncomputable def dEff : OR → DOp → DT → Option DT := OR.rec (fun _ _ => none) (fun v σ o t => some ⟨putO o.o.dst t.e v, σ, t.res, Nat.add t.stage 1, t.σ :: t.snaps⟩) (fun _ _ _ _ _ => none) (fun _ _ _ _ => none)
noncomputable def dReB : Bool → AV → DOp → DT → Option DT := Bool.rec (fun _ _ _ => none) (fun v o t => some ⟨putO o.o.dst t.e v, t.σ, t.res, t.stage, t.snaps⟩)
noncomputable def dRead : OR → Cf → DOp → DT → Option DT := OR.rec (fun _ _ _ => none) (fun v _ cf o t => dReB (recheckQ cf o.o.op t.e v (Nat.sub t.stage o.lo) t.snaps) v o t) (fun _ _ _ _ _ _ => none) (fun _ _ _ _ _ => none)
noncomputable def dPure : OR → DOp → DT → Option DT := OR.rec (fun _ _ => none) (fun v _ o t => some ⟨putO o.o.dst t.e v, t.σ, t.res, t.stage, t.snaps⟩) (fun _ _ _ _ _ => none) (fun _ _ _ _ => none)
noncomputable def dAll : OR → DOp → DT → Option DT := OR.rec (fun _ _ => none) (fun v σ o t => some ⟨putO o.o.dst t.e v, ⟨σ.heap, t.σ.next⟩, t.res.succ, Nat.add t.stage 1, t.σ :: t.snaps⟩) (fun _ _ _ _ _ => none) (fun _ _ _ _ => none)
noncomputable def dKs : DK → Cf → DOp → DT → Option DT :=
  DK.rec (fun cf o t => dEff (opQ o.o.op cf t.e t.σ) o t) (fun cf o t => dRead (opQ o.o.op cf t.e t.σ) cf o t) (fun cf o t => dPure (opQ o.o.op cf t.e t.σ) o t) (fun cf o t => dAll (opQ o.o.op cf t.e ⟨t.σ.heap, t.res⟩) o t)
noncomputable def dNoK : DK → DOp → DT → Option DT :=
  DK.rec (fun o t => some ⟨putO o.o.dst t.e (.tup []), t.σ, t.res, Nat.add t.stage 1, t.σ :: t.snaps⟩) (fun o t => some ⟨putO o.o.dst t.e (.tup []), t.σ, t.res, t.stage, t.snaps⟩)
    (fun o t => some ⟨putO o.o.dst t.e (.tup []), t.σ, t.res, t.stage, t.snaps⟩) (fun o t => some ⟨putO o.o.dst t.e (.tup []), t.σ, t.res, Nat.add t.stage 1, t.σ :: t.snaps⟩)
noncomputable def dW : Want → Cf → DOp → DT → Option DT := Want.rec (fun cf o t => dKs o.k cf o t) (fun _ o t => dNoK o.k o t) (fun _ _ _ => none)
noncomputable def dstepQ (cf : Cf) (o : DOp) (t : DT) : Option DT := dW (wantQ o.o.guard t.e) cf o t
theorem dstepQ_eq (cf : Cf) (o : DOp) (t : DT) : dstepQ cf o t = dstep cf o t := by
  unfold dstepQ dstep
  rw [wantQ_eq]
  cases wantV o.o.guard t.e with
  | bad => rfl
  | no =>
    show dNoK o.k o t = _
    rw [← putO_eq]
    cases o.k <;> rfl
  | yes =>
    show dKs o.k cf o t = _
    simp only
    cases o.k with
    | eff =>
      show dEff (opQ o.o.op cf t.e t.σ) o t = _
      rw [opQ_eq]
      cases opV o.o.op cf t.e t.σ with
      | val v σ => show some (DT.mk (putO o.o.dst t.e v) _ _ _ _) = some (DT.mk (putD t.e o.o.dst v) _ _ _ _); rw [putO_eq]
      | _ => rfl
    | read =>
      show dRead (opQ o.o.op cf t.e t.σ) cf o t = _
      rw [opQ_eq]
      cases opV o.o.op cf t.e t.σ with
      | val v σ =>
        show dReB (recheckQ cf o.o.op t.e v (Nat.sub t.stage o.lo) t.snaps) v o t = bcond (recheck cf o.o.op t.e v (Nat.sub t.stage o.lo) t.snaps) (some (DT.mk (putD t.e o.o.dst v) _ _ _ _)) none
        rw [recheckQ_eq, ← putO_eq]
        cases recheck cf o.o.op t.e v (Nat.sub t.stage o.lo) t.snaps <;> rfl
      | _ => rfl
    | pure =>
      show dPure (opQ o.o.op cf t.e t.σ) o t = _
      rw [opQ_eq]
      cases opV o.o.op cf t.e t.σ with
      | val v σ => show some (DT.mk (putO o.o.dst t.e v) _ _ _ _) = some (DT.mk (putD t.e o.o.dst v) _ _ _ _); rw [putO_eq]
      | _ => rfl
    | alloc =>
      show dAll (opQ o.o.op cf t.e ⟨t.σ.heap, t.res⟩) o t = _
      rw [opQ_eq]
      cases opV o.o.op cf t.e ⟨t.σ.heap, t.res⟩ with
      | val v σ => show some (DT.mk (putO o.o.dst t.e v) _ _ _ _) = some (DT.mk (putD t.e o.o.dst v) _ _ _ _); rw [putO_eq]
      | _ => rfl
noncomputable def oDT : Option DT → (DT → Option DT) → Option DT := Option.rec (fun _ => none) (fun t f => f t)
noncomputable def dopsQ (cf : Cf) : List DOp → DT → Option DT := List.rec (motive := fun _ => DT → Option DT) (fun t => some t) (fun o _ ih t => oDT (dstepQ cf o t) ih)
theorem dopsQ_eq (cf : Cf) : ∀ l : List DOp, dopsQ cf l = evD cf l
  | [] => rfl
  | o :: l => by
    funext t
    show oDT (dstepQ cf o t) (dopsQ cf l) = obind (dstep cf o t) (evD cf l)
    rw [dstepQ_eq, dopsQ_eq cf l]
    cases dstep cf o t <;> rfl
noncomputable def dEnd : Option DT → List Dfr → Res := Option.rec (fun _ => .bad) (fun t d => .mk .norm t.e d t.σ)
noncomputable def dregQ (cf : Cf) (na : Nat) (l : List DOp) (e : Env) (d : List Dfr) (σ : St) : Res :=
  dEnd (dopsQ cf l ⟨e, ⟨σ.heap, Nat.rec σ.next (fun _ k => k.succ) na⟩, σ.next, 0, []⟩) d
theorem dregQ_eq (cf : Cf) (na : Nat) (l : List DOp) : dregQ cf na l = evDOps cf na l := by
  funext e d σ
  unfold dregQ evDOps
  rw [dopsQ_eq]
  cases evD cf l _ <;> rfl

noncomputable def codeQ (cf : Cf) (fuel : Nat) : IC → EvF :=
  IC.rec (motive := fun _ => EvF)
    C.skip (fun ops => opsQ cf ops) (fun na ops => dregQ cf na ops) (fun _ _ f g => seqQ f g) (fun c _ _ f g => condQ c f g)
    (fun id _ f => blockQ id f) (fun _ f => loopQ f fuel) (fun it tn tx te keep id _ f => C.mloop it tn tx te keep id f) (fun f ps as b _ _ => C.rangeF cf f ps as b) C.exit (fun _ f => f) C.ret C.bad
theorem codeQ_eq (cf : Cf) (fuel : Nat) (c : IC) : codeQ cf fuel c = evCode cf fuel c := by
  induction c with
  | skip => rfl
  | reg ops => exact opsQ_eq cf ops
  | dreg na ops => exact dregQ_eq cf na ops
  | seq a b iha ihb => show seqQ (codeQ cf fuel a) (codeQ cf fuel b) = C.seq _ _; rw [iha, ihb, seqQ_eq]; rfl
  | cond c a b iha ihb => show condQ c (codeQ cf fuel a) (codeQ cf fuel b) = C.cond c _ _; rw [iha, ihb, condQ_eq]; rfl
  | block id b ih => show blockQ id (codeQ cf fuel b) = C.block id _; rw [ih, blockQ_eq]; rfl
  | loop b ih => show loopQ (codeQ cf fuel b) fuel = loopN _ fuel; rw [ih, loopQ_eq]; rfl
  | mloop it tn tx te keep id b ih => show C.mloop it tn tx te keep id (codeQ cf fuel b) = C.mloop it tn tx te keep id _; rw [ih]; rfl
  | rangeF f ps a b _ _ => rfl
  | exit i => rfl
  | scope b ih => exact ih
  | ret => rfl
  | bad => rfl
/-! calls -/
noncomputable def callQ (tbl : Nat → Option IF) (cf : Cf) (fuel : Nat) (f : Nat) (args : List AV) (σ : St) : CR :=
  Option.rec .bad (fun fn => Option.rec .bad (fun e =>
    Res.rec .bad (fun x e ds σ => Ex.rec (leave tbl cf fuel fn e ds none σ) (fun _ => .bad) (leave tbl cf fuel fn e ds none σ) (fun v => leave tbl cf fuel fn e ds (some v) σ) x)
      (codeQ cf fuel fn.body e [] σ)) (bindP fn.params args .lf)) (tbl f)
theorem callQ_eq (tbl : Nat → Option IF) (cf : Cf) (fuel : Nat) (f : Nat) (args : List AV) (σ : St) : callQ tbl cf fuel f args σ = evCallF tbl cf fuel f args σ := by
  unfold callQ evCallF
  simp only [codeQ_eq]
noncomputable def sumOr : CR → (Nat → List AV → St → CR) → Nat → List AV → St → CR := CR.rec (fun f n a σ => f n a σ) (fun v σ _ _ _ _ => .val v σ) (fun v σ _ _ _ _ => .pan v σ)
noncomputable def allQ (base : Cf) (tbl : Nat → Option IF) (sum : Nat → List AV → St → CR) (fuel : Nat) : Nat → Cf :=
  Nat.rec { base with call := fun _ _ _ => .bad, yld := fun _ _ _ => .bad }
    (fun _ ih => { base with call := fun f args σ => sumOr (sum f args σ) (callQ tbl ih fuel) f args σ, yld := fun l args σ => evYld ih fuel l args σ })
theorem allQ_eq (base : Cf) (tbl : Nat → Option IF) (sum : Nat → List AV → St → CR) (fuel : Nat) : ∀ n, allQ base tbl sum fuel n = evAll base tbl sum fuel n
  | 0 => rfl
  | n + 1 => by
    have ih := allQ_eq base tbl sum fuel n
    have h : (fun f args σ => sumOr (sum f args σ) (callQ tbl (allQ base tbl sum fuel n) fuel) f args σ) = (fun f args σ => (CR.rec (evCallF tbl (evAll base tbl sum fuel n) fuel f args σ) (fun v σ => .val v σ) (fun v σ => .pan v σ) (sum f args σ) : CR)) := by
      funext f args σ
      cases sum f args σ with
      | bad => show callQ tbl (allQ base tbl sum fuel n) fuel f args σ = evCallF tbl (evAll base tbl sum fuel n) fuel f args σ; rw [callQ_eq, ih]
      | val v σ => rfl
      | pan v σ => rfl
    show ({ base with call := fun f args σ => sumOr (sum f args σ) (callQ tbl (allQ base tbl sum fuel n) fuel) f args σ, yld := fun l args σ => evYld (allQ base tbl sum fuel n) fuel l args σ } : Cf) =
      { base with call := fun f args σ => CR.rec (evCallF tbl (evAll base tbl sum fuel n) fuel f args σ) (fun v σ => .val v σ) (fun v σ => .pan v σ) (sum f args σ), yld := fun l args σ => evYld (evAll base tbl sum fuel n) fuel l args σ }
    rw [h, ih]
end Go.Ev
namespace Go.Ev
open Go

/-! the table of lowered functions, as a search tree -/
inductive BT | lf | nd (n : Nat) (f : IF) (l r : BT)
noncomputable def BT.get : BT → Nat → Option IF :=
  BT.rec (motive := fun _ => Nat → Option IF) (fun _ => none) (fun n f _ _ il ir k => bcond (Nat.blt k n) (il k) (bcond (Nat.beq k n) (some f) (ir k)))
def BT.All (p : Nat → IF → Prop) : BT → Prop
  | .lf => True
  | .nd n f l r => p n f ∧ BT.All p l ∧ BT.All p r
theorem BT.get_all {p : Nat → IF → Prop} : ∀ {t : BT} {k : Nat} {x : IF}, BT.All p t → t.get k = some x → p k x
  | .lf, _, _, _, h => by cases h
  | .nd n f l r, k, x, ha, h => by
    have h1 : bcond (Nat.blt k n) (l.get k) (bcond (Nat.beq k n) (some f) (r.get k)) = some x := h
    clear h
    rw [bcond_eq] at h1
    split at h1
    · exact BT.get_all ha.2.1 h1
    · rw [bcond_eq] at h1
      split at h1
      · rename_i hb
        have hb := Nat.eq_of_beq_eq_true hb
        injection h1 with h1
        rw [hb, ← h1]; exact ha.1
      · exact BT.get_all ha.2.2 h1
def FOk (P : Program) (f : Nat) (x : IF) : Prop := ∃ fn, P.funcs[f]? = some fn ∧ lFunc P fn = some x ∧ fn.name ≠ "runtime.NumGoroutine"
theorem BT.tblOk {P : Program} {t : BT} (h : BT.All (FOk P) t) : TblOk P t.get := fun _ _ hx => BT.get_all h hx
theorem FOk.mk {P : Program} {f : Nat} {x : IF} {fn : Func} (h1 : P.funcs[f]? = some fn) (h2 : lFunc P fn = some x) (h3 : (fn.name == "runtime.NumGoroutine") = false) : FOk P f x := ⟨fn, h1, h2, by simpa using h3⟩

noncomputable def valOf (r : CR) : Option AV := CR.rec none (fun v _ => some v) (fun _ _ => none) r
theorem valOf_some {r : CR} {v : AV} (h : valOf r = some v) : ∃ σ', r = .val v σ' := by
  cases r with
  | bad => cases h
  | val u σ => cases h; exact ⟨σ, rfl⟩
  | pan u σ => cases h
end Go.Ev
namespace Go.Ev
open Go

/-! calls whose arguments speak of blocks, from a table: which blocks they have, and which they leave -/
abbrev HB := List (Key × Blk)
noncomputable def beqEs : List (AV × AV × Nat) → List (AV × AV × Nat) → Bool
  | [], [] => true
  | (a, b, n) :: x, (c, d, m) :: y => bcond (AV.beq a c) (bcond (AV.beq b d) (bcond (Nat.beq n m) (beqEs x y) false) false) false
  | _, _ => false
noncomputable def Blk.beq : Blk → Blk → Bool
  | .cells t l, .cells u m => bcond (Nat.beq t u) (AV.beqL l m) false
  | .map x c, .map y d => bcond (beqEs x y) (Nat.beq c d) false
  | _, _ => false
theorem beqEs_eq : ∀ (x y : List (AV × AV × Nat)), beqEs x y = true → x = y
  | [], [], _ => rfl
  | [], _ :: _, h => nomatch h
  | _ :: _, [], h => nomatch h
  | (a, b, n) :: x, (c, d, m) :: y, h => by
    obtain ⟨h1, h⟩ := bcond_and (x := bcond (AV.beq b d) (bcond (Nat.beq n m) (beqEs x y) false) false) h
    obtain ⟨h2, h⟩ := bcond_and h
    obtain ⟨h3, h⟩ := bcond_and h
    rw [AV.beq_eq _ _ h1, AV.beq_eq _ _ h2, Nat.eq_of_beq_eq_true h3, beqEs_eq _ _ h]
theorem Blk.beq_eq : ∀ (x y : Blk), Blk.beq x y = true → x = y := by
  intro x y h
  cases x <;> cases y <;> first
    | (obtain ⟨h1, h2⟩ := bcond_and (x := AV.beqL _ _) h; rw [Nat.eq_of_beq_eq_true h1, AV.beqL_eq _ _ h2])
    | (obtain ⟨h1, h2⟩ := bcond_and (x := Nat.beq _ _) h; rw [beqEs_eq _ _ h1, Nat.eq_of_beq_eq_true h2])
    | cases h
noncomputable def holdsB (t : Tr Blk) (l : HB) : Bool := List.rec true (fun x _ ih => bcond (Option.rec false (fun b => Blk.beq x.2 b) (t.get x.1)) ih false) l
noncomputable def putsB (l : HB) (t : Tr Blk) : Tr Blk := List.rec t (fun x _ ih => ih.set (some x.2) x.1) l
theorem holdsB_mem {t : Tr Blk} : ∀ {l : HB}, holdsB t l = true → ∀ x ∈ l, t.get x.1 = some x.2
  | [], _, _, hx => by cases hx
  | y :: l, h, x, hx => by
    have h : bcond (Option.rec (motive := fun _ => Bool) false (fun b => Blk.beq y.2 b) (t.get y.1)) (holdsB t l) false = true := h
    obtain ⟨h1, h2⟩ := bcond_and h
    rcases List.mem_cons.1 hx with rfl | hx
    · cases hg : t.get x.1 with
      | none => rw [hg] at h1; cases h1
      | some b => rw [hg] at h1; rw [Blk.beq_eq _ _ h1]
    · exact holdsB_mem h2 x hx
theorem putsB_get {t : Tr Blk} {k : Key} : ∀ {l : HB} {b : Blk}, (putsB l t).get k = some b → (k, b) ∈ l ∨ (t.get k = some b ∧ ∀ x ∈ l, x.1 ≠ k)
  | [], _, h => .inr ⟨h, fun _ hx => (nomatch hx)⟩
  | y :: l, b, h => by
    have h : ((putsB l t).set (some y.2) y.1).get k = some b := h
    rw [Tr.get_set] at h
    split at h
    · rename_i hk
      injection h with h
      refine .inl ?_
      rw [← hk, ← h]; exact List.mem_cons_self
    · rename_i hk
      rcases putsB_get h with h | ⟨h, h'⟩
      · exact .inl (List.mem_cons_of_mem _ h)
      · refine .inr ⟨h, fun x hx => ?_⟩
        rcases List.mem_cons.1 hx with rfl | hx
        · exact hk
        · exact h' x hx
noncomputable def hasK (l : HB) (k : Key) : Bool := List.rec false (fun x _ ih => bcond (Key.beq x.1 k) true ih) l
noncomputable def coverB (l m : HB) : Bool := List.rec true (fun x _ ih => bcond (hasK m x.1) ih false) l
theorem hasK_mem {k : Key} : ∀ {l : HB}, hasK l k = true → ∃ x ∈ l, x.1 = k
  | [], h => nomatch h
  | y :: l, h => by
    have h : bcond (Key.beq y.1 k) true (hasK l k) = true := h
    rw [bcond_eq] at h
    split at h
    · rename_i hb
      rw [Key.beq_eq] at hb
      exact ⟨y, List.mem_cons_self, by simpa using hb⟩
    · obtain ⟨x, h1, h2⟩ := hasK_mem h
      exact ⟨x, List.mem_cons_of_mem _ h1, h2⟩
theorem coverB_mem {m : HB} : ∀ {l : HB}, coverB l m = true → ∀ x ∈ l, ∃ y ∈ m, y.1 = x.1
  | [], _, _, hx => by cases hx
  | y :: l, h, x, hx => by
    obtain ⟨h1, h2⟩ := bcond_and (x := coverB l m) h
    rcases List.mem_cons.1 hx with rfl | hx
    · exact hasK_mem h1
    · exact coverB_mem h2 x hx

structure HEnt where
  f : Nat
  args : List AV
  hin : HB
  nx : Key
  v : AV
  hout : HB
  ny : Key
noncomputable def HEnt.fits (x : HEnt) (f : Nat) (args : List AV) (σ : St) : Bool :=
  bcond (Nat.beq x.f f) (bcond (AV.beqL x.args args) (bcond (Key.beq x.nx σ.next) (holdsB σ.heap x.hin) false) false) false
noncomputable def tabH (t : List HEnt) (f : Nat) (args : List AV) (σ : St) : Option HEnt :=
  List.rec none (fun x _ ih => bcond (x.fits f args σ) (some x) ih) t
noncomputable def sumH (t : List HEnt) (rest : Nat → List AV → St → CR) (f : Nat) (args : List AV) (σ : St) : CR :=
  Option.rec (rest f args σ) (fun x => .val x.v ⟨putsB x.hout σ.heap, x.ny⟩) (tabH t f args σ)
noncomputable def HEnt.start (x : HEnt) : St := ⟨putsB x.hin .lf, x.nx⟩
/-- the check of an entry, for the kernel -/
noncomputable def HEnt.ends (x : HEnt) (r : CR) : Option AV :=
  CR.rec none (fun v σ => bcond (Key.beq x.ny σ.next) (bcond (holdsB σ.heap x.hout) (bcond (coverB x.hin x.hout) (some v) none) none) none) (fun _ _ => none) r
def HEntOk (P : Program) (ρ : Nat → Value) (w0 : World) (x : HEnt) : Prop :=
  ∃ call, CallOk P ρ w0 call ∧ x.ends (call x.f x.args x.start) = some x.v
theorem tabH_mem : ∀ {t : List HEnt} {f : Nat} {args : List AV} {σ : St} {x : HEnt}, tabH t f args σ = some x → x ∈ t ∧ x.f = f ∧ x.args = args ∧ x.nx = σ.next ∧ ∀ y ∈ x.hin, σ.heap.get y.1 = some y.2
  | [], _, _, _, _, h => nomatch h
  | y :: t, f, args, σ, x, h => by
    have h : bcond (y.fits f args σ) (some y) (tabH t f args σ) = some x := h
    rw [bcond_eq] at h
    split at h
    · rename_i hc
      injection h with h
      subst h
      obtain ⟨h1, hc⟩ := bcond_and (x := bcond (AV.beqL y.args args) (bcond (Key.beq y.nx σ.next) (holdsB σ.heap y.hin) false) false) hc
      obtain ⟨h2, hc⟩ := bcond_and hc
      obtain ⟨h3, hc⟩ := bcond_and hc
      rw [Key.beq_eq] at h3
      exact ⟨List.mem_cons_self, Nat.eq_of_beq_eq_true h1, AV.beqL_eq _ _ h2, by simpa using h3, holdsB_mem hc⟩
    · obtain ⟨h1, h2⟩ := tabH_mem h
      exact ⟨List.mem_cons_of_mem _ h1, h2⟩
theorem HEnt.ends_some {x : HEnt} {r : CR} {u : AV} (h : x.ends r = some u) : ∃ σ, r = .val u σ ∧ σ.next = x.ny ∧ (∀ y ∈ x.hout, σ.heap.get y.1 = some y.2) ∧ ∀ y ∈ x.hin, ∃ z ∈ x.hout, z.1 = y.1 := by
  cases r with
  | bad => cases h
  | pan v σ => cases h
  | val v σ =>
    have h : bcond (Key.beq x.ny σ.next) (bcond (holdsB σ.heap x.hout) (bcond (coverB x.hin x.hout) (some v) none) none) none = some u := h
    rw [bcond_eq] at h
    split at h
    · rename_i h1
      rw [bcond_eq] at h
      split at h
      · rename_i h2
        rw [bcond_eq] at h
        split at h
        · rename_i h3
          injection h with h
          subst h
          rw [Key.beq_eq] at h1
          exact ⟨σ, rfl, by simpa using (of_decide_eq_true h1).symm, holdsB_mem h2, coverB_mem h3⟩
        · cases h
      · cases h
    · cases h
section
variable {P : Program} {ρ : Nat → Value} {w0 w w' : World} {φ φ' : Key → Option Pl} {σ : St}
theorem start_sub {x : HEnt} (hs : ∀ y ∈ x.hin, σ.heap.get y.1 = some y.2) {k : Key} {b : Blk} (h : x.start.heap.get k = some b) : σ.heap.get k = some b ∧ ∃ y ∈ x.hin, y.1 = k := by
  rcases putsB_get (l := x.hin) h with h | ⟨h, _⟩
  · exact ⟨hs _ h, _, h, rfl⟩
  · rw [Tr.get_lf] at h; cases h
theorem WR.start {x : HEnt} (hW : WR P ρ w0 φ σ w) (hn : x.nx = σ.next) (hs : ∀ y ∈ x.hin, σ.heap.get y.1 = some y.2) : WR P ρ w0 φ x.start w where
  live k b h := hW.live k b (start_sub hs h).1
  inj k k' b b' pl pl' h h' := hW.inj k k' b b' pl pl' (start_sub hs h).1 (start_sub hs h').1
  fresh k pl h := by have := hW.fresh k pl h; rw [← hn] at this; exact this
  base := hW.base
  low k b pl h := hW.low k b pl (start_sub hs h).1
  top := hW.top
theorem Go1.start {x : HEnt} (hW : WR P ρ w0 φ σ w) (hn : x.nx = σ.next) (hs : ∀ y ∈ x.hin, σ.heap.get y.1 = some y.2) {σo : St} (hny : σo.next = x.ny) (ho : ∀ y ∈ x.hout, σo.heap.get y.1 = some y.2)
    (hc : ∀ y ∈ x.hin, ∃ z ∈ x.hout, z.1 = y.1) (hg : Go1 P ρ w0 φ x.start w φ' σo w') : Go1 P ρ w0 φ σ w φ' ⟨putsB x.hout σ.heap, x.ny⟩ w' := by
  have inS : ∀ c, InR φ x.start c → InR φ σ c := fun c ⟨k, b, pl, h1, h2, h3⟩ => ⟨k, b, pl, (start_sub hs h1).1, h2, h3⟩
  have get : ∀ k b, (putsB x.hout σ.heap).get k = some b → σo.heap.get k = some b ∨ (σ.heap.get k = some b ∧ ∀ y ∈ x.hin, y.1 ≠ k) := by
    intro k b h
    rcases putsB_get h with h | ⟨h, h'⟩
    · exact .inl (ho _ h)
    · refine .inr ⟨h, fun y hy e => ?_⟩
      obtain ⟨z, hz, hze⟩ := hc y hy
      exact h' z hz (hze.trans e)
  -- an old block that the call was not given
  have old : ∀ k b, σ.heap.get k = some b → (∀ y ∈ x.hin, y.1 ≠ k) → ∃ pl o, φ k = some pl ∧ w.heap[pl.blk]? = some o ∧ BR P ρ φ b pl o ∧ pl.blk < w.heap.size ∧ ¬ InR φ x.start pl.blk := by
    intro k b h hk
    obtain ⟨pl, o, h1, h2, h3⟩ := hW.live k b h
    refine ⟨pl, o, h1, h2, h3, (Array.getElem?_eq_some_iff.1 h2).1, ?_⟩
    rintro ⟨k2, b2, pl2, e1, e2, e3⟩
    obtain ⟨e4, y, hy, e5⟩ := start_sub hs e1
    have := hW.inj k2 k b2 b pl2 pl e4 h e2 h1 e3
    exact hk y hy (e5.trans this)
  have mix : ∀ k k' b b' pl pl', σo.heap.get k = some b → σ.heap.get k' = some b' → (∀ y ∈ x.hin, y.1 ≠ k') → φ' k = some pl → φ' k' = some pl' → pl.blk = pl'.blk → False := by
    intro k k' b b' pl pl' h h' hk' e e' hb
    obtain ⟨pl2, o, a1, a2, a3, a4, a5⟩ := old k' b' h' hk'
    have := hg.ext _ _ a1
    rw [e'] at this; cases this
    rcases hg.rng pl.blk ⟨k, b, pl, h, e, rfl⟩ with hr | hr
    · omega
    · rw [hb] at hr; exact a5 hr
  refine ⟨hg.ext, ⟨?_, ?_, ?_, hg.rel.base, ?_, hg.rel.top⟩, hg.os, hg.tape, hg.output, hg.size, fun c h1 h2 => hg.keep c h1 fun h => h2 (inS c h), ?_, ?_, ?_⟩
  · intro k b h
    rcases get k b h with h | ⟨h, hk⟩
    · exact hg.rel.live k b h
    · obtain ⟨pl, o, a1, a2, a3, a4, a5⟩ := old k b h hk
      exact ⟨pl, o, hg.ext _ _ a1, by rw [hg.keep _ a4 a5]; exact a2, a3.mono hg.ext⟩
  · intro k k' b b' pl pl' h h' e e' hb
    rcases get k b h with h | ⟨h, hk⟩ <;> rcases get k' b' h' with h' | ⟨h', hk'⟩
    · exact hg.rel.inj k k' b b' pl pl' h h' e e' hb
    · exact (mix k k' b b' pl pl' h h' hk' e e' hb).elim
    · exact (mix k' k b' b pl' pl h' h hk e' e hb.symm).elim
    · obtain ⟨p1, _, a1, _⟩ := old k b h hk
      obtain ⟨p2, _, a2, _⟩ := old k' b' h' hk'
      have b1 := hg.ext _ _ a1
      have b2 := hg.ext _ _ a2
      rw [e] at b1; rw [e'] at b2; cases b1; cases b2
      exact hW.inj k k' b b' _ _ h h' a1 a2 hb
  · intro k pl h
    have := hg.rel.fresh k pl h
    rw [hny] at this; exact this
  · intro k b pl h e
    rcases get k b h with h | ⟨h, hk⟩
    · exact hg.rel.low k b pl h e
    · obtain ⟨p1, _, a1, _⟩ := old k b h hk
      have b1 := hg.ext _ _ a1
      rw [e] at b1; cases b1
      exact hW.low k b _ h a1
  · rintro c ⟨k, b, pl, h, e, rfl⟩
    rcases get k b h with h | ⟨h, hk⟩
    · rcases hg.rng _ ⟨k, b, pl, h, e, rfl⟩ with hr | hr
      · exact .inl hr
      · exact .inr (inS _ hr)
    · obtain ⟨p1, _, a1, _⟩ := old k b h hk
      have b1 := hg.ext _ _ a1
      rw [e] at b1; cases b1
      exact .inr ⟨k, b, _, h, a1, rfl⟩
  · have := hg.nxt
    rw [hny] at this
    have e : x.start.next = σ.next := hn
    rw [e] at this; exact this
  · intro k pl h
    have e : x.start.next = σ.next := hn
    have := hg.nwk k pl h
    rw [e] at this; exact this
theorem sumH_ok {t : List HEnt} (ht : ∀ x ∈ t, HEntOk P ρ w0 x) {rest : Nat → List AV → St → CR} (hr : CallOk P ρ w0 rest) : CallOk P ρ w0 (sumH t rest) := by
  have inv : ∀ {f : Nat} {args : List AV} {σ : St} {c : CR}, sumH t rest f args σ = c → rest f args σ = c ∨ ∃ x, tabH t f args σ = some x ∧ c = .val x.v ⟨putsB x.hout σ.heap, x.ny⟩ := by
    intro f args σ c h
    have h : (Option.rec (rest f args σ) (fun x => .val x.v ⟨putsB x.hout σ.heap, x.ny⟩) (tabH t f args σ) : CR) = c := h
    cases hv : tabH t f args σ with
    | none => rw [hv] at h; exact .inl h
    | some v => rw [hv] at h; exact .inr ⟨v, rfl, h.symm⟩
  constructor
  · intro f args σ v σ' h φ w vs hW hv r
    rcases inv h with h | ⟨x, hx, h⟩
    · exact hr.val f args σ v σ' h φ w vs hW hv r
    · cases h
      obtain ⟨hm, rfl, rfl, hn, hs⟩ := tabH_mem hx
      obtain ⟨call, hC, he⟩ := ht x hm
      obtain ⟨σo, e1, e2, e3, e4⟩ := HEnt.ends_some he
      refine (hC.val x.f x.args _ _ σo e1 φ w vs (hW.start hn hs) hv r).mono ?_
      rintro en w' ⟨u, φ', rfl, hu, hg⟩
      exact ⟨u, φ', rfl, hu, hg.start hW hn hs e2 e3 e4⟩
  · intro f args σ v σ' h φ w vs hW hv r
    rcases inv h with h | ⟨x, hx, h⟩
    · exact hr.pan f args σ v σ' h φ w vs hW hv r
    · cases h
  · intro f args σ
    refine ⟨fun v σ' h => ?_, fun v σ' h => ?_⟩
    · rcases inv h with h | ⟨x, hx, h⟩
      · exact (hr.body f args σ).1 v σ' h
      · obtain ⟨hm, rfl, rfl, hn, hs⟩ := tabH_mem hx
        obtain ⟨call, hC, he⟩ := ht x hm
        obtain ⟨σo, e1, _⟩ := HEnt.ends_some he
        exact (hC.body x.f x.args _).1 _ _ e1
    · rcases inv h with h | ⟨x, hx, h⟩
      · exact (hr.body f args σ).2 v σ' h
      · cases h
end
end Go.Ev
namespace Go.Ev
open Go

/-! a table of calls by what they are, however that is known -/
section
variable {P : Program} {ρ : Nat → Value} {w0 : World}
def HasBody (P : Program) (f : Nat) : Prop := ∃ fn, P.funcs[f]? = some fn ∧ fn.body.isSome ∧ fn.name ≠ "runtime.NumGoroutine"
def EntSem (P : Program) (ρ : Nat → Value) (w0 : World) (x : Ent) : Prop :=
  (∀ φ σ w vs, WR P ρ w0 φ σ w → VRs ρ φ x.2.1 vs → ∀ r, CallsIn (FR r) 0 P x.1 vs.toArray w (RetP P ρ w0 φ σ w x.2.2 σ)) ∧ HasBody P x.1
theorem sumS_ok {t : List Ent} (ht : ∀ x ∈ t, EntSem P ρ w0 x) {rest : Nat → List AV → St → CR} (hr : CallOk P ρ w0 rest) : CallOk P ρ w0 (sumT t rest) := by
  have inv : ∀ {f : Nat} {args : List AV} {σ : St} {c : CR}, sumT t rest f args σ = c → rest f args σ = c ∨ ∃ v, c = .val v σ ∧ EntSem P ρ w0 (f, args, v) := by
    intro f args σ c h
    have h : (Option.rec (rest f args σ) (fun v => .val v σ) (tabV t f args) : CR) = c := h
    cases hv : tabV t f args with
    | none => rw [hv] at h; exact .inl h
    | some v => rw [hv] at h; exact .inr ⟨v, h.symm, ht _ (tabV_mem hv)⟩
  constructor
  · intro f args σ v σ' h φ w vs hW hv r
    rcases inv h with h | ⟨v', h, g, _⟩
    · exact hr.val f args σ v σ' h φ w vs hW hv r
    · cases h
      exact g φ _ w vs hW hv r
  · intro f args σ v σ' h φ w vs hW hv r
    rcases inv h with h | ⟨v', h, _⟩
    · exact hr.pan f args σ v σ' h φ w vs hW hv r
    · cases h
  · intro f args σ
    refine ⟨fun v σ' h => ?_, fun v σ' h => ?_⟩
    · rcases inv h with h | ⟨v', h, _, g⟩
      · exact (hr.body f args σ).1 v σ' h
      · exact g
    · rcases inv h with h | ⟨v', h, _⟩
      · exact (hr.body f args σ).2 v σ' h
      · cases h
theorem EntOk.sem {x : Ent} (h : EntOk P ρ w0 x) : EntSem P ρ w0 x := by
  obtain ⟨g1, g2, call, σ2, hF, hc⟩ := h
  refine ⟨fun φ σ w vs hW hv r => ?_, (hF.body x.1 x.2.1 _).1 _ _ hc⟩
  refine (hF.val x.1 x.2.1 _ _ σ2 hc (fun _ => none) w vs (hW.none .xH) (hv.gr g1) r).mono ?_
  rintro en w' ⟨u, φ', rfl, hu, hg⟩
  exact ⟨u, φ, rfl, hu.gr g2, Go1.forget' hW hg⟩
/-- a call by a walk that changes nothing -/
theorem EntSem.pure {f : Nat} {args : List AV} {v : AV} (hb : HasBody P f) (h : ∀ φ σ w vs, WR P ρ w0 φ σ w → VRs ρ φ args vs → ∃ u, VR ρ φ v u ∧ Calls P f vs.toArray w fun e w' => e = .returned u ∧ w' = w) : EntSem P ρ w0 (f, args, v) := by
  refine ⟨fun φ σ w vs hW hv r => ?_, hb⟩
  obtain ⟨u, hu, hk⟩ := h φ σ w vs hW hv
  refine callsIn_FR ((callsIn_wide (n := 0)).2 (hk.mono ?_))
  rintro e w' ⟨rfl, rfl⟩
  exact ⟨_, φ, rfl, hu, .refl hW⟩
theorem WR.cell {φ : Key → Option Pl} {σ : St} {w : World} (hW : WR P ρ w0 φ σ w) {a : Addr} {v : Value} (hm : w0.cell? a = some v) : w.cell? a = some v := by
  have hlt : a.block < w0.heap.size := by
    refine Nat.lt_of_not_le fun hh => ?_
    have : w0.heap[a.block]? = Option.none := by rw [Array.getElem?_eq_none_iff]; exact hh
    simp only [World.cell?, this] at hm
    cases hm
  have := hW.base a.block hlt
  unfold World.cell? at hm ⊢
  rw [this]; exact hm
end
end Go.Ev
namespace Go.Ev
open Go

/-! heap entries by what they are -/
section
variable {P : Program} {ρ : Nat → Value} {w0 : World}
def HEntSem (P : Program) (ρ : Nat → Value) (w0 : World) (x : HEnt) : Prop :=
  (∃ σo : St, σo.next = x.ny ∧ (∀ y ∈ x.hout, σo.heap.get y.1 = some y.2) ∧ (∀ y ∈ x.hin, ∃ z ∈ x.hout, z.1 = y.1) ∧
    ∀ φ w vs, WR P ρ w0 φ x.start w → VRs ρ φ x.args vs → ∀ r, CallsIn (FR r) 0 P x.f vs.toArray w (RetP P ρ w0 φ x.start w x.v σo)) ∧ HasBody P x.f
theorem HEntOk.sem {x : HEnt} (h : HEntOk P ρ w0 x) : HEntSem P ρ w0 x := by
  obtain ⟨call, hC, he⟩ := h
  obtain ⟨σo, e1, e2, e3, e4⟩ := HEnt.ends_some he
  exact ⟨⟨σo, e2, e3, e4, fun φ w vs hW hv r => hC.val x.f x.args _ _ σo e1 φ w vs hW hv r⟩, (hC.body x.f x.args _).1 _ _ e1⟩
theorem sumHS_ok {t : List HEnt} (ht : ∀ x ∈ t, HEntSem P ρ w0 x) {rest : Nat → List AV → St → CR} (hr : CallOk P ρ w0 rest) : CallOk P ρ w0 (sumH t rest) := by
  have inv : ∀ {f : Nat} {args : List AV} {σ : St} {c : CR}, sumH t rest f args σ = c → rest f args σ = c ∨ ∃ x, tabH t f args σ = some x ∧ c = .val x.v ⟨putsB x.hout σ.heap, x.ny⟩ := by
    intro f args σ c h
    have h : (Option.rec (rest f args σ) (fun x => .val x.v ⟨putsB x.hout σ.heap, x.ny⟩) (tabH t f args σ) : CR) = c := h
    cases hv : tabH t f args σ with
    | none => rw [hv] at h; exact .inl h
    | some v => rw [hv] at h; exact .inr ⟨v, rfl, h.symm⟩
  constructor
  · intro f args σ v σ' h φ w vs hW hv r
    rcases inv h with h | ⟨x, hx, h⟩
    · exact hr.val f args σ v σ' h φ w vs hW hv r
    · cases h
      obtain ⟨hm, rfl, rfl, hn, hs⟩ := tabH_mem hx
      obtain ⟨⟨σo, e2, e3, e4, hk⟩, _⟩ := ht x hm
      refine (hk φ w vs (hW.start hn hs) hv r).mono ?_
      rintro en w' ⟨u, φ', rfl, hu, hg⟩
      exact ⟨u, φ', rfl, hu, hg.start hW hn hs e2 e3 e4⟩
  · intro f args σ v σ' h φ w vs hW hv r
    rcases inv h with h | ⟨x, hx, h⟩
    · exact hr.pan f args σ v σ' h φ w vs hW hv r
    · cases h
  · intro f args σ
    refine ⟨fun v σ' h => ?_, fun v σ' h => ?_⟩
    · rcases inv h with h | ⟨x, hx, h⟩
      · exact (hr.body f args σ).1 v σ' h
      · obtain ⟨hm, rfl, rfl, _⟩ := tabH_mem hx
        exact (ht x hm).2
    · rcases inv h with h | ⟨x, hx, h⟩
      · exact (hr.body f args σ).2 v σ' h
      · cases h
end
end Go.Ev
namespace Go.Ev
open Go

/-! entries under other words; a walk that turns one cell -/
section
variable {P : Program} {ρ : Nat → Value} {w0 : World}
theorem EntSem.conv {f : Nat} {args args' : List AV} {v v' : AV} (h : EntSem P ρ w0 (f, args', v')) (ha : ∀ φ vs, VRs ρ φ args vs → VRs ρ φ args' vs) (hv : ∀ φ u, VR ρ φ v' u → VR ρ φ v u) : EntSem P ρ w0 (f, args, v) := by
  refine ⟨fun φ σ w vs hW hx r => (h.1 φ σ w vs hW (ha φ vs hx) r).mono ?_, h.2⟩
  rintro en w' ⟨u, φ', rfl, hu, hg⟩
  exact ⟨u, φ', rfl, hv φ' u hu, hg⟩
variable {φ φ' : Key → Option Pl} {σ σ' : St} {w w' : World}
theorem Go1.bump (h : Go1 P ρ w0 φ σ w φ' σ' w') {n : Key} (hn : σ'.next.num ≤ n.num) : Go1 P ρ w0 φ σ w φ' ⟨σ'.heap, n⟩ w' :=
  ⟨h.ext, ⟨h.rel.live, h.rel.inj, fun k pl e => Nat.lt_of_lt_of_le (h.rel.fresh k pl e) hn, h.rel.base, h.rel.low, h.rel.top⟩, h.os, h.tape, h.output, h.size, h.keep, h.rng, Nat.le_trans h.nxt hn, h.nwk⟩
theorem HEntSem.conv {x : HEnt} (h : HEntSem P ρ w0 x) {v : AV} (hv : ∀ φ u, VR ρ φ x.v u → VR ρ φ v u) {ny : Key} (hn : x.ny.num ≤ ny.num) : HEntSem P ρ w0 { x with v := v, ny := ny } := by
  obtain ⟨⟨σo, e1, e2, e3, hk⟩, hb⟩ := h
  refine ⟨⟨⟨σo.heap, ny⟩, rfl, e2, e3, fun φ w vs hW hx r => (hk φ w vs hW hx r).mono ?_⟩, hb⟩
  rintro en w' ⟨u, φ', rfl, hu, hg⟩
  exact ⟨u, φ', rfl, hv _ _ hu, hg.bump (by rw [e1]; exact hn)⟩
theorem WR.cellOf {k : Key} {ty : Nat} {l : List AV} {pl : Pl} (hW : WR P ρ w0 φ σ w) (hk : σ.heap.get k = some (.cells ty l)) (hp : φ k = some pl) {i : Nat} {a : AV} (hi : l[i]? = some a) :
    ∃ v, w.cell? ⟨pl.blk, pl.base + i, Option.none⟩ = some v ∧ VR ρ φ a v ∧ w.frozen? ⟨pl.blk, pl.base + i, Option.none⟩ = false := by
  obtain ⟨pl', o, e1, e2, e3⟩ := hW.live k _ hk
  rw [hp] at e1; cases e1
  cases o with
  | cells c ty' fz =>
    obtain ⟨rfl, ef, es, el, eg⟩ := e3
    obtain ⟨v, a1, a2, a3⟩ := eg i a hi
    refine ⟨v, by simp [World.cell?, e2, a1], a2, ?_⟩
    have hlt : pl.base + i < c.size := (Array.getElem?_eq_some_iff.1 a1).1
    have := ef.1 _ hlt
    cases fz
    simp only [World.frozen?, e2]
    simp at this ⊢
    exact this
  | _ => exact e3.elim
theorem Go1.set1 {k : Key} {ty : Nat} {l : List AV} {pl : Pl} (hW : WR P ρ w0 φ σ w) (hk : σ.heap.get k = some (.cells ty l)) (hp : φ k = some pl) {i : Nat} (hi : i < l.length) {a : AV} {v : Value} (hv : VR ρ φ a v) (h1 : v.oneCell' = true) :
    Go1 P ρ w0 φ σ w φ (σ.put k (.cells ty (l.set i a))) (w.setCell ⟨pl.blk, pl.base + i, none⟩ v) := by
  obtain ⟨pl', o, e1, e2, e3⟩ := hW.live k _ hk
  rw [hp] at e1; cases e1
  cases o with
  | cells c ty' fz =>
    obtain ⟨rfl, ef, es, el, eg⟩ := e3
    rw [setCell_eq_setRow w pl.blk (pl.base + i) c ty' fz v e2, setRow_wput e2]
    refine Go1.put hW hk hp _ ⟨rfl, ?_, ?_, ?_, ?_⟩
    · simpa using ef
    · simpa using es
    · simpa using el
    · intro j b hj
      rw [List.getElem?_set] at hj
      split at hj
      · rename_i e; subst e
        simp [] at hj; subst hj
        refine ⟨v, ?_, hv, h1⟩
        rw [Array.getElem?_setIfInBounds]
        have : pl.base + i < c.size := by omega
        simp [this]
      · rename_i hne
        obtain ⟨u, a1, a2⟩ := eg j b hj
        refine ⟨u, ?_, a2⟩
        rw [Array.getElem?_setIfInBounds_ne (by omega)]; exact a1
  | _ => exact e3.elim
/-- a method of a struct of two cells that turns the second -/
def NxW (P : Program) (w0 : World) (f : Nat) (L u0 u1 : Value) (n v : Int) : Prop :=
  ∀ (w : World) (b o : Nat), (∀ c, c < w0.heap.size → w.heap[c]? = w0.heap[c]?) → w0.heap.size ≤ b → w.cell? ⟨b, o, none⟩ = some L → w.cell? ⟨b, o + 1, none⟩ = some u0 → w.frozen? ⟨b, o + 1, none⟩ = false →
    Calls P f #[.pointer (some ⟨b, o, none⟩), .int .i64 n] w fun e w' => e = .returned (.int .i64 v) ∧ ∃ d, (w' = { w.setCell ⟨b, o + 1, none⟩ u1 with drawn := d } ∨ (u1 = u0 ∧ w' = { w with drawn := d }))
theorem nxt_sem {f ty : Nat} {kk nx : Key} {s : Nat} {k0 k1 : AV} {n v : Int} {u0 u1 : Value} (hb : HasBody P f) (h0 : ∀ φ u, VR ρ φ k0 u → u = u0) (h1 : ∀ φ, VR ρ φ k1 u1) (ho : u1.oneCell' = true) (hN : NxW P w0 f (ρ s) u0 u1 n v) :
    HEntSem P ρ w0 ⟨f, [.ptr kk 0, .int .i64 n], [(kk, .cells ty [.sym s, k0])], nx, .int .i64 v, [(kk, .cells ty [.sym s, k1])], nx⟩ := by
  refine ⟨⟨⟨Tr.set (some (.cells ty [.sym s, k1])) kk .lf, nx⟩, rfl, ?_, ?_, ?_⟩, hb⟩
  · intro y hy
    simp only [List.mem_singleton] at hy
    subst hy
    simp [Tr.get_set]
  · intro y hy
    simp only [List.mem_singleton] at hy
    subst hy
    exact ⟨_, List.mem_singleton.2 rfl, rfl⟩
  · intro φ w vs hW hv r
    cases hv with
    | cons _ x1 _ l1 g1 hs =>
    cases hs with
    | cons _ x2 _ l2 g2 hs =>
    cases hs
    cases g2
    cases g1 with
    | ptr _ _ pl hp =>
    have hk : (HEnt.start ⟨f, [.ptr kk 0, .int .i64 n], [(kk, .cells ty [.sym s, k0])], nx, .int .i64 v, [(kk, .cells ty [.sym s, k1])], nx⟩).heap.get kk = some (.cells ty [.sym s, k0]) := by
      show (Tr.set (some (.cells ty [.sym s, k0])) kk .lf : Tr Blk).get kk = _
      simp [Tr.get_set]
    obtain ⟨v0, a1, a2, a3⟩ := hW.cellOf hk hp (i := 0) rfl
    obtain ⟨v1, b1, b2, b3⟩ := hW.cellOf hk hp (i := 1) rfl
    have := h0 _ _ b2; subst this
    have hs : v0 = ρ s := by cases a2; rfl
    subst hs
    have hlow := hW.low kk _ pl hk hp
    have hk1 := hN w pl.blk (pl.base + 0) hW.base hlow a1 b1 b3
    refine callsIn_FR ((callsIn_wide (n := 0)).2 (hk1.mono ?_))
    rintro e w' ⟨rfl, d, hd⟩
    refine ⟨_, φ, rfl, .int _ _, ?_⟩
    have hset := Go1.set1 hW hk hp (i := 1) (by simp) (h1 φ) ho
    have heq : (HEnt.start ⟨f, [.ptr kk 0, .int .i64 n], [(kk, .cells ty [.sym s, k0])], nx, .int .i64 v, [(kk, .cells ty [.sym s, k1])], nx⟩).put kk (.cells ty ([AV.sym s, k0].set 1 k1)) = ⟨Tr.set (some (.cells ty [.sym s, k1])) kk (Tr.set (some (.cells ty [.sym s, k0])) kk .lf), nx⟩ := rfl
    rw [heq] at hset
    have hsame : ∀ (w' : World), Go1 P ρ w0 φ (HEnt.start ⟨f, [.ptr kk 0, .int .i64 n], [(kk, .cells ty [.sym s, k0])], nx, .int .i64 v, [(kk, .cells ty [.sym s, k1])], nx⟩) w φ ⟨Tr.set (some (.cells ty [.sym s, k1])) kk (Tr.set (some (.cells ty [.sym s, k0])) kk .lf), nx⟩ w' →
        Go1 P ρ w0 φ (HEnt.start ⟨f, [.ptr kk 0, .int .i64 n], [(kk, .cells ty [.sym s, k0])], nx, .int .i64 v, [(kk, .cells ty [.sym s, k1])], nx⟩) w φ ⟨Tr.set (some (.cells ty [.sym s, k1])) kk .lf, nx⟩ w' := by
      intro w' h
      have e : ∀ j, (Tr.set (some (.cells ty [.sym s, k1])) kk .lf : Tr Blk).get j = (Tr.set (some (.cells ty [.sym s, k1])) kk (Tr.set (some (.cells ty [.sym s, k0])) kk .lf) : Tr Blk).get j := by
        intro j
        simp only [Tr.get_set]
        split <;> rfl
      refine ⟨h.ext, ⟨fun k b hk => h.rel.live k b ((e k).symm.trans hk), fun k k' b b' pl pl' hk hk' => h.rel.inj k k' b b' pl pl' ((e k).symm.trans hk) ((e k').symm.trans hk'), h.rel.fresh, h.rel.base, fun k b pl hk => h.rel.low k b pl ((e k).symm.trans hk), h.rel.top⟩, h.os, h.tape, h.output, h.size, h.keep, ?_, h.nxt, h.nwk⟩
      rintro c ⟨k, b, pl, e1, e2, e3⟩
      exact h.rng c ⟨k, b, pl, (e k).symm.trans e1, e2, e3⟩
    refine hsame _ ?_
    rcases hd with rfl | ⟨rfl, rfl⟩
    · exact hset.trans (Go1.drew hset.rel d)
    · have hself : w.setCell ⟨pl.blk, pl.base + 1, none⟩ u1 = w := by
        obtain ⟨pl', o, e1, e2, e3⟩ := hW.live kk _ hk
        rw [hp] at e1; cases e1
        cases o with
        | cells c ty' fz =>
          rw [setCell_eq_setRow w pl.blk (pl.base + 1) c ty' fz u1 e2]
          have : c[pl.base + 1]? = some u1 := by simpa [World.cell?, e2] using b1
          have hc : c.setIfInBounds (pl.base + 1) u1 = c := by
            apply Array.ext_getElem?
            intro j
            rw [Array.getElem?_setIfInBounds]
            split
            · rename_i e; subst e
              obtain ⟨hlt, hv⟩ := Array.getElem?_eq_some_iff.1 this
              simp [hlt, hv]
            · rfl
          rw [hc, setRow_self w pl.blk c ty' fz e2]
        | _ => exact e3.elim
      rw [hself] at hset
      exact hset.trans (Go1.drew hset.rel d)
end
end Go.Ev
namespace Go.Ev
open Go

/-! flat ground words and the values that they stand for -/
def decS : Nat → Nat → List UInt8
  | 0, _ => []
  | l + 1, n => decS l (n / 256) ++ [UInt8.ofNat (n % 256)]
theorem decS_length : ∀ l n, (decS l n).length = l
  | 0, _ => rfl
  | l + 1, n => by simp [decS, decS_length l]
theorem decS_num : ∀ l n, n < 256 ^ l → strNat (decS l n) 0 = n
  | 0, n, h => by simp at h; subst h; rfl
  | l + 1, n, h => by
    have h1 : n / 256 < 256 ^ l := by rw [Nat.div_lt_iff_lt_mul (by omega)]; rw [Nat.pow_succ] at h; exact h
    rw [decS, strNat_append, decS_num l _ h1]
    have : strNat [UInt8.ofNat (n % 256)] 0 = n % 256 := by
      simp only [strNat, Nat.zero_mul, Nat.zero_add]
      have : n % 256 < 256 := Nat.mod_lt _ (by omega)
      simp
    rw [this]
    simp
    omega
def strOf (l n : Nat) : ByteArray := ⟨(decS l n).toArray⟩
theorem strOf_R {l n : Nat} (h : n < 256 ^ l) : StrR l n (strOf l n) := ⟨by simp [strOf, decS_length], by simp [strOf, decS_num l n h]⟩
def gv : AV → Value
  | .int k m => .int k m
  | .str l n => .string (strOf l n)
  | _ => .int .i64 0
def Flat : AV → Prop
  | .int _ _ => True
  | .str l n => n < 256 ^ l
  | _ => False
theorem StrR.eq {l n : Nat} {s t : ByteArray} (h : StrR l n s) (h' : StrR l n t) : s = t := by
  have := strNat_inj (h.1.trans h'.1.symm) (h.2.trans h'.2.symm)
  cases s with
  | mk d => cases t with
    | mk e =>
      have : d = e := by rw [← Array.toArray_toList (xs := d), ← Array.toArray_toList (xs := e), this]
      rw [this]
section
variable {ρ : Nat → Value} {φ : Key → Option Pl}
theorem gv_VR {g : AV} (hf : Flat g) : VR ρ φ g (gv g) := by
  cases g <;> first | exact hf.elim | exact .int _ _ | exact .str _ _ _ (strOf_R hf)
theorem VR.flat {g : AV} (hf : Flat g) {v : Value} (h : VR ρ φ g v) : v = gv g := by
  cases g <;> first | exact hf.elim | (cases h; rfl) | skip
  cases h with
  | str _ _ s h => rw [h.eq (strOf_R hf)]; rfl
theorem gv_one (g : AV) : (gv g).oneCell' = true := by cases g <;> rfl
end
section
variable {ρ : Nat → Value}
/-- two words stand for the same values -/
def VEq (ρ : Nat → Value) (x y : AV) : Prop := ∀ φ v, VR ρ φ x v ↔ VR ρ φ y v
def VEqs (ρ : Nat → Value) (x y : List AV) : Prop := ∀ φ v, VRs ρ φ x v ↔ VRs ρ φ y v
theorem VEq.refl (x : AV) : VEq ρ x x := fun _ _ => Iff.rfl
theorem VEqs.refl (x : List AV) : VEqs ρ x x := fun _ _ => Iff.rfl
theorem VEq.sym {k : Nat} {g : AV} (hf : Flat g) (h : ρ k = gv g) : VEq ρ (.sym k) g := fun φ v =>
  ⟨fun hv => by cases hv; rw [h]; exact gv_VR hf, fun hv => by rw [hv.flat hf, ← h]; exact .sym k⟩
theorem VEqs.cons {x y : AV} {l m : List AV} (h : VEq ρ x y) (hs : VEqs ρ l m) : VEqs ρ (x :: l) (y :: m) := fun φ v =>
  ⟨fun hv => by cases hv with | cons _ _ _ _ a b => exact .cons _ _ _ _ ((h _ _).1 a) ((hs _ _).1 b), fun hv => by cases hv with | cons _ _ _ _ a b => exact .cons _ _ _ _ ((h _ _).2 a) ((hs _ _).2 b)⟩
theorem VEq.agg {l m : List AV} (h : VEqs ρ l m) : VEq ρ (.agg l) (.agg m) := fun φ v =>
  ⟨fun hv => by cases hv with | agg _ x a b => exact .agg _ _ ((h _ _).1 a) b, fun hv => by cases hv with | agg _ x a b => exact .agg _ _ ((h _ _).2 a) b⟩
theorem VEq.tup {l m : List AV} (h : VEqs ρ l m) : VEq ρ (.tup l) (.tup m) := fun φ v =>
  ⟨fun hv => by cases hv with | tup _ x a => exact .tup _ _ ((h _ _).1 a), fun hv => by cases hv with | tup _ x a => exact .tup _ _ ((h _ _).2 a)⟩
variable {P : Program} {w0 : World}
theorem EntSem.sub {f : Nat} {args args' : List AV} {v v' : AV} (h : EntSem P ρ w0 (f, args', v')) (ha : VEqs ρ args args') (hv : VEq ρ v v') : EntSem P ρ w0 (f, args, v) :=
  h.conv (fun φ vs => (ha φ vs).1) (fun φ u => (hv φ u).2)
theorem VR.ne_of {l n : Nat} (hl : l ≠ 0) {φ : Key → Option Pl} {u : Value} (h : VR ρ φ (.str l n) u) : VR ρ φ .ne u := by
  cases h with
  | str _ _ s h => exact .ne s (by rw [h.1]; exact hl)
end
/-! checks of a list -/
noncomputable def allB {α : Type} (p : α → Bool) (l : List α) : Bool := List.rec true (fun x _ ih => bcond (p x) ih false) l
theorem allB_mem {α : Type} {p : α → Bool} : ∀ {l : List α}, allB p l = true → ∀ x ∈ l, p x = true
  | [], _, _, hx => by cases hx
  | y :: l, h, x, hx => by
    obtain ⟨h1, h2⟩ := bcond_and (x := allB p l) (show bcond (p y) (allB p l) false = true from h)
    rcases List.mem_cons.1 hx with rfl | hx
    · exact h1
    · exact allB_mem h2 x hx
noncomputable def memB (r : AV) (l : List AV) : Bool := List.rec false (fun x _ ih => bcond (AV.beq x r) true ih) l
theorem memB_mem {r : AV} : ∀ {l : List AV}, memB r l = true → r ∈ l
  | [], h => by cases h
  | y :: l, h => by
    have h : bcond (AV.beq y r) true (memB r l) = true := h
    rw [bcond_eq] at h
    split at h
    · rename_i hb
      rw [AV.beq_eq _ _ hb]; exact List.mem_cons_self
    · exact List.mem_cons_of_mem _ (memB_mem h)
noncomputable def sameB (x : Option AV) (r : AV) : Bool := Option.rec false (fun y => AV.beq y r) x
theorem sameB_eq {x : Option AV} {r : AV} (h : sameB x r = true) : x = some r := by
  cases x with
  | none => cases h
  | some y => rw [AV.beq_eq y r h]
noncomputable def optB (x : Option AV) (p : AV → Bool) : Bool := Option.rec false p x
theorem optB_some {x : Option AV} {p : AV → Bool} (h : optB x p = true) : ∃ r, x = some r ∧ p r = true := by
  cases x with
  | none => cases h
  | some y => exact ⟨y, rfl, h⟩
end Go.Ev
