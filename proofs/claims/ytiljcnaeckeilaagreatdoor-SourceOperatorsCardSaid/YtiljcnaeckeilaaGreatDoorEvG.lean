/-
Proved here: regions that draw their order are evaluated alike in every order.
Conditions: none beyond those that the statements name.
-/
import Derived.Test.YtiljcnaeckeilaaGreatDoorEvF
namespace Go.Ev
open Go

/-! ## what an operation reads -/
section
theorem evL_congr {l : List Opd} {e e' : Env} (h : ∀ x ∈ l, x.ev e = x.ev e') : evL l e = evL l e' := by
  induction l with
  | nil => rfl
  | cons x l ih =>
    show x.ev e :: evL l e = x.ev e' :: evL l e'
    rw [h x (by simp), ih fun y hy => h y (by simp [hy])]
theorem fillV_congr {l : List (Nat × Nat × Opd)} {e e' : Env} (h : ∀ x ∈ l.map (fun p => p.2.2), x.ev e = x.ev e') : ∀ c, fillV l e c = fillV l e' c := by
  induction l with
  | nil => intro c; rfl
  | cons p l ih =>
    intro c
    show (obind (p.2.2.ev e).cells fun vs => bcond (Nat.beq (lenL vs) p.2.1) (obind (setL vs c p.1) (fillV l e)) none) =
      (obind (p.2.2.ev e').cells fun vs => bcond (Nat.beq (lenL vs) p.2.1) (obind (setL vs c p.1) (fillV l e')) none)
    rw [h p.2.2 (by simp)]
    have : fillV l e = fillV l e' := funext (ih fun x hx => h x (by simp at hx ⊢; exact .inr hx))
    rw [this]
theorem bnd_congr {x : Option Opd} {e e' : Env} (h : ∀ y ∈ x.toList, y.ev e = y.ev e') (d t : Nat) : bnd x e d t = bnd x e' d t := by
  cases x with
  | none => rfl
  | some y =>
    show ((y.ev e).natV none fun n => bcond (Nat.ble n t) (some n) none) = ((y.ev e').natV none fun n => bcond (Nat.ble n t) (some n) none)
    rw [h y (by simp)]
theorem opV_congr {o : IOp} {cf : Cf} {e e' : Env} {σ : St} (h : ∀ x ∈ o.opds, x.ev e = x.ev e') : opV o cf e σ = opV o cf e' σ := by
  cases o
  case load x =>
    have h1 := h x (by simp [IOp.opds])
    show A.load x cf e σ = A.load x cf e' σ
    unfold A.load
    split
    · rfl
    · rw [h1]
  case build z ps =>
    show A.build z ps cf e σ = A.build z ps cf e' σ
    unfold A.build
    rw [fillV_congr h]
  case buildS ty esz len z ps =>
    show A.buildS ty esz len z ps cf e σ = A.buildS ty esz len z ps cf e' σ
    unfold A.buildS
    rw [fillV_congr h]
  case mkFn f a b =>
    show A.mkFn f a b cf e σ = A.mkFn f a b cf e' σ
    unfold A.mkFn
    rw [evL_congr fun x hx => h x (by simp [IOp.opds, hx]), evL_congr (l := b) fun x hx => h x (by simp [IOp.opds, hx])]
  case call f a =>
    show A.call f a cf e σ = A.call f a cf e' σ
    unfold A.call
    rw [evL_congr (l := a) fun x hx => h x (by simp [IOp.opds, hx])]
  case ext f a =>
    show A.ext f a cf e σ = A.ext f a cf e' σ
    unfold A.ext
    rw [evL_congr (l := a) fun x hx => h x (by simp [IOp.opds, hx])]
  case callV g a =>
    show A.callW g a cf e σ = A.callW g a cf e' σ
    unfold A.callW
    rw [evL_congr fun x hx => h x (by simp [IOp.opds, hx]), h g (by simp [IOp.opds])]
  case defer g a =>
    show A.defer g a cf e σ = A.defer g a cf e' σ
    unfold A.defer
    rw [evL_congr fun x hx => h x (by simp [IOp.opds, hx]), h g (by simp [IOp.opds])]
  case sliS x a b =>
    show A.sliS x a b cf e σ = A.sliS x a b cf e' σ
    unfold A.sliS
    simp only [h x (by simp [IOp.opds]), bnd_congr (x := a) fun y hy => h y (by simp [IOp.opds] at hy ⊢; simp [hy]), bnd_congr (x := b) fun y hy => h y (by simp [IOp.opds] at hy ⊢; simp [hy])]
  case sli s x a b c =>
    show A.sli s x a b c cf e σ = A.sli s x a b c cf e' σ
    unfold A.sli
    simp only [h x (by simp [IOp.opds]), bnd_congr (x := a) fun y hy => h y (by simp [IOp.opds] at hy ⊢; simp [hy]), bnd_congr (x := b) fun y hy => h y (by simp [IOp.opds] at hy ⊢; simp [hy]),
      bnd_congr (x := c) fun y hy => h y (by simp [IOp.opds] at hy ⊢; simp [hy])]
  case sliA n s x a b c =>
    show A.sliA n s x a b c cf e σ = A.sliA n s x a b c cf e' σ
    unfold A.sliA
    simp only [h x (by simp [IOp.opds]), bnd_congr (x := a) fun y hy => h y (by simp [IOp.opds] at hy ⊢; simp [hy]), bnd_congr (x := b) fun y hy => h y (by simp [IOp.opds] at hy ⊢; simp [hy]),
      bnd_congr (x := c) fun y hy => h y (by simp [IOp.opds] at hy ⊢; simp [hy])]
  case pick a b c => simp only [opV, A.pick, h a (by simp [IOp.opds]), h b (by simp [IOp.opds]), h c (by simp [IOp.opds])]
  case min3 a b c => simp only [opV, A.min3, h a (by simp [IOp.opds]), h b (by simp [IOp.opds]), h c (by simp [IOp.opds])]
  case mapUp pk a b c => simp only [opV, A.mapUp, h a (by simp [IOp.opds]), h b (by simp [IOp.opds]), h c (by simp [IOp.opds])]
  case store n a b => simp only [opV, A.store, h a (by simp [IOp.opds]), h b (by simp [IOp.opds])]
  case bin op s a b => simp only [opV, A.bin, h a (by simp [IOp.opds]), h b (by simp [IOp.opds])]
  case mkS t s n z a b => simp only [opV, A.mkS, h a (by simp [IOp.opds]), h b (by simp [IOp.opds])]
  case ixA s a b => simp only [opV, A.ixA, h a (by simp [IOp.opds]), h b (by simp [IOp.opds])]
  case ixAA n s a b => simp only [opV, A.ixAA, h a (by simp [IOp.opds]), h b (by simp [IOp.opds])]
  case ix n s g a b => simp only [opV, A.ix, h a (by simp [IOp.opds]), h b (by simp [IOp.opds])]
  case ixS a b => simp only [opV, A.ixS, h a (by simp [IOp.opds]), h b (by simp [IOp.opds])]
  case look pk z a b ok => simp only [opV, A.look, h a (by simp [IOp.opds]), h b (by simp [IOp.opds])]
  case append t s n a b => simp only [opV, A.append, h a (by simp [IOp.opds]), h b (by simp [IOp.opds])]
  case appendZ t s n z a b => simp only [opV, A.appendZ, h a (by simp [IOp.opds]), h b (by simp [IOp.opds])]
  case copy s a b => simp only [opV, A.copy, h a (by simp [IOp.opds]), h b (by simp [IOp.opds])]
  case delete pk a b => simp only [opV, A.delete, h a (by simp [IOp.opds]), h b (by simp [IOp.opds])]
  case min a b => simp only [opV, A.min, h a (by simp [IOp.opds]), h b (by simp [IOp.opds])]
  case max a b => simp only [opV, A.max, h a (by simp [IOp.opds]), h b (by simp [IOp.opds])]
  case uString t a b => simp only [opV, A.uString, h a (by simp [IOp.opds]), h b (by simp [IOp.opds])]
  case tasT x t z ok => simp only [opV, A.tasT, h x (by simp [IOp.opds])]
  case extr x i => simp only [opV, A.extr, h x (by simp [IOp.opds])]
  case cU2p t n x => simp only [opV, A.cU2p, h x (by simp [IOp.opds])]
  case fldN o n x => simp only [opV, A.fldN, h x (by simp [IOp.opds])]
  all_goals first
    | rfl
    | (rename_i x
       have h1 := h x (by simp [IOp.opds])
       simp only [opV, A.mov, A.cid, A.cI2s, A.range, A.rangeS, A.cap, A.uSliceData, A.panic, A.nilchk, A.next, A.nextS, A.cB2s, A.box, A.loadN, A.un, A.cint, A.cS2b, A.cP2u, A.mkIfc, A.fldA, A.fld, A.len, A.clear, h1]
       done)

/-! ## the kinds -/
theorem ofV_st {x : Option AV} {v : AV} {σ σ' : St} (h : OR.ofV x σ = .val v σ') : σ' = σ := (ofV_val h).2
theorem ro_st {o : IOp} {cf : Cf} {e : Env} {σ : St} {v : AV} {σ' : St} (hk : dkOf o = .read ∨ dkOf o = .pure) (h : opV o cf e σ = .val v σ') : σ' = σ := by
  cases o
  case mov x => cases h; rfl
  case pick a b c => obtain ⟨t, _, h⟩ := boolV_val (show AV.boolV _ _ _ = _ from h) (by simp); cases h; rfl
  case build z ps => exact ofV_st h
  case load x =>
    have h : A.load x cf e σ = .val v σ' := h
    unfold A.load at h
    split at h
    · cases h; rfl
    · obtain ⟨b, off, _, h⟩ := ptrK_val h (by simp); exact ofV_st h
  case loadN n x => obtain ⟨b, off, _, h⟩ := ptrK_val (show AV.ptrK _ _ _ = _ from h) (by simp); exact ofV_st h
  case nilchk x =>
    have h : A.nilchk x cf e σ = .val v σ' := h
    unfold A.nilchk at h
    split at h <;> cases h <;> rfl
  case bin op s a b => exact ofV_st h
  case un op a => exact ofV_st h
  case cint k x =>
    have h : A.cint k x cf e σ = .val v σ' := h
    unfold A.cint at h
    split at h
    · simp only [mkInt, intK_eq] at h; cases h; rfl
    · exact ofV_st h
  case cid x => obtain ⟨k, n, _, h⟩ := strV_val (show AV.strV _ _ _ = _ from h) (by simp); cases h; rfl
  case cI2s x =>
    obtain ⟨k, n, _, h⟩ := natV_val (show AV.natV _ _ _ = _ from h) (by simp)
    obtain ⟨_, h⟩ := bcond_val h (by simp)
    cases h; rfl
  case cB2s x =>
    have h : A.cB2s x cf e σ = .val v σ' := h
    unfold A.cB2s at h
    split at h
    · cases h; rfl
    · exact ofV_st h
    · cases h
  case cP2u n x =>
    have h : A.cP2u n x cf e σ = .val v σ' := h
    unfold A.cP2u at h
    split at h
    · cases h; rfl
    · obtain ⟨p, _, h⟩ := orec_val h
      obtain ⟨_, h⟩ := bcond_val h (by simp)
      cases h; rfl
    · cases h
  case cU2p t n x =>
    have h : A.cU2p t n x cf e σ = .val v σ' := h
    unfold A.cU2p at h
    split at h
    · cases h; rfl
    · obtain ⟨p, _, h⟩ := orec_val h
      obtain ⟨_, h⟩ := bcond_val h (by simp)
      obtain ⟨_, h⟩ := bcond_val h (by simp)
      obtain ⟨_, h⟩ := bcond_val h (by simp)
      cases h; rfl
    · cases h
  case mkIfc t x => cases h; rfl
  case mkFn f a b => cases h; rfl
  case sliS x a b => obtain ⟨k, n, _, h⟩ := strV_val (show AV.strV _ _ _ = _ from h) (by simp); exact ofV_st h
  case sli s x a b c =>
    have h : A.sli s x a b c cf e σ = .val v σ' := h
    unfold A.sli at h
    split at h
    · exact ofV_st h
    · split at h
      · exact ofV_st h
      · cases c with
        | none => obtain ⟨_, h⟩ := bcond_val h (by simp); exact ofV_st h
        | some c => exact ofV_st h
    · cases h
  case sliA n s x a b c => obtain ⟨k, m, _, h⟩ := ptrK_val (show AV.ptrK _ _ _ = _ from h) (by simp); exact ofV_st h
  case fldA n x => obtain ⟨k, m, _, h⟩ := ptrK_val (show AV.ptrK _ _ _ = _ from h) (by simp); rw [natK_eq] at h; cases h; rfl
  case fld n x => obtain ⟨k, _, h⟩ := aggV_val (show AV.aggV _ _ _ = _ from h) (by simp); exact ofV_st h
  case fldN n m x => obtain ⟨k, _, h⟩ := aggV_val (show AV.aggV _ _ _ = _ from h) (by simp); exact ofV_st h
  case ixA s x i =>
    have h : A.ixA s x i cf e σ = .val v σ' := h
    unfold A.ixA at h
    split at h
    · obtain ⟨k, m, _, h⟩ := natV_val h (by simp)
      obtain ⟨_, h⟩ := bcond_val h (by simp)
      rw [natK_eq] at h
      cases h; rfl
    · cases h
  case ixAA n s x i =>
    obtain ⟨k, m, _, h⟩ := ptrK_val (show AV.ptrK _ _ _ = _ from h) (by simp)
    obtain ⟨k, m, _, h⟩ := natV_val h (by simp)
    obtain ⟨_, h⟩ := bcond_val h (by simp)
    rw [natK_eq] at h
    cases h; rfl
  case ix n s g x i =>
    obtain ⟨k, _, h⟩ := aggV_val (show AV.aggV _ _ _ = _ from h) (by simp)
    obtain ⟨k, m, _, h⟩ := natV_val h (by simp)
    obtain ⟨_, h⟩ := bcond_val h (by simp)
    cases g <;> exact ofV_st h
  case ixS x i =>
    obtain ⟨k, m, _, h⟩ := strV_val (show AV.strV _ _ _ = _ from h) (by simp)
    obtain ⟨k, m, _, h⟩ := natV_val h (by simp)
    obtain ⟨_, h⟩ := bcond_val h (by simp)
    rw [natK_eq] at h
    cases h; rfl
  case look pk z m k ok => exact ofV_st h
  case tasT x t z ok =>
    have h : A.tasT x t z ok cf e σ = .val v σ' := h
    unfold A.tasT at h
    split at h
    · rw [bcond_eq] at h
      split at h
      · cases h; rfl
      · obtain ⟨_, h⟩ := bcond_val h (by simp)
        cases h; rfl
    · obtain ⟨_, h⟩ := bcond_val h (by simp)
      cases h; rfl
    · cases h
  case extr x i => obtain ⟨k, _, h⟩ := tupV_val (show AV.tupV _ _ _ = _ from h) (by simp); exact ofV_st h
  case len k x =>
    have h : A.len k x cf e σ = .val v σ' := h
    unfold A.len at h
    split at h
    · split at h <;> cases h <;> rfl
    · split at h <;> cases h <;> rfl
    · exact ofV_st h
  case lenA n => cases h; rfl
  case min a b =>
    obtain ⟨k, m, _, h⟩ := intV_val (show AV.intV _ _ _ = _ from h) (by simp)
    obtain ⟨k, m, _, h⟩ := intV_val h (by simp)
    cases h; rfl
  case min3 a b c =>
    obtain ⟨k, m, _, h⟩ := intV_val (show AV.intV _ _ _ = _ from h) (by simp)
    obtain ⟨k, m, _, h⟩ := intV_val h (by simp)
    obtain ⟨k, m, _, h⟩ := intV_val h (by simp)
    cases h; rfl
  case max a b =>
    obtain ⟨k, m, _, h⟩ := intV_val (show AV.intV _ _ _ = _ from h) (by simp)
    obtain ⟨k, m, _, h⟩ := intV_val h (by simp)
    cases h; rfl
  case ext f a => exact ofV_st h
  all_goals (exfalso; simp [dkOf] at hk; done)
theorem ofV_at {x : Option AV} {v : AV} {σ σ' : St} (h : OR.ofV x σ = .val v σ') (τ : St) : OR.ofV x τ = .val v τ := by
  have := (ofV_val h).1
  subst this
  rfl
theorem pure_at {o : IOp} {cf : Cf} {e : Env} {σ : St} {v : AV} {σ' : St} (hk : dkOf o = .pure) (h : opV o cf e σ = .val v σ') (τ : St) : opV o cf e τ = .val v τ := by
  cases o
  case mov x => cases h; rfl
  case pick a b c =>
    obtain ⟨t, ht, h⟩ := boolV_val (show AV.boolV _ _ _ = _ from h) (by simp)
    cases h
    show A.pick a b c cf e τ = _
    unfold A.pick; rw [ht]; rfl
  case build z ps => exact ofV_at h τ
  case nilchk x =>
    have h : A.nilchk x cf e σ = .val v σ' := h
    show A.nilchk x cf e τ = _
    unfold A.nilchk at h ⊢
    split at h <;> cases h <;> rfl
  case bin op s a b => exact ofV_at h τ
  case un op a => exact ofV_at h τ
  case cint k x =>
    have h : A.cint k x cf e σ = .val v σ' := h
    show A.cint k x cf e τ = _
    unfold A.cint at h ⊢
    split at h
    · simp only [mkInt, intK_eq] at h ⊢; cases h; rfl
    · exact ofV_at h τ
  case cid x =>
    obtain ⟨k, n, hx, h⟩ := strV_val (show AV.strV _ _ _ = _ from h) (by simp); cases h
    show A.cid x cf e τ = _
    unfold A.cid; rw [hx]; rfl
  case cI2s x =>
    obtain ⟨k, n, hx, h⟩ := natV_val (show AV.natV _ _ _ = _ from h) (by simp)
    obtain ⟨hb, h⟩ := bcond_val h (by simp)
    cases h
    show A.cI2s x cf e τ = _
    unfold A.cI2s; rw [hx]; show bcond (Nat.blt n 128) _ _ = _; rw [hb]; rfl
  case mkIfc t x => cases h; rfl
  case mkFn f a b => cases h; rfl
  case sliS x a b =>
    obtain ⟨k, n, hx, h⟩ := strV_val (show AV.strV _ _ _ = _ from h) (by simp)
    show A.sliS x a b cf e τ = _
    unfold A.sliS; rw [hx]; exact ofV_at h τ
  case sliA n s x a b c =>
    obtain ⟨k, m, hx, h⟩ := ptrK_val (show AV.ptrK _ _ _ = _ from h) (by simp)
    show A.sliA n s x a b c cf e τ = _
    unfold A.sliA; rw [hx]; exact ofV_at h τ
  case fldA n x =>
    obtain ⟨k, m, hx, h⟩ := ptrK_val (show AV.ptrK _ _ _ = _ from h) (by simp)
    rw [natK_eq] at h; cases h
    show A.fldA n x cf e τ = _
    unfold A.fldA; rw [hx]; simp only [AV.ptrK, natK_eq]
  case fld n x =>
    obtain ⟨k, hx, h⟩ := aggV_val (show AV.aggV _ _ _ = _ from h) (by simp)
    show A.fld n x cf e τ = _
    unfold A.fld; rw [hx]; exact ofV_at h τ
  case fldN n m x =>
    obtain ⟨k, hx, h⟩ := aggV_val (show AV.aggV _ _ _ = _ from h) (by simp)
    show A.fldN n m x cf e τ = _
    unfold A.fldN; rw [hx]; exact ofV_at h τ
  case ixA s x i =>
    have h : A.ixA s x i cf e σ = .val v σ' := h
    show A.ixA s x i cf e τ = _
    unfold A.ixA at h ⊢
    split at h
    · obtain ⟨k, m, hx, h⟩ := natV_val h (by simp)
      obtain ⟨hb, h⟩ := bcond_val h (by simp)
      rw [natK_eq] at h
      cases h
      rw [hx]; show bcond _ _ _ = _; rw [hb]; simp only [bcond_eq, if_true, natK_eq]
    · cases h
  case ixAA n s x i =>
    obtain ⟨k, m, hx, h⟩ := ptrK_val (show AV.ptrK _ _ _ = _ from h) (by simp)
    obtain ⟨k2, m2, hi, h⟩ := natV_val h (by simp)
    obtain ⟨hb, h⟩ := bcond_val h (by simp)
    rw [natK_eq] at h
    cases h
    show A.ixAA n s x i cf e τ = _
    unfold A.ixAA; rw [hx]; show AV.natV (i.ev e) _ _ = _; rw [hi]; show bcond _ _ _ = _; rw [hb]; simp only [bcond_eq, if_true, natK_eq]
  case ix n s g x i =>
    obtain ⟨k, hx, h⟩ := aggV_val (show AV.aggV _ _ _ = _ from h) (by simp)
    obtain ⟨k2, m, hi, h⟩ := natV_val h (by simp)
    obtain ⟨hb, h⟩ := bcond_val h (by simp)
    show A.ix n s g x i cf e τ = _
    unfold A.ix; rw [hx]; show AV.natV (i.ev e) _ _ = _; rw [hi]; show bcond _ _ _ = _; rw [hb]
    cases g <;> exact ofV_at h τ
  case ixS x i =>
    obtain ⟨k, m, hx, h⟩ := strV_val (show AV.strV _ _ _ = _ from h) (by simp)
    obtain ⟨k2, m2, hi, h⟩ := natV_val h (by simp)
    obtain ⟨hb, h⟩ := bcond_val h (by simp)
    rw [natK_eq] at h
    cases h
    show A.ixS x i cf e τ = _
    unfold A.ixS; rw [hx]; show AV.natV (i.ev e) _ _ = _; rw [hi]; show bcond _ _ _ = _; rw [hb]; simp only [bcond_eq, if_true, natK_eq]
  case tasT x t z ok =>
    have h : A.tasT x t z ok cf e σ = .val v σ' := h
    show A.tasT x t z ok cf e τ = _
    unfold A.tasT at h ⊢
    split at h
    · rw [bcond_eq] at h ⊢
      split at h
      · rename_i hb
        cases h
        simp only [hb, if_true]
      · rename_i hb
        obtain ⟨hok, h⟩ := bcond_val h (by simp)
        cases h
        simp only [hb, hok]; rfl
    · obtain ⟨hok, h⟩ := bcond_val h (by simp)
      cases h
      rw [hok]; rfl
    · cases h
  case extr x i =>
    obtain ⟨k, hx, h⟩ := tupV_val (show AV.tupV _ _ _ = _ from h) (by simp)
    show A.extr x i cf e τ = _
    unfold A.extr; rw [hx]; exact ofV_at h τ
  case len k x =>
    have h : A.len k x cf e σ = .val v σ' := h
    show A.len k x cf e τ = _
    cases k with
    | mp => simp [dkOf] at hk
    | sl =>
      simp only [A.len] at h ⊢
      split at h <;> cases h <;> rfl
    | st =>
      simp only [A.len] at h ⊢
      split at h <;> cases h <;> rfl
  case lenA n => cases h; rfl
  case min a b =>
    obtain ⟨k, m, hx, h⟩ := intV_val (show AV.intV _ _ _ = _ from h) (by simp)
    obtain ⟨k2, m2, hy, h⟩ := intV_val h (by simp)
    cases h
    show A.min a b cf e τ = _
    unfold A.min; rw [hx]; show AV.intV _ _ _ = _; rw [hy]; rfl
  case min3 a b c =>
    obtain ⟨k, m, hx, h⟩ := intV_val (show AV.intV _ _ _ = _ from h) (by simp)
    obtain ⟨k2, m2, hy, h⟩ := intV_val h (by simp)
    obtain ⟨k3, m3, hz, h⟩ := intV_val h (by simp)
    cases h
    show A.min3 a b c cf e τ = _
    unfold A.min3; rw [hx]; show AV.intV _ _ _ = _; rw [hy]; show AV.intV _ _ _ = _; rw [hz]; rfl
  case max a b =>
    obtain ⟨k, m, hx, h⟩ := intV_val (show AV.intV _ _ _ = _ from h) (by simp)
    obtain ⟨k2, m2, hy, h⟩ := intV_val h (by simp)
    cases h
    show A.max a b cf e τ = _
    unfold A.max; rw [hx]; show AV.intV _ _ _ = _; rw [hy]; rfl
  case ext f a => exact ofV_at h τ
  all_goals (exfalso; simp [dkOf] at hk; done)
end
end Go.Ev
namespace Go.Ev
open Go

section
variable {P : Program} {ρ : Nat → Value} {w0 : World} {φ : Key → Option Pl} {σ : St} {w : World}

theorem cells_BR {l : List AV} {vs : List Value} (hv : VRs ρ φ l vs) (h1 : ∀ v ∈ vs, v.oneCell' = true) (ty blk : Nat) : BR P ρ φ (.cells ty l) ⟨blk, 0, vs.length⟩ (.cells vs.toArray ty) := by
  refine ⟨rfl, ⟨FzOk.zero _, Nat.zero_mod _⟩, by simp, by have := hv.length; simp; omega, ?_⟩
  intro i a hi
  obtain ⟨v, a1, a2⟩ := hv.get hi
  refine ⟨v, ?_, a2, h1 v (List.mem_of_getElem? a1)⟩
  simpa using a1

/-- the operation lays one new block, whatever the heap; its value names it -/
def NewOk (P : Program) (ρ : Nat → Value) (φ : Key → Option Pl) (w : World) (s : Sem Next) (b : Blk) (mk : Key → AV) : Prop :=
  ∃ v' ob sz, s.run P w = .ok (.value v') { w with heap := w.heap.push ob } ∧ BR P ρ φ b ⟨w.heap.size, 0, sz⟩ ob ∧ ∀ φ' k, PExt φ φ' → φ' k = some ⟨w.heap.size, 0, sz⟩ → VR ρ φ' (mk k) v'

variable (hC : Ctx P ρ w0) {nt : Nat} {e : Env} {a : Act} (hE : ER ρ φ nt e a.tmps) {cf : Cf} {v : AV} {σ' : St} {o : Oper}
include hC hE

omit hE in
theorem alloc_new {ty : TypeId} {z : AV} {zs : List AV} (ho : o.op = .alloc ty) (hz : zeroT P ty = some z) (hzs : z.cells = some zs) : NewOk P ρ φ w (execOp a.eval o) (.cells ty zs) (fun k => .ptr k 0) := by
  obtain ⟨zv, hv, hrun⟩ := run_zeroValue' (P := P) hz
  obtain ⟨c1, c2⟩ := VR.cells (φ := φ) hC.one (ofVal_VR hC.one hv) hzs
  refine ⟨.pointer (some ⟨w.heap.size, 0, none⟩), _, _, ?_, cells_BR c1 c2 ty _, fun φ' k hx hk => .ptr _ _ _ hk⟩
  simp [execOp, ho, Instr.alloc, hrun, newVar, newRow]
theorem box_new {ty : TypeId} {x : Operand} {y : Opd} {l : List AV} (ho : o.op = .box ty x) (hy : lOpd P x = some y) (hl : (y.ev e).cells = some l) : NewOk P ρ φ w (execOp a.eval o) (.cells ty l) (fun k => .ptr k 0) := by
  obtain ⟨c1, c2⟩ := VR.cells hC.one (lOpd_VR hC.one hy hE) hl
  refine ⟨.pointer (some ⟨w.heap.size, 0, none⟩), _, _, ?_, cells_BR c1 c2 ty _, fun φ' k hx hk => .ptr _ _ _ hk⟩
  simp [execOp, ho, Instr.box, newVar, newRow]
theorem buildS_new {t et : TypeId} {len s : Nat} {parts : Array (Nat × Operand)} {z : AV} {zs r : List AV} {ps : List (Nat × Nat × Opd)} (ho : o.op = .buildSlice t len parts) (ht : P.underlying t = some (.slice et)) (hs : sizeT P et = some s) (hz : zeroT P et = some z) (hzs : z.cells = some zs) (hl : zs.length = s)
    (hle : len * s ≤ 100000) (hps : optL (lPart P (fun i => some (i * s, s))) parts.toList = some ps) (h1 : fillV ps e (catL (List.replicate len zs)) = some r) : NewOk P ρ φ w (execOp a.eval o) (.cells et r) (fun k => .sli k 0 len (.ex len)) := by
  rw [catL_rep] at h1
  obtain ⟨i, zv, i1, i2, i3⟩ := zeroT_info hz
  obtain ⟨zv', hzv', hrun⟩ := run_zeroValue' (P := P) hz
  have hzr := ofVal_VR (φ := φ) hC.one hzv'
  obtain ⟨c1, c2⟩ := VR.cells hC.one hzr hzs
  have hlim : ¬ len * s > 2 ^ 24 := by omega
  have main : ∀ (zero : Array Value), (len * s = 0 ∧ zero = #[] ∨ len * s ≠ 0 ∧ zero = zv'.cells) → NewOk P ρ φ w (execOp a.eval o) (.cells et r) (fun k => .sli k 0 len (.ex len)) := by
    intro zero hzero
    obtain ⟨r1, r2⟩ := rep_ok c1 c2 len zero (by rw [hl]; rcases hzero with h | h; exact .inl h.1; exact .inr h.2)
    rw [hl] at r1 r2
    obtain ⟨out, k1, k2, k3⟩ := fill_ok hC hE hps h1 r1 r2
    refine ⟨.slice (some ⟨w.heap.size, 0, none⟩) len len, _, _, ?_, cells_BR k2 k3 et _, fun φ' k hx hk => .sliE _ _ _ _ _ hk⟩
    simp only [execOp, ho, Sem.run_bind]
    unfold Instr.buildSlice
    simp only [Sem.run_bind, run_underlying ht, Result.andThen_ok, run_sizeOf' hs, hlim, if_false, Sem.run_pure, Array.toList_map]
    rcases hzero with ⟨h0, rfl⟩ | ⟨h0, rfl⟩
    · simp only [h0, if_true]
      rw [h0] at k1
      simp only [Sem.run_bind, Sem.run_pure, Result.andThen_ok, k1]
      simp
      rfl
    · simp only [h0, if_false, Sem.run_bind, hrun, Sem.run_pure, Result.andThen_ok]
      simp only [k1]
      simp
      rfl
  by_cases h0 : len * s = 0
  · exact main #[] (.inl ⟨h0, rfl⟩)
  · exact main _ (.inr ⟨h0, rfl⟩)
theorem mkS_new {t el : TypeId} {x y : Operand} {x' y' : Opd} {esz bytes l c : Nat} {k1 k2 : IntKind} {z : AV} {zs : List AV} (ho : o.op = .makeSlice t x y) (ht : P.underlying t = some (.slice el)) (hs : sizeT P el = some esz) (hby : bytesT P el = some bytes)
    (hz : zeroT P el = some z) (hzs : z.cells = some zs) (hzl : zs.length = esz) (h1 : lOpd P x = some x') (h2 : lOpd P y = some y') (e1 : x'.ev e = .int k1 (Int.ofNat l)) (e2 : y'.ev e = .int k2 (Int.ofNat c)) (b1 : l ≤ c) (b2 : c * bytes ≤ 1000000000) (b3 : c ≤ 1000000000) :
    NewOk P ρ φ w (execOp a.eval o) (.cells el (repL c zs)) (fun k => .sli k 0 l (.ex c)) := by
  have hx := lOpd_VR hC.one h1 hE
  have hy := lOpd_VR hC.one h2 hE
  rw [e1] at hx
  rw [e2] at hy
  have hx := intK_VR hx
  have hy := intK_VR hy
  obtain ⟨zv, hzv, hrun⟩ := run_zeroValue' (P := P) hz
  have hzr := ofVal_VR (φ := φ) hC.one hzv
  obtain ⟨i, i1, i2⟩ := bytesT_info hby
  have wl : IntKind.i64.wrap (Int.ofNat l) = (l : Int) := wrap_fits (by simp [IntKind.min, IntKind.max, IntKind.signed, IntKind.bits]; omega)
  have wc : IntKind.i64.wrap (Int.ofNat c) = (c : Int) := wrap_fits (by simp [IntKind.min, IntKind.max, IntKind.signed, IntKind.bits]; omega)
  obtain ⟨c1, c2⟩ := VR.cells hC.one hzr hzs
  have hc : ¬ ((c : Int) < 0) := by omega
  have hl : ¬ ((l : Int) < 0) := by omega
  have hlc : ¬ ((l : Int) > (c : Int)) := by omega
  have hlc' : ¬ ((c : Int) < (l : Int)) := by omega
  have hbc : ¬ ((bytes : Int) * (c : Int) > 2 ^ 48) := by
    have : (bytes : Int) * (c : Int) = ((c * bytes : Nat) : Int) := by rw [Nat.mul_comm]; simp
    rw [this]; omega
  have hask : ∀ (b : Nat) (w : World), (askRoom b).run P w = .ok () w := by
    intro b w; unfold askRoom; split <;> rfl
  have main : ∀ (zero : Array Value), (c * esz = 0 ∧ zero = #[] ∨ c * esz ≠ 0 ∧ zero = zv.cells) → NewOk P ρ φ w (execOp a.eval o) (.cells el (repL c zs)) (fun k => .sli k 0 l (.ex c)) := by
    intro zero hzero
    obtain ⟨r1, r2⟩ := rep_ok c1 c2 c zero (by rw [hzl]; rcases hzero with h | h; exact .inl h.1; exact .inr h.2)
    rw [hzl] at r1 r2
    refine ⟨.slice (some ⟨w.heap.size, 0, none⟩) l c, .cells ((Array.range (c * esz)).map (zero[· % zero.size]!)) el, _, ?_, by have := cells_BR (P := P) r1 r2 el w.heap.size; rwa [Array.toArray_toList] at this, fun φ' k hx hk => .sliE _ _ _ _ _ hk⟩
    have e3 : Instr.makeSlice t (a.eval x) (a.eval y) = Instr.makeSlice t (.int k1 (Int.ofNat l)) (.int k2 (Int.ofNat c)) := by rw [hx, hy]
    simp only [execOp, ho, e3, Sem.run_bind]
    unfold Instr.makeSlice
    simp only [Sem.run_bind, run_underlying ht, Result.andThen_ok, asInt, asIntOf, Sem.run_pure, wl, wc, run_typeInfo' i1, i2]
    have hcond : ((decide ((c : Int) < 0) || decide ((bytes : Int) * (c : Int) > 2 ^ 48)) || decide ((l : Int) < 0) || decide ((l : Int) > (c : Int))) = false := by simp [hc, hl, hlc']; omega
    have e4 : ((c : Int)).toNat = c := rfl
    have e5 : ((l : Int)).toNat = l := rfl
    rw [hcond]
    simp only [Bool.false_eq_true, if_false, Sem.run_bind, hask, Result.andThen_ok, e4, e5, run_sizeOf' hs]
    rcases hzero with ⟨h0, rfl⟩ | ⟨h0, rfl⟩
    · simp only [h0, if_true]
      rfl
    · simp only [h0, if_false, Sem.run_bind, hrun, Sem.run_pure, Result.andThen_ok]
      rfl
  by_cases h0 : c * esz = 0
  · exact main #[] (.inl ⟨h0, rfl⟩)
  · exact main _ (.inr ⟨h0, rfl⟩)

omit hC hE in
theorem lCall_kind {c : Call} {args : List Opd} {op : IOp} (hl : lCall P c args = some op) (hk : dkOf op = .alloc) : False := by
  unfold lCall at hl
  split at hl
  all_goals
    try simp only [Option.bind_eq_bind, Option.bind_eq_some_iff, Option.some.injEq] at hl
    repeat' first
      | (cases hl; done)
      | (subst hl; cases hk; done)
      | (cases hl; cases hk; done)
      | (obtain ⟨_, _, hl⟩ := hl; skip)
      | split at hl
      | simp only [Option.bind_eq_some_iff, Option.some.injEq] at hl
/-- every operation of this kind -/
theorem alloc_kind {op : IOp} (hl : lOp P o.op = some op) (hk : dkOf op = .alloc) (h : opV op cf e σ = .val v σ') :
    ∃ b mk, v = mk σ.next ∧ σ' = σ.new b ∧ ∀ w, NewOk P ρ φ w (execOp a.eval o) b mk := by
  cases ho : o.op <;> rw [ho] at hl
  case makeFunc fn x y =>
    exfalso
    cases fn <;> simp only [lOp, Option.bind_eq_bind, Option.bind_eq_some_iff, Option.some.injEq, reduceCtorEq] at hl
    obtain ⟨_, _, _, _, rfl⟩ := hl
    cases hk
  case makeMap t r =>
    exfalso
    cases r with
    | none => simp only [lOp, Option.some.injEq] at hl; subst hl; cases hk
    | some x =>
      cases x with
      | const c =>
        cases c <;> simp only [lOp, reduceCtorEq] at hl
        split at hl <;> cases hl
        cases hk
      | _ => simp only [lOp, reduceCtorEq] at hl
  all_goals simp only [lOp, Option.bind_eq_bind, Option.bind_eq_some_iff, Option.some.injEq, reduceCtorEq] at hl
  case alloc t =>
    obtain ⟨z, hz, zs, hzs, rfl⟩ := hl
    cases h
    exact ⟨_, fun k => .ptr k 0, rfl, rfl, fun w => alloc_new hC ho hz hzs⟩
  case box t x =>
    obtain ⟨y, hy, rfl⟩ := hl
    obtain ⟨l, hl', h⟩ := orec_val (show (Option.rec OR.bad _ _ : OR) = _ from h)
    cases h
    exact ⟨_, fun k => .ptr k 0, rfl, rfl, fun w => box_new hC hE ho hy hl'⟩
  case buildSlice t len parts =>
    obtain ⟨d, hd, hl⟩ := hl
    split at hl
    case h_2 => cases hl
    simp only [Option.bind_eq_some_iff] at hl
    obtain ⟨s, hs, z, hz, zs0, hzs0, hl⟩ := hl
    split at hl
    case isTrue => cases hl
    rename_i hcond
    simp only [Bool.or_eq_true, decide_eq_true_eq, bne_iff_ne, ne_eq, not_or, Decidable.not_not] at hcond
    simp only [Option.bind_eq_some_iff, Option.some.injEq] at hl
    obtain ⟨zs, hzs, ps, hps, rfl⟩ := hl
    rw [hzs0] at hzs
    cases hzs
    obtain ⟨r, hr, h⟩ := orec_val (show (Option.rec OR.bad _ _ : OR) = _ from h)
    cases h
    exact ⟨_, fun k => .sli k 0 len (.ex len), rfl, rfl, fun w => buildS_new hC hE ho hd hs hz hzs0 hcond.2 (by omega) hps hr⟩
  case makeSlice t x y =>
    obtain ⟨d, hd, hl⟩ := hl
    split at hl
    case h_2 => cases hl
    simp only [Option.bind_eq_some_iff] at hl
    obtain ⟨s, hs, b, hb, z, hz, zs, hzs, x', h1, y', h2, hl⟩ := hl
    split at hl
    case isTrue => cases hl
    rename_i hcond
    cases hl
    obtain ⟨k1, l, e1, h⟩ := natV_val (show AV.natV _ _ _ = _ from h) (by simp)
    obtain ⟨k2, c, e2, h⟩ := natV_val h (by simp)
    obtain ⟨b1, h⟩ := bcond_val h (by simp)
    obtain ⟨b2, h⟩ := bcond_val h (by simp)
    obtain ⟨b3, h⟩ := bcond_val h (by simp)
    cases h
    exact ⟨_, fun k => .sli k 0 l (.ex c), rfl, rfl, fun w => mkS_new hC hE ho hd hs hb hz hzs (by simpa using hcond) h1 h2 e1 e2 (Nat.le_of_ble_eq_true b1) (Nat.le_of_ble_eq_true b2) (Nat.le_of_ble_eq_true b3)⟩
  case call c =>
    obtain ⟨args, _, hl⟩ := hl
    exact (lCall_kind hl hk).elim
  all_goals
    exfalso
    repeat' first
      | (cases hl; done)
      | (subst hl; cases hk; done)
      | (subst hl; split at hk <;> cases hk; done)
      | (cases hl; cases hk; done)
      | obtain ⟨_, _, hl⟩ := hl
      | split at hl
      | simp only [Option.bind_eq_some_iff, Option.some.injEq] at hl
end
end Go.Ev
namespace Go.Ev
open Go

theorem recheck_ok {cf : Cf} {o : IOp} {e : Env} {v : AV} : ∀ {n : Nat} {l : List St}, recheck cf o e v n l = true → ∀ k, k < n → ∃ σ σ', l[k]? = some σ ∧ opV o cf e σ = .val v σ'
  | 0, _, _, k, hk => by omega
  | n + 1, [], h, _, _ => by cases h
  | n + 1, σ :: l, h, k, hk => by
    have h : (OR.rec false (fun w _ => bcond (AV.beq v w) (recheck cf o e v n l) false) (fun _ _ _ => false) (fun _ _ => false) (opV o cf e σ) : Bool) = true := h
    cases ho : opV o cf e σ with
    | bad => rw [ho] at h; cases h
    | dfr f a σ1 => rw [ho] at h; cases h
    | pan w σ1 => rw [ho] at h; cases h
    | val w σ1 =>
      rw [ho] at h
      obtain ⟨h1, h2⟩ := bcond_and3 h
      cases AV.beq_eq _ _ h1
      cases k with
      | zero => exact ⟨σ, σ1, rfl, ho⟩
      | succ k =>
        obtain ⟨σ2, σ3, h3, h4⟩ := recheck_ok h2 k (by omega)
        exact ⟨σ2, σ3, by simpa using h3, h4⟩

/-! ## the canonical run -/
def DRes (cf : Cf) (o : DOp) (t t' : DT) (v : AV) : Prop :=
  t'.e = putD t.e o.o.dst v ∧ t'.stage = t.stage + (if chg o.k then 1 else 0) ∧ t'.snaps = (if chg o.k then t.σ :: t.snaps else t.snaps) ∧
  ((wantV o.o.guard t.e = .no ∧ v = .tup [] ∧ t'.σ = t.σ ∧ t'.res = t.res) ∨
   (wantV o.o.guard t.e = .yes ∧
    ((o.k = .eff ∧ opV o.o.op cf t.e t.σ = .val v t'.σ ∧ t'.res = t.res) ∨
     (o.k = .read ∧ (∃ σ', opV o.o.op cf t.e t.σ = .val v σ') ∧ recheck cf o.o.op t.e v (t.stage - o.lo) t.snaps = true ∧ t'.σ = t.σ ∧ t'.res = t.res) ∨
     (o.k = .pure ∧ (∃ σ', opV o.o.op cf t.e t.σ = .val v σ') ∧ t'.σ = t.σ ∧ t'.res = t.res) ∨
     (o.k = .alloc ∧ (∃ σ', opV o.o.op cf t.e ⟨t.σ.heap, t.res⟩ = .val v σ' ∧ t'.σ = ⟨σ'.heap, t.σ.next⟩) ∧ t'.res = t.res.succ))))

theorem dstep_inv {cf : Cf} {o : DOp} {t t' : DT} (h : dstep cf o t = some t') : ∃ v, DRes cf o t t' v := by
  unfold dstep at h
  cases hw : wantV o.o.guard t.e with
  | bad => rw [hw] at h; cases h
  | no =>
    rw [hw] at h
    cases h
    refine ⟨.tup [], rfl, ?_, ?_, .inl ⟨hw, rfl, rfl, rfl⟩⟩
    · cases o.k <;> rfl
    · cases o.k <;> rfl
  | yes =>
    rw [hw] at h
    simp only at h
    cases hk : o.k with
    | eff =>
      rw [hk] at h
      simp only at h
      cases ho : opV o.o.op cf t.e t.σ with
      | val v σ =>
        rw [ho] at h; cases h
        exact ⟨v, rfl, by rw [hk]; rfl, by rw [hk]; rfl, .inr ⟨hw, .inl ⟨hk, ho, rfl⟩⟩⟩
      | bad => rw [ho] at h; cases h
      | dfr f a σ => rw [ho] at h; cases h
      | pan v σ => rw [ho] at h; cases h
    | read =>
      rw [hk] at h
      simp only at h
      cases ho : opV o.o.op cf t.e t.σ with
      | val v σ =>
        rw [ho] at h
        simp only at h
        obtain ⟨hr, h⟩ := bcond_none h
        cases h
        exact ⟨v, rfl, by rw [hk]; rfl, by rw [hk]; rfl, .inr ⟨hw, .inr (.inl ⟨hk, ⟨σ, ho⟩, hr, rfl, rfl⟩)⟩⟩
      | bad => rw [ho] at h; cases h
      | dfr f a σ => rw [ho] at h; cases h
      | pan v σ => rw [ho] at h; cases h
    | pure =>
      rw [hk] at h
      simp only at h
      cases ho : opV o.o.op cf t.e t.σ with
      | val v σ =>
        rw [ho] at h; cases h
        exact ⟨v, rfl, by rw [hk]; rfl, by rw [hk]; rfl, .inr ⟨hw, .inr (.inr (.inl ⟨hk, ⟨σ, ho⟩, rfl, rfl⟩))⟩⟩
      | bad => rw [ho] at h; cases h
      | dfr f a σ => rw [ho] at h; cases h
      | pan v σ => rw [ho] at h; cases h
    | alloc =>
      rw [hk] at h
      simp only at h
      cases ho : opV o.o.op cf t.e ⟨t.σ.heap, t.res⟩ with
      | val v σ =>
        rw [ho] at h; cases h
        exact ⟨v, rfl, by rw [hk]; rfl, by rw [hk]; rfl, .inr ⟨hw, .inr (.inr (.inr ⟨hk, ⟨σ, ho, rfl⟩, rfl⟩))⟩⟩
      | bad => rw [ho] at h; cases h
      | dfr f a σ => rw [ho] at h; cases h
      | pan v σ => rw [ho] at h; cases h

theorem evD_inv {cf : Cf} : ∀ (l : List DOp) (t t' : DT), evD cf l t = some t' → ∃ (T : Nat → DT) (V : Nat → AV), T 0 = t ∧ T l.length = t' ∧ ∀ q o, l[q]? = some o → DRes cf o (T q) (T (q + 1)) (V q)
  | [], t, t', h => by
    cases h
    exact ⟨fun _ => t, fun _ => .top, rfl, rfl, fun q o h => by simp at h⟩
  | o :: l, t, t', h => by
    have h : obind (dstep cf o t) (evD cf l) = some t' := h
    obtain ⟨t1, h1, h2⟩ := obind_some h
    obtain ⟨v, hv⟩ := dstep_inv h1
    obtain ⟨T, V, e0, en, hs⟩ := evD_inv l t1 t' h2
    refine ⟨fun q => match q with | 0 => t | q + 1 => T q, fun q => match q with | 0 => v | q + 1 => V q, rfl, en, ?_⟩
    intro q o' hq
    cases q with
    | zero =>
      simp at hq; subst hq
      show DRes cf o t (T 0) v
      rw [e0]; exact hv
    | succ q => exact hs q o' (by simpa using hq)

def EnvAt (L : List DOp) (T : Nat → DT) (V : Nat → AV) (q : Nat) (k : Key) (x : AV) : Prop :=
  (∃ p o, p < q ∧ L[p]? = some o ∧ o.o.dst = some k ∧ x = V p ∧ ∀ p' o', p < p' → p' < q → L[p']? = some o' → o'.o.dst ≠ some k) ∨ ((∀ p o, p < q → L[p]? = some o → o.o.dst ≠ some k) ∧ (T 0).e.get k = some x)
section
variable {cf : Cf} {L : List DOp} {T : Nat → DT} {V : Nat → AV} (hs : ∀ q o, L[q]? = some o → DRes cf o (T q) (T (q + 1)) (V q))
/-- how many turners stand before q -/
def stL (L : List DOp) (q : Nat) : Nat := ((L.take q).filter fun o => chg o.k).length
theorem stL_succ {q : Nat} {o : DOp} (h : L[q]? = some o) : stL L (q + 1) = stL L q + (if chg o.k then 1 else 0) := by
  unfold stL
  rw [List.take_add_one, h]
  simp only [Option.toList_some, List.filter_append, List.length_append]
  congr 1
  cases hc : chg o.k <;> simp [hc]
theorem stL_mono {p q : Nat} (h : p ≤ q) : stL L p ≤ stL L q := by
  unfold stL
  exact ((List.take_sublist_take_left h).filter _).length_le
include hs
theorem stage_eq (h0 : (T 0).stage = 0) : ∀ q, q ≤ L.length → (T q).stage = stL L q
  | 0, _ => by rw [h0]; simp [stL]
  | q + 1, hq => by
    have hlt : q < L.length := by omega
    have hq' : L[q]? = some L[q] := List.getElem?_eq_getElem hlt
    rw [(hs q _ hq').2.1, stage_eq h0 q (by omega), stL_succ hq']
theorem step_keep {q : Nat} {o : DOp} (h : L[q]? = some o) (hk : chg o.k = false) : (T (q + 1)).σ = (T q).σ := by
  obtain ⟨_, _, _, h⟩ := hs q o h
  rcases h with ⟨_, _, h, _⟩ | ⟨_, ⟨hk', _⟩ | ⟨_, _, _, h, _⟩ | ⟨_, _, h, _⟩ | ⟨hk', _⟩⟩
  · exact h
  · rw [hk'] at hk; cases hk
  · exact h
  · exact h
  · rw [hk'] at hk; cases hk
theorem snaps_ok (h0 : (T 0).snaps = []) : ∀ q, q ≤ L.length → ∀ p, p ≤ q → (stL L p < stL L q → (T q).snaps[stL L q - 1 - stL L p]? = some (T p).σ) ∧ (stL L p = stL L q → (T p).σ = (T q).σ)
  | 0, _, p, hp => by
    have : p = 0 := by omega
    subst this
    exact ⟨fun h => by omega, fun _ => rfl⟩
  | q + 1, hq, p, hp => by
    have hlt : q < L.length := by omega
    have hq' : L[q]? = some L[q] := List.getElem?_eq_getElem hlt
    have ih := snaps_ok h0 q (by omega)
    have hst := stL_succ hq'
    have hsn := (hs q _ hq').2.2.1
    rcases Nat.lt_or_ge p (q + 1) with hlt' | hge
    · have ihp := ih p (by omega)
      have hm := stL_mono (L := L) (p := p) (q := q) (by omega)
      cases hc : chg L[q].k with
      | false =>
        rw [hc] at hst hsn
        simp only [Bool.false_eq_true, if_false, Nat.add_zero] at hst hsn
        rw [hst, hsn, step_keep hs hq' hc]
        exact ihp
      | true =>
        rw [hc] at hst hsn
        simp only [if_true] at hst hsn
        rw [hst, hsn]
        refine ⟨fun _ => ?_, fun h => by omega⟩
        rcases Nat.lt_or_eq_of_le hm with h1 | h1
        · have : stL L q + 1 - 1 - stL L p = (stL L q - 1 - stL L p) + 1 := by omega
          rw [this, List.getElem?_cons_succ]
          exact ihp.1 h1
        · have : stL L q + 1 - 1 - stL L p = 0 := by omega
          rw [this, List.getElem?_cons_zero, ihp.2 h1]
    · have : p = q + 1 := by omega
      subst this
      exact ⟨fun h => by omega, fun _ => rfl⟩
/-- what only reads gives the same at every heap from its earliest on -/
theorem read_at (h0 : (T 0).snaps = []) (h1 : (T 0).stage = 0) {q : Nat} {o : DOp} (hq : L[q]? = some o) (hk : o.k = dkOf o.o.op) (hr : o.k = .read ∨ o.k = .pure) (hw : wantV o.o.guard (T q).e = .yes) {p : Nat} (hp : p ≤ q) (hlo : o.lo ≤ stL L p) :
    opV o.o.op cf (T q).e (T p).σ = .val (V q) (T p).σ := by
  have hlt : q < L.length := (List.getElem?_eq_some_iff.1 hq).1
  obtain ⟨_, _, _, h⟩ := hs q o hq
  have hst := stage_eq hs h1 q (by omega)
  obtain ⟨sn1, sn2⟩ := snaps_ok hs h0 q (by omega) p hp
  rcases h with ⟨hw', _⟩ | ⟨_, ⟨hk', _⟩ | ⟨hk', ⟨σ', ho⟩, hre, _⟩ | ⟨hk', ⟨σ', ho⟩, _⟩ | ⟨hk', _⟩⟩
  · rw [hw] at hw'; cases hw'
  · rw [hk'] at hr; rcases hr with h | h <;> cases h
  · have hkk : dkOf o.o.op = .read ∨ dkOf o.o.op = .pure := by rw [← hk]; exact hr
    rcases Nat.lt_or_eq_of_le (stL_mono (L := L) hp) with h | h
    · have hkq : stL L q - 1 - stL L p < (T q).stage - o.lo := by rw [hst]; omega
      obtain ⟨σ1, σ2, g1, g2⟩ := recheck_ok hre _ hkq
      rw [sn1 h] at g1
      cases g1
      rw [ro_st hkk g2] at g2
      exact g2
    · rw [sn2 h]
      rw [ro_st hkk ho] at ho
      exact ho
  · exact pure_at (by rw [← hk]; exact hk') ho _
  · rw [hk'] at hr; rcases hr with h | h <;> cases h
/-- the environment at q: what the last writer before q gave, or what was there -/
theorem env_at : ∀ q, q ≤ L.length → ∀ k x, (T q).e.get k = some x → EnvAt L T V q k x
  | 0, _, k, x, h => .inr ⟨fun p o hp => by omega, h⟩
  | q + 1, hq, k, x, h => by
    have hlt : q < L.length := by omega
    have hq' : L[q]? = some L[q] := List.getElem?_eq_getElem hlt
    rw [(hs q _ hq').1] at h
    have other : L[q].o.dst ≠ some k → (T q).e.get k = some x → EnvAt L T V (q + 1) k x := fun hne hx => by
      rcases env_at q (by omega) k x hx with ⟨p, o, h1, h2, h3, h4, h5⟩ | ⟨h1, h2⟩
      · exact Or.inl ⟨p, o, Nat.lt_succ_of_lt h1, h2, h3, h4, fun p' o' a b c => by
          rcases Nat.lt_or_eq_of_le (Nat.le_of_lt_succ b) with b | rfl
          · exact h5 p' o' a b c
          · rw [hq'] at c; cases c; exact hne⟩
      · exact Or.inr ⟨fun p o hp ho => by
          rcases Nat.lt_or_eq_of_le (Nat.le_of_lt_succ hp) with b | rfl
          · exact h1 p o b ho
          · rw [hq'] at ho; cases ho; exact hne, h2⟩
    cases hd : L[q].o.dst with
    | none =>
      rw [hd] at h
      exact other (by rw [hd]; simp) h
    | some d =>
      rw [hd] at h
      have h2 : ((T q).e.set (some (V q)) d).get k = some x := h
      rw [Tr.get_set] at h2
      by_cases e : d = k
      · rw [if_pos e] at h2
        injection h2 with h2
        exact .inl ⟨q, _, Nat.lt_succ_self q, hq', by rw [hd, e], h2.symm, fun p' o' a b => by omega⟩
      · rw [if_neg e] at h2
        exact other (by rw [hd]; simpa using e) h2
end
end Go.Ev
namespace Go.Ev
open Go

structure OrdOk (ops : Array Oper) (Lo : Nat → OpI) (bs : Array Nat) (ord : List Nat) : Prop where
  nodup : ord.Nodup
  cover : ∀ i : Nat, i < ops.size → i ∈ ord
  lt : ∀ i ∈ ord, i < ops.size
  edge : ∀ j : Nat, j < ops.size → ∀ e ∈ (ops.getD j default).after, Region.binds .any e = true → e.on < j
  bits : ∀ j : Nat, j < ops.size → ∀ i : Nat, i < ops.size → (bs.getD j 0).testBit i = true → ∃ e ∈ (ops.getD j default).after, Region.binds .any e = true ∧ (e.on = i ∨ (bs.getD e.on 0).testBit i = true)
  eff : ∀ (q i : Nat), ord[q]? = some i → dkOf (Lo i).op = .eff → ∀ (p i' : Nat), p < q → ord[p]? = some i' → (bs.getD i 0).testBit i' = true
  pre : ∀ (q i : Nat), ord[q]? = some i → ∀ e ∈ (ops.getD i default).after, Region.binds .any e = true → ∃ p : Nat, p < q ∧ ord[p]? = some e.on
  names : ∀ (i : Nat) (t : Key), i < ops.size → (Lo i).dst = some t → ∀ j : Nat, j < ops.size → i ≠ j → t ∈ dNames (Lo j) → (bs.getD j 0).testBit i = true ∨ (bs.getD i 0).testBit j = true

theorem nodupB_ok : ∀ {l : List Nat}, nodupB l = true → l.Nodup
  | [], _ => List.nodup_nil
  | a :: l, h => by
    simp only [nodupB, Bool.and_eq_true] at h
    rw [List.nodup_cons]
    exact ⟨by simpa using h.1, nodupB_ok h.2⟩
theorem dPre_ok {kind : Nat → DK} {ops : Array Oper} {bs : Array Nat} : ∀ {l pre : List Nat}, dPre kind ops bs pre l = true → ∀ (q i : Nat), l[q]? = some i →
    (kind i = .eff → ∀ i', i' ∈ pre ∨ (∃ p : Nat, p < q ∧ l[p]? = some i') → (bs.getD i 0).testBit i' = true) ∧ ∀ e ∈ (ops.getD i default).after, Region.binds .any e = true → e.on ∈ pre ∨ ∃ p : Nat, p < q ∧ l[p]? = some e.on
  | [], _, _, q, i, h => by simp at h
  | a :: l, pre, h, q, i, hq => by
    simp only [dPre, Bool.and_eq_true] at h
    obtain ⟨⟨h1, h2⟩, h3⟩ := h
    cases q with
    | zero =>
      simp at hq; subst hq
      refine ⟨fun hk i' hi => ?_, fun e he hb => ?_⟩
      · rw [hk] at h1
        rcases hi with hi | ⟨p, hp, _⟩
        · exact List.all_eq_true.1 h1 i' hi
        · omega
      · have := List.all_eq_true.1 h2 e (by simpa using he)
        rw [hb] at this
        exact .inl (by simpa using this)
    | succ q =>
      obtain ⟨g1, g2⟩ := dPre_ok h3 q i (by simpa using hq)
      refine ⟨fun hk i' hi => g1 hk i' ?_, fun e he hb => ?_⟩
      · rcases hi with hi | ⟨p, hp, hi⟩
        · exact .inl (by simp [hi])
        · cases p with
          | zero => simp at hi; exact .inl (by simp [hi])
          | succ p => exact .inr ⟨p, by omega, by simpa using hi⟩
      · rcases g2 e he hb with hi | ⟨p, hp, hi⟩
        · rcases List.mem_cons.1 hi with hi | hi
          · exact .inr ⟨0, by omega, by simp [hi]⟩
          · exact .inl hi
        · exact .inr ⟨p + 1, by omega, by simpa using hi⟩
theorem dOk_ok {P : Program} {nt : Nat} {ops : Array Oper} {bs : Array Nat} {ord : List Nat} (h : dOk P nt ops bs ord = true) : OrdOk ops (fun i => lOper P nt ops (ops.getD i default)) bs ord := by
  unfold dOk at h
  simp only [Bool.and_eq_true] at h
  obtain ⟨⟨⟨⟨⟨h1, h2⟩, h3⟩, h4⟩, h5⟩, h6⟩ := h
  have h4' : ∀ j, j < ops.size → _ := fun j hj => List.all_eq_true.1 h4 j (List.mem_range.2 hj)
  constructor
  · exact nodupB_ok h1
  · intro i hi
    simpa using List.all_eq_true.1 h2 i (List.mem_range.2 hi)
  · intro i hi
    simpa using List.all_eq_true.1 h3 i hi
  · intro j hj e he hb
    have := h4' j hj
    simp only [Bool.and_eq_true] at this
    have := List.all_eq_true.1 this.1 e (by simpa using he)
    rw [hb] at this
    simpa using this
  · intro j hj i hi hb
    have := h4' j hj
    simp only [Bool.and_eq_true] at this
    have := List.all_eq_true.1 this.2 i (List.mem_range.2 hi)
    rw [hb] at this
    simp only [Bool.not_true, Bool.false_or, List.any_eq_true] at this
    obtain ⟨e, he, hx⟩ := this
    simp only [Bool.and_eq_true, Bool.or_eq_true, beq_iff_eq] at hx
    exact ⟨e, by simpa using he, hx.1, hx.2⟩
  · intro q i hq hk p i' hp hi'
    exact (dPre_ok h5 q i hq).1 hk i' (.inr ⟨p, hp, hi'⟩)
  · intro q i hq e he hb
    rcases (dPre_ok h5 q i hq).2 e he hb with h | h
    · cases h
    · exact h
  · intro i t hi hd j hj hne hn
    have := List.all_eq_true.1 h6 i (List.mem_range.2 hi)
    rw [hd] at this
    have := List.all_eq_true.1 this j (List.mem_range.2 hj)
    simp only [Bool.or_eq_true, Bool.not_eq_true', beq_iff_eq] at this
    rcases this with ((h | h) | h) | h
    · exact absurd h hne
    · rw [List.any_eq_false] at h
      exact absurd (Key.eqb_refl t) (h t hn)
    · exact .inl h
    · exact .inr h

section
variable {ops : Array Oper} {Lo : Nat → OpI} {bs : Array Nat} {ord : List Nat} (hO : OrdOk ops Lo bs ord)
include hO
theorem OrdOk.pos {i : Nat} (hi : i < ops.size) : ∃ q : Nat, ord[q]? = some i := List.mem_iff_getElem?.1 (hO.cover i hi)
theorem OrdOk.inj {p q i : Nat} (hp : ord[p]? = some i) (hq : ord[q]? = some i) : p = q := by
  obtain ⟨h1, h2⟩ := List.getElem?_eq_some_iff.1 hp
  obtain ⟨h3, h4⟩ := List.getElem?_eq_some_iff.1 hq
  have := hO.nodup
  rw [List.nodup_iff_pairwise_ne] at this
  rcases Nat.lt_trichotomy p q with h | h | h
  · exact absurd (h2.trans h4.symm) (List.pairwise_iff_getElem.1 this p q h1 h3 h)
  · exact h
  · exact absurd (h4.trans h2.symm) (List.pairwise_iff_getElem.1 this q p h3 h1 h)
/-- what stands before j in the order is in every closed set in which all that j waits for is -/
theorem OrdOk.before {D : Nat → Prop} (hD : ∀ i, i < ops.size → D i → ∀ e ∈ (ops.getD i default).after, Region.binds .any e = true → D e.on) :
    ∀ j, j < ops.size → (∀ e ∈ (ops.getD j default).after, Region.binds .any e = true → D e.on) → ∀ i, i < ops.size → (bs.getD j 0).testBit i = true → D i := by
  intro j
  induction j using Nat.strongRecOn with
  | _ j ih =>
    intro hj hr i hi hb
    obtain ⟨e, he, hbd, h⟩ := hO.bits j hj i hi hb
    rcases h with rfl | h
    · exact hr e he hbd
    · have hlt := hO.edge j hj e he hbd
      exact ih e.on hlt (by omega) (fun e' he' hb' => hD e.on (by omega) (hr e he hbd) e' he' hb') i hi h
/-- what is before in the order stands before in the list -/
theorem OrdOk.before_pos {q j : Nat} (hq : ord[q]? = some j) {i : Nat} (hi : i < ops.size) (hb : (bs.getD j 0).testBit i = true) : ∃ p : Nat, p < q ∧ ord[p]? = some i := by
  refine hO.before (D := fun i => ∃ p : Nat, p < q ∧ ord[p]? = some i) ?_ j (hO.lt j (List.mem_of_getElem? hq)) ?_ i hi hb
  · rintro i' hi' ⟨p, hp, hpi⟩ e he hbd
    obtain ⟨p', h1, h2⟩ := hO.pre p i' hpi e he hbd
    exact ⟨p', by omega, h2⟩
  · intro e he hbd
    exact hO.pre q j hq e he hbd
end

/-- the longest prefix of the order within a set, and the turners in it -/
theorem dLo_ok (kind : Nat → DK) (s : Nat) : ∀ ord : List Nat, ∃ p, p ≤ ord.length ∧ (∀ p' i : Nat, p' < p → ord[p']? = some i → s.testBit i = true) ∧ dLo kind s ord = ((ord.take p).filter fun i => chg (kind i)).length
  | [] => ⟨0, by simp, fun p' i h => by omega, rfl⟩
  | a :: l => by
    cases hb : s.testBit a with
    | false => exact ⟨0, by simp, fun p' i h => by omega, by simp [dLo, hb]⟩
    | true =>
      obtain ⟨p, h1, h2, h3⟩ := dLo_ok kind s l
      refine ⟨p + 1, by simp; omega, ?_, ?_⟩
      · intro p' i hp hi
        cases p' with
        | zero => simp at hi; subst hi; exact hb
        | succ p' => exact h2 p' i (by omega) (by simpa using hi)
      · simp only [dLo, hb, if_true, List.take_succ_cons, List.filter_cons, h3]
        cases chg (kind a) <;> simp [Nat.add_comm]
end Go.Ev
namespace Go.Ev
open Go

section
variable {P : Program} {ρ : Nat → Value} {w0 ws w : World} {φ0 φ : Key → Option Pl} {σ0 σ : St}
theorem InR.lt' (h : WR P ρ w0 φ σ w) {c : Nat} (hc : InR φ σ c) : c < w.heap.size := by
  obtain ⟨k, b, pl, hk, hp, rfl⟩ := hc
  obtain ⟨pl', o', h1, h2, _⟩ := h.live k b hk
  rw [hp] at h1; cases h1
  exact (Array.getElem?_eq_some_iff.1 h2).1
/-- a block that lies outside is taken in -/
theorem Go1.adopt (h : Go1 P ρ w0 φ0 σ0 ws φ σ w) {k : Key} {b : Blk} {pl : Pl} {ob : Obj} (hp : φ k = some pl) (hc : w.heap[pl.blk]? = some ob) (hb : BR P ρ φ b pl ob) (hs : ws.heap.size ≤ pl.blk) (hn : ¬ InR φ σ pl.blk) (hT : w0.heap.size ≤ ws.heap.size) :
    Go1 P ρ w0 φ0 σ0 ws φ ⟨σ.heap.set (some b) k, σ.next⟩ w where
  ext := h.ext
  rel := {
    live := by
      intro j x hj
      simp only [Tr.get_set] at hj
      split at hj
      · rename_i e; subst e; cases hj; exact ⟨pl, ob, hp, hc, hb⟩
      · exact h.rel.live j x hj
    inj := by
      intro i j b1 b2 p1 p2 hi hj hp1 hp2 he
      simp only [Tr.get_set] at hi hj
      split at hi <;> split at hj
      · rename_i e1 e2; rw [← e1, ← e2]
      · rename_i e1 e2
        subst e1
        rw [hp] at hp1; cases hp1
        exact absurd ⟨j, b2, p2, hj, hp2, he.symm⟩ hn
      · rename_i e1 e2
        subst e2
        rw [hp] at hp2; cases hp2
        exact absurd ⟨i, b1, p1, hi, hp1, he⟩ hn
      · exact h.rel.inj i j b1 b2 p1 p2 hi hj hp1 hp2 he
    fresh := h.rel.fresh
    base := h.rel.base
    low := by
      intro j x p hj hpj
      simp only [Tr.get_set] at hj
      split at hj
      · rename_i e; subst e; rw [hp] at hpj; cases hpj; omega
      · exact h.rel.low j x p hj hpj
    top := h.rel.top }
  os := h.os
  tape := h.tape
  output := h.output
  size := h.size
  keep := h.keep
  rng := by
    rintro c ⟨j, x, p, hj, hpj, rfl⟩
    simp only [Tr.get_set] at hj
    split at hj
    · rename_i e; subst e; rw [hp] at hpj; cases hpj; exact .inl hs
    · exact h.rng _ ⟨j, x, p, hj, hpj, rfl⟩
  nxt := h.nxt
  nwk := h.nwk
/-- a block is laid outside, under a key that was set aside -/
theorem Go1.early (h : Go1 P ρ w0 φ0 σ0 ws φ σ w) {k : Key} (hk : φ k = none) (hlt : k.num < σ.next.num) (h0 : σ0.next.num ≤ k.num) (pl : Pl) (o : Obj) :
    Go1 P ρ w0 φ0 σ0 ws (padd φ k pl) σ { w with heap := w.heap.push o } := by
  have hx : PExt φ (padd φ k pl) := by
    intro j p hj
    unfold padd
    split
    · rename_i e; subst e; rw [hk] at hj; cases hj
    · exact hj
  have hne : ∀ j b, σ.heap.get j = some b → j ≠ k := by
    rintro j b hj rfl
    obtain ⟨p, _, h1, _⟩ := h.rel.live _ _ hj
    rw [hk] at h1; cases h1
  have hold : ∀ j b p, σ.heap.get j = some b → padd φ k pl j = some p → φ j = some p := by
    intro j b p hj hp
    simpa [padd, hne j b hj] using hp
  have hsz := h.size
  refine ⟨h.ext.trans hx, ⟨?_, ?_, ?_, ?_, ?_, ?_⟩, h.os, h.tape, h.output, by simp; omega, ?_, ?_, h.nxt, ?_⟩
  · intro j b hj
    obtain ⟨p, ob, h1, h2, h3⟩ := h.rel.live j b hj
    refine ⟨p, ob, hx _ _ h1, ?_, h3.mono hx⟩
    have := (Array.getElem?_eq_some_iff.1 h2).1
    show (w.heap.push o)[p.blk]? = _
    rw [Array.getElem?_push, if_neg (by omega)]; exact h2
  · intro i j b1 b2 p1 p2 hi hj hp1 hp2 he
    exact h.rel.inj i j b1 b2 p1 p2 hi hj (hold _ _ _ hi hp1) (hold _ _ _ hj hp2) he
  · intro j p hj
    unfold padd at hj
    split at hj
    · rename_i e; subst e; exact hlt
    · exact h.rel.fresh j p hj
  · intro c hc
    have := h.rel.top
    show (w.heap.push o)[c]? = _
    rw [Array.getElem?_push, if_neg (by omega)]; exact h.rel.base c hc
  · intro j b p hj hp
    exact h.rel.low j b p hj (hold _ _ _ hj hp)
  · have := h.rel.top
    show _ ≤ (w.heap.push o).size
    simp; omega
  · intro c hc hn
    show (w.heap.push o)[c]? = _
    rw [Array.getElem?_push, if_neg (by omega)]; exact h.keep c hc hn
  · rintro c ⟨j, b, p, hj, hp, rfl⟩
    exact h.rng _ ⟨j, b, p, hj, hold _ _ _ hj hp, rfl⟩
  · intro j p hj
    unfold padd at hj
    split at hj
    · rename_i e; subst e; exact .inr h0
    · exact h.nwk j p hj
/-- keys are set aside -/
theorem Go1.aside (h : WR P ρ w0 φ σ w) {k : Key} (hk : σ.next.num ≤ k.num) : Go1 P ρ w0 φ σ w φ ⟨σ.heap, k⟩ w :=
  ⟨PExt.refl _, ⟨h.live, h.inj, fun j p hj => Nat.lt_of_lt_of_le (h.fresh j p hj) hk, h.base, h.low, h.top⟩, rfl, rfl, rfl, Nat.le_refl _, fun _ _ _ => rfl, fun _ h => .inr h, hk, fun _ _ h => .inl h⟩
end

/-! the environment that an operation sees -/
noncomputable def restr (ks : List Key) (e : Env) : Env := ks.foldr (fun k acc => acc.set (e.get k) k) .lf
theorem restr_get (e : Env) (k : Key) : ∀ ks : List Key, (restr ks e).get k = if k ∈ ks then e.get k else none
  | [] => by simp [restr, Tr.get_lf]
  | j :: ks => by
    show ((restr ks e).set (e.get j) j).get k = _
    rw [Tr.get_set, restr_get e k ks]
    by_cases h : j = k
    · subst h; simp
    · have : ¬ k = j := fun e => h e.symm
      simp [h, this]
theorem ev_restr {ks : List Key} {e : Env} {x : Opd} (h : ∀ k, x = .t k → k ∈ ks) : x.ev (restr ks e) = x.ev e := by
  cases x with
  | c v => rfl
  | t k =>
    show (Option.rec AV.top (fun v => v) ((restr ks e).get k) : AV) = Option.rec AV.top (fun v => v) (e.get k)
    rw [restr_get, if_pos (h k rfl)]
theorem want_restr {ks : List Key} {e : Env} {g : Option (Key × Bool)} (h : ∀ p, g = some p → p.1 ∈ ks) : wantV g (restr ks e) = wantV g e := by
  cases g with
  | none => rfl
  | some p =>
    show (Option.rec Want.bad _ ((restr ks e).get p.1) : Want) = Option.rec Want.bad _ (e.get p.1)
    rw [restr_get, if_pos (h p rfl)]
theorem names_opds {o : OpI} {x : Opd} (hx : x ∈ o.op.opds) {k : Key} (hk : x = .t k) : k ∈ dNames o := by
  subst hk
  unfold dNames keysO
  refine List.mem_append_left _ (List.mem_append_right _ ?_)
  exact List.mem_filterMap.2 ⟨_, hx, rfl⟩
theorem names_guard {o : OpI} {p : Key × Bool} (h : o.guard = some p) : p.1 ∈ dNames o := by
  unfold dNames
  rw [h]
  simp
theorem names_dst {o : OpI} {k : Key} (h : o.dst = some k) : k ∈ dNames o := by
  unfold dNames
  rw [h]
  simp
end Go.Ev
namespace Go.Ev
open Go

section
variable (P : Program) (ρ : Nat → Value) (w0 ws : World) (φ0 : Key → Option Pl) (σs : St) (nt : Nat) (ops : Array Oper) (ord : List Nat) (T : Nat → DT) (V : Nat → AV) (N : Nat) (e0 : Env) (ds0 : List Deferred)
abbrev Lo (i : Nat) : OpI := lOper P nt ops (ops.getD i default)
def AL (q : Nat) : Prop := ∃ i, ord[q]? = some i ∧ dkOf (Lo P nt ops i).op = .alloc ∧ wantV (Lo P nt ops i).guard (T q).e = .yes
abbrev dn (listed : Array Bool) (i : Nat) : Prop := listed.getD i false = true

structure InvS (listed : Array Bool) (p : Nat) : Prop where
  size : listed.size = ops.size
  ple : p ≤ ord.length
  pre : ∀ (q i : Nat), q < p → ord[q]? = some i → dn listed i
  noeff : ∀ (q i : Nat), p ≤ q → ord[q]? = some i → dn listed i → dkOf (Lo P nt ops i).op ≠ .eff
  closed : ∀ i, i < ops.size → dn listed i → ∀ e ∈ (ops.getD i default).after, Region.binds .any e = true → dn listed e.on
structure InvW (listed : Array Bool) (p : Nat) (φ : Key → Option Pl) (w : World) : Prop where
  go : Go1 P ρ w0 φ0 σs ws φ (T p).σ w
  early : ∀ (q i : Nat), p ≤ q → ord[q]? = some i → dn listed i → AL P nt ops ord T q → ∃ b c sz ob, (T (q + 1)).σ = ⟨(T q).σ.heap.set (some b) (T q).res, (T q).σ.next⟩ ∧ φ (T q).res = some ⟨c, 0, sz⟩ ∧ w.heap[c]? = some ob ∧ BR P ρ φ b ⟨c, 0, sz⟩ ob ∧ ws.heap.size ≤ c ∧ ¬ InR φ (T p).σ c
  dist : ∀ (q q' i i' : Nat) (pl pl' : Pl), p ≤ q → p ≤ q' → ord[q]? = some i → ord[q']? = some i' → dn listed i → dn listed i' → AL P nt ops ord T q → AL P nt ops ord T q' → φ (T q).res = some pl → φ (T q').res = some pl' → pl.blk = pl'.blk → q = q'
  undone : ∀ (q i : Nat), ord[q]? = some i → ¬ dn listed i → AL P nt ops ord T q → φ (T q).res = none
  next : N ≤ (T p).σ.next.num
structure InvT (listed : Array Bool) (φ : Key → Option Pl) (a : Act) : Prop where
  tsz : nt ≤ a.tmps.size
  tw : ∀ (q i d : Nat), ord[q]? = some i → dn listed i → (Lo P nt ops i).dst = some (Key.ofNat d) → (∀ q' i' : Nat, q < q' → ord[q']? = some i' → dn listed i' → (Lo P nt ops i').dst ≠ some (Key.ofNat d)) → ∃ v, a.tmps[d]? = some v ∧ VR ρ φ (V q) v
  t0 : ∀ (d : Nat) (x : AV), (∀ q i : Nat, ord[q]? = some i → dn listed i → (Lo P nt ops i).dst ≠ some (Key.ofNat d)) → e0.get (Key.ofNat d) = some x → ∃ v, a.tmps[d]? = some v ∧ VR ρ φ x v
  dfr : a.defers = ds0
end

section
variable {P : Program} {ρ : Nat → Value} {w0 ws : World} {φ0 : Key → Option Pl} {σs : St} {nt : Nat} {ops : Array Oper} {ord : List Nat} {T : Nat → DT} {V : Nat → AV} {N : Nat} {e0 : Env} {ds0 : List Deferred}
variable {listed : Array Bool} {p : Nat} {φ : Key → Option Pl} {w : World} {a : Act}

theorem InvT.mono {φ' : Key → Option Pl} (hx : PExt φ φ') (h : InvT P ρ nt ops ord V e0 ds0 listed φ a) : InvT P ρ nt ops ord V e0 ds0 listed φ' a where
  tsz := h.tsz
  tw := fun q i d h1 h2 h3 h4 => let ⟨v, x, y⟩ := h.tw q i d h1 h2 h3 h4; ⟨v, x, y.mono hx⟩
  t0 := fun d x h1 h2 => let ⟨v, y, z⟩ := h.t0 d x h1 h2; ⟨v, y, z.mono hx⟩
  dfr := h.dfr

/-- the heap goes on from p to p' -/
theorem InvW.goOn (hR : ∀ q, AL P nt ops ord T q → (T q).res.num < N) (h : InvW P ρ w0 ws φ0 σs nt ops ord T N listed p φ w) {p' : Nat} {φ1 : Key → Option Pl} {w1 : World} (hp : p ≤ p') (hg : Go1 P ρ w0 φ (T p).σ w φ1 (T p').σ w1) :
    InvW P ρ w0 ws φ0 σs nt ops ord T N listed p' φ1 w1 where
  go := h.go.trans hg
  early := by
    intro q i hq hi hd ha
    obtain ⟨b, c, sz, ob, h1, h2, h3, h4, h5, h6⟩ := h.early q i (Nat.le_trans hp hq) hi hd ha
    have hlt : c < w.heap.size := (Array.getElem?_eq_some_iff.1 h3).1
    refine ⟨b, c, sz, ob, h1, hg.ext _ _ h2, ?_, h4.mono hg.ext, h5, ?_⟩
    · rw [hg.keep c hlt h6]; exact h3
    · intro hi
      rcases hg.rng c hi with h | h
      · omega
      · exact h6 h
  dist := by
    intro q q' i i' pl pl' hq hq' hi hi' hd hd' ha ha' hpl hpl' he
    obtain ⟨b, c, sz, ob, h1, h2, _⟩ := h.early q i (Nat.le_trans hp hq) hi hd ha
    obtain ⟨b', c', sz', ob', h1', h2', _⟩ := h.early q' i' (Nat.le_trans hp hq') hi' hd' ha'
    have e1 := hg.ext _ _ h2
    have e2 := hg.ext _ _ h2'
    rw [hpl] at e1; rw [hpl'] at e2
    cases e1; cases e2
    exact h.dist q q' i i' _ _ (Nat.le_trans hp hq) (Nat.le_trans hp hq') hi hi' hd hd' ha ha' h2 h2' he
  undone := by
    intro q i hi hd ha
    have h1 := h.undone q i hi hd ha
    cases hc : φ1 (T q).res with
    | none => rfl
    | some pl =>
      exfalso
      rcases hg.nwk _ _ hc with h2 | h2
      · rw [h1] at h2; cases h2
      · have := hR q ha
        have := h.next
        omega
  next := Nat.le_trans h.next hg.nxt

variable {cf : Cf} {bs : Array Nat} {L : List DOp}
variable (hO : OrdOk ops (Lo P nt ops) bs ord) (hL : ∀ q i : Nat, ord[q]? = some i → L[q]? = some (mkD P nt ops bs ord i)) (hs : ∀ q o, L[q]? = some o → DRes cf o (T q) (T (q + 1)) (V q))
variable (hR : ∀ q, AL P nt ops ord T q → (T q).res.num < N) (hT : w0.heap.size ≤ ws.heap.size)
include hO hL hs hR hT

/-- over one that is done already -/
theorem adv1 (hS : InvS P nt ops ord listed p) (hW : InvW P ρ w0 ws φ0 σs nt ops ord T N listed p φ w) {i : Nat} (hi : ord[p]? = some i) (hd : dn listed i) :
    InvS P nt ops ord listed (p + 1) ∧ InvW P ρ w0 ws φ0 σs nt ops ord T N listed (p + 1) φ w := by
  have _ := hO
  have hlt : p < ord.length := (List.getElem?_eq_some_iff.1 hi).1
  have hne := hS.noeff p i (Nat.le_refl _) hi hd
  refine ⟨⟨hS.size, hlt, ?_, fun q j hq => hS.noeff q j (by omega), hS.closed⟩, ?_⟩
  · intro q j hq hj
    rcases Nat.lt_or_eq_of_le (Nat.le_of_lt_succ hq) with h | rfl
    · exact hS.pre q j h hj
    · rw [hi] at hj; cases hj; exact hd
  · obtain ⟨_, _, _, hr⟩ := hs p _ (hL p i hi)
    have same : (T (p + 1)).σ = (T p).σ → InvW P ρ w0 ws φ0 σs nt ops ord T N listed (p + 1) φ w := fun he =>
      hW.goOn hR (Nat.le_succ p) (by rw [he]; exact Go1.refl hW.go.rel)
    rcases hr with ⟨_, _, h, _⟩ | ⟨hw, ⟨hk, _⟩ | ⟨_, _, _, h, _⟩ | ⟨_, _, h, _⟩ | ⟨hk, _⟩⟩
    · exact same h
    · exact absurd hk hne
    · exact same h
    · exact same h
    · have ha : AL P nt ops ord T p := ⟨i, hi, hk, hw⟩
      obtain ⟨b, c, sz, ob, h1, h2, h3, h4, h5, h6⟩ := hW.early p i (Nat.le_refl _) hi hd ha
      have hg := hW.go.adopt h2 h3 h4 h5 h6 hT
      rw [← h1] at hg
      refine ⟨hg, ?_, fun q q' i i' pl pl' hq hq' => hW.dist q q' i i' pl pl' (by omega) (by omega), hW.undone, ?_⟩
      · intro q j hq hj hdj haj
        obtain ⟨b', c', sz', ob', g1, g2, g3, g4, g5, g6⟩ := hW.early q j (by omega) hj hdj haj
        refine ⟨b', c', sz', ob', g1, g2, g3, g4, g5, ?_⟩
        rintro ⟨k, x, pl, hk1, hk2, hk3⟩
        rw [h1] at hk1
        simp only [Tr.get_set] at hk1
        split at hk1
        · rename_i e
          subst e
          rw [h2] at hk2; cases hk2
          have := hW.dist p q i j _ _ (Nat.le_refl _) (by omega) hi hj hd hdj ha haj h2 g2 hk3
          omega
        · exact g6 ⟨k, x, pl, hk1, hk2, hk3⟩
      · rw [h1]; exact hW.next
theorem adv : ∀ (n p : Nat), InvS P nt ops ord listed p → InvW P ρ w0 ws φ0 σs nt ops ord T N listed p φ w → p + n ≤ ord.length → (∀ q i : Nat, q < p + n → ord[q]? = some i → dn listed i) →
    InvS P nt ops ord listed (p + n) ∧ InvW P ρ w0 ws φ0 σs nt ops ord T N listed (p + n) φ w
  | 0, p, hS, hW, _, _ => ⟨hS, hW⟩
  | n + 1, p, hS, hW, hle, hd => by
    have hlt : p < ord.length := by omega
    have hi : ord[p]? = some ord[p] := List.getElem?_eq_getElem hlt
    obtain ⟨h1, h2⟩ := adv1 hO hL hs hR hT hS hW hi (hd p _ (by omega) hi)
    have := adv n (p + 1) h1 h2 (by omega) (fun q i hq => hd q i (by omega))
    rwa [Nat.add_right_comm] at this
theorem advTo {q : Nat} (hS : InvS P nt ops ord listed p) (hW : InvW P ρ w0 ws φ0 σs nt ops ord T N listed p φ w) (hpq : p ≤ q) (hle : q ≤ ord.length) (hd : ∀ q' i : Nat, q' < q → ord[q']? = some i → dn listed i) :
    InvS P nt ops ord listed q ∧ InvW P ρ w0 ws φ0 σs nt ops ord T N listed q φ w := by
  have h := adv hO hL hs hR hT (q - p) p hS hW (by omega) (by rw [Nat.add_sub_cancel' hpq]; exact hd)
  rwa [Nat.add_sub_cancel' hpq] at h
omit hR hT hL hs
/-- of the writers of a temporary that j names, those before j are done, those behind it are not -/
theorem writers {q j : Nat} (hq : ord[q]? = some j) (_hsz : listed.size = ops.size) (hcl : ∀ i, i < ops.size → dn listed i → ∀ e ∈ (ops.getD i default).after, Region.binds .any e = true → dn listed e.on) (hun : ¬ dn listed j)
    (hr : ∀ e ∈ (ops.getD j default).after, Region.binds .any e = true → dn listed e.on) {q' i : Nat} (hi : ord[q']? = some i) {k : Key} (hd : (Lo P nt ops i).dst = some k) (hn : k ∈ dNames (Lo P nt ops j)) (hne : q' ≠ q) : dn listed i ↔ q' < q := by
  have hjn := hO.lt j (List.mem_of_getElem? hq)
  have hin := hO.lt i (List.mem_of_getElem? hi)
  have hij : i ≠ j := by rintro rfl; exact hne (hO.inj hi hq)
  rcases hO.names i k hin hd j hjn hij hn with hb | hb
  · have h1 : dn listed i := hO.before (D := fun i => dn listed i) hcl j hjn hr i hin hb
    obtain ⟨p', h2, h3⟩ := hO.before_pos hq hin hb
    have := hO.inj hi h3
    subst this
    exact ⟨fun _ => h2, fun _ => h1⟩
  · obtain ⟨p', h2, h3⟩ := hO.before_pos hi hjn hb
    have := hO.inj hq h3
    subst this
    constructor
    · intro h1
      exfalso
      exact hun (hO.before (D := fun i => dn listed i) hcl i hin (fun e he hbd => hcl i hin h1 e he hbd) j hjn hb)
    · intro h; omega
end
end Go.Ev
namespace Go.Ev
open Go

section
variable {P : Program} {ρ : Nat → Value} {w0 ws : World} {φ0 : Key → Option Pl} {σs : St} {nt : Nat} {ops : Array Oper} {ord : List Nat} {T : Nat → DT} {V : Nat → AV} {N : Nat} {e0 : Env} {ds0 : List Deferred}
variable {listed : Array Bool} {p : Nat} {φ : Key → Option Pl} {w : World} {a : Act}
variable {cf : Cf} {bs : Array Nat} {L : List DOp}
variable (hO : OrdOk ops (Lo P nt ops) bs ord) (hL : ∀ q i : Nat, ord[q]? = some i → L[q]? = some (mkD P nt ops bs ord i)) (hLn : L.length = ord.length) (hLi : ∀ (q : Nat) (o : DOp), L[q]? = some o → ∃ i, ord[q]? = some i ∧ o = mkD P nt ops bs ord i)
variable (hs : ∀ q o, L[q]? = some o → DRes cf o (T q) (T (q + 1)) (V q)) (h0e : (T 0).e = e0)
include hO hL hLn hLi hs h0e

omit hO hL hLn hLi hs h0e in
theorem dn_set {i j : Nat} (hj : j < listed.size) : dn (listed.setIfInBounds j true) i ↔ i = j ∨ dn listed i := by
  unfold dn
  by_cases h : i = j
  · subst h; simp [Array.getD, hj]
  · have : (listed.setIfInBounds j true).getD i false = listed.getD i false := by
      simp only [Array.getD_eq_getD_getElem?]
      rw [Array.getElem?_setIfInBounds_ne (Ne.symm h)]
    rw [this]
    simp [h]

/-- what j reads is at hand -/
theorem env_of {q j : Nat} (hq : ord[q]? = some j) (hsz : listed.size = ops.size) (hcl : ∀ i, i < ops.size → dn listed i → ∀ e ∈ (ops.getD i default).after, Region.binds .any e = true → dn listed e.on) (hun : ¬ dn listed j)
    (hr : ∀ e ∈ (ops.getD j default).after, Region.binds .any e = true → dn listed e.on) (hTm : InvT P ρ nt ops ord V e0 ds0 listed φ a) : ER ρ φ nt (restr (dNames (Lo P nt ops j)) (T q).e) a.tmps := by
  refine ⟨hTm.tsz, fun t x hx => ?_⟩
  rw [restr_get] at hx
  split at hx
  case isFalse => cases hx
  rename_i hk
  have hlt : q < ord.length := (List.getElem?_eq_some_iff.1 hq).1
  have wr := fun {q' i : Nat} (hi : ord[q']? = some i) (hd : (Lo P nt ops i).dst = some (Key.ofNat t)) (hne : q' ≠ q) => writers hO hq hsz hcl hun hr hi hd hk hne
  rcases env_at hs q (by omega) _ _ hx with ⟨p', o, h1, h2, h3, rfl, h5⟩ | ⟨h1, h2⟩
  · obtain ⟨i, hi, rfl⟩ := hLi p' o h2
    refine hTm.tw p' i t hi ((wr hi h3 (by omega)).2 h1) h3 ?_
    intro q' i' hq' hi' hd' hx'
    have hne : q' ≠ q := by rintro rfl; rw [hq] at hi'; cases hi'; exact hun hd'
    have hlt' := (wr hi' hx' hne).1 hd'
    exact h5 q' _ hq' hlt' (hL q' i' hi') hx'
  · rw [h0e] at h2
    refine hTm.t0 t x ?_ h2
    intro q' i' hi' hd' hx'
    have hne : q' ≠ q := by rintro rfl; rw [hq] at hi'; cases hi'; exact hun hd'
    exact h1 q' _ ((wr hi' hx' hne).1 hd') (hL q' i' hi') hx'
omit hs h0e hL hLn hLi
/-- what j writes is at hand behind it -/
theorem put_of {q j : Nat} (hq : ord[q]? = some j) (hsz : listed.size = ops.size) (hcl : ∀ i, i < ops.size → dn listed i → ∀ e ∈ (ops.getD i default).after, Region.binds .any e = true → dn listed e.on) (hun : ¬ dn listed j)
    (hr : ∀ e ∈ (ops.getD j default).after, Region.binds .any e = true → dn listed e.on) (hTm : InvT P ρ nt ops ord V e0 ds0 listed φ a) {o : Oper} (hd : (Lo P nt ops j).dst = o.dst.map Key.ofNat) (hlt : (match o.dst with | none => true | some d => decide (d < nt)) = true) {v : Value}
    (hv : VR ρ φ (V q) v) : InvT P ρ nt ops ord V e0 ds0 (listed.setIfInBounds j true) φ (a.put o.dst v) := by
  have hjn : j < listed.size := by rw [hsz]; exact hO.lt j (List.mem_of_getElem? hq)
  have hset := fun i => dn_set (listed := listed) (i := i) hjn
  have hsize : (a.put o.dst v).tmps.size = a.tmps.size := by
    cases o.dst <;> simp [Act.put]
  have get : ∀ d, (a.put o.dst v).tmps[d]? = if o.dst = some d then some v else a.tmps[d]? := by
    intro d
    cases ho : o.dst with
    | none => simp [Act.put]
    | some d' =>
      rw [ho] at hlt
      have hlt : d' < nt := by simpa using hlt
      have : d' < a.tmps.size := Nat.lt_of_lt_of_le hlt hTm.tsz
      simp only [Act.put]
      by_cases h : d' = d
      · subst h; simp [this]
      · rw [Array.getElem?_setIfInBounds_ne h]; simp [h]
  have hdd : ∀ d, (Lo P nt ops j).dst = some (Key.ofNat d) → o.dst = some d := by
    intro d h
    rw [hd] at h
    cases ho : o.dst with
    | none => rw [ho] at h; cases h
    | some d' =>
      rw [ho] at h
      simp only [Option.map_some, Option.some.injEq] at h
      rw [Key.ofNat_inj h]
  refine ⟨by rw [hsize]; exact hTm.tsz, ?_, ?_, by rw [put_defers]; exact hTm.dfr⟩
  · intro q' i d hi hdn0 hx hlast
    rcases (hset i).1 hdn0 with rfl | hdn
    · have := hO.inj hi hq
      subst this
      refine ⟨v, ?_, hv⟩
      rw [get, if_pos (hdd d hx)]
    · have hne : i ≠ j := by rintro rfl; exact hun hdn
      by_cases hxj : (Lo P nt ops j).dst = some (Key.ofNat d)
      · exfalso
        have hq' : q' ≠ q := by rintro rfl; rw [hq] at hi; cases hi; exact hne rfl
        have hlt' := (writers hO hq hsz hcl hun hr hi hx (names_dst hxj) hq').1 hdn
        exact hlast q j hlt' hq ((hset j).2 (.inl rfl)) hxj
      · obtain ⟨u, h1, h2⟩ := hTm.tw q' i d hi hdn hx (fun q'' i'' a1 a2 a3 => hlast q'' i'' a1 a2 ((hset i'').2 (.inr a3)))
        refine ⟨u, ?_, h2⟩
        rw [get, if_neg ?_]
        · exact h1
        · intro ho
          apply hxj
          rw [hd, ho]; rfl
  · intro d x hno hx
    obtain ⟨u, h1, h2⟩ := hTm.t0 d x (fun q' i' a1 a2 => hno q' i' a1 ((hset i').2 (.inr a2))) hx
    refine ⟨u, ?_, h2⟩
    rw [get, if_neg ?_]
    · exact h1
    · intro ho
      exact hno q j hq ((hset j).2 (.inl rfl)) (by rw [hd, ho]; rfl)
omit hO
/-- one more is done -/
theorem InvS.mark {j p : Nat} (hS : InvS P nt ops ord listed p) (hjn : j < ops.size) (hr : ∀ e ∈ (ops.getD j default).after, Region.binds .any e = true → dn listed e.on) (hk : dkOf (Lo P nt ops j).op ≠ .eff) :
    InvS P nt ops ord (listed.setIfInBounds j true) p := by
  have hjs : j < listed.size := by rw [hS.size]; exact hjn
  have hset := fun i => dn_set (listed := listed) (i := i) hjs
  refine ⟨by simpa using hS.size, hS.ple, fun q i h1 h2 => (hset i).2 (.inr (hS.pre q i h1 h2)), ?_, ?_⟩
  · intro q i h1 h2 h3
    rcases (hset i).1 h3 with rfl | h3
    · exact hk
    · exact hS.noeff q i h1 h2 h3
  · intro i hi hd e he hb
    rcases (hset i).1 hd with rfl | hd
    · exact (hset _).2 (.inr (hr e he hb))
    · exact (hset _).2 (.inr (hS.closed i hi hd e he hb))
include hO
theorem InvS.markEff {j q : Nat} (hS : InvS P nt ops ord listed q) (hq : ord[q]? = some j) (hr : ∀ e ∈ (ops.getD j default).after, Region.binds .any e = true → dn listed e.on) :
    InvS P nt ops ord (listed.setIfInBounds j true) (q + 1) := by
  have hjn := hO.lt j (List.mem_of_getElem? hq)
  have hjs : j < listed.size := by rw [hS.size]; exact hjn
  have hset := fun i => dn_set (listed := listed) (i := i) hjs
  refine ⟨by simpa using hS.size, (List.getElem?_eq_some_iff.1 hq).1, ?_, ?_, ?_⟩
  · intro q' i h1 h2
    rcases Nat.lt_or_eq_of_le (Nat.le_of_lt_succ h1) with h | rfl
    · exact (hset i).2 (.inr (hS.pre q' i h h2))
    · rw [hq] at h2; cases h2; exact (hset _).2 (.inl rfl)
  · intro q' i h1 h2 h3
    rcases (hset i).1 h3 with rfl | h3
    · have := hO.inj hq h2; omega
    · exact hS.noeff q' i (by omega) h2 h3
  · intro i hi hd e he hb
    rcases (hset i).1 hd with rfl | hd
    · exact (hset _).2 (.inr (hr e he hb))
    · exact (hset _).2 (.inr (hS.closed i hi hd e he hb))
/-- one more is done that lays no block -/
theorem InvW.mark {j q p : Nat} (hq : ord[q]? = some j) (hsz : listed.size = ops.size) (hna : ¬ AL P nt ops ord T q) (h : InvW P ρ w0 ws φ0 σs nt ops ord T N listed p φ w) : InvW P ρ w0 ws φ0 σs nt ops ord T N (listed.setIfInBounds j true) p φ w := by
  have hjs : j < listed.size := by rw [hsz]; exact hO.lt j (List.mem_of_getElem? hq)
  have hset := fun i => dn_set (listed := listed) (i := i) hjs
  have old : ∀ q' i : Nat, ord[q']? = some i → AL P nt ops ord T q' → dn (listed.setIfInBounds j true) i → dn listed i := by
    intro q' i hi ha hd
    rcases (hset i).1 hd with rfl | hd
    · exfalso
      have := hO.inj hi hq
      subst this
      exact hna ha
    · exact hd
  exact ⟨h.go, fun q' i h1 h2 h3 h4 => h.early q' i h1 h2 (old q' i h2 h4 h3) h4, fun q1 q2 i1 i2 pl pl' a1 a2 a3 a4 a5 a6 a7 a8 => h.dist q1 q2 i1 i2 pl pl' a1 a2 a3 a4 (old _ _ a3 a7 a5) (old _ _ a4 a8 a6) a7 a8,
    fun q' i h1 h2 h3 => h.undone q' i h1 (fun hd => h2 ((hset i).2 (.inr hd))) h3, h.next⟩
end
end Go.Ev
namespace Go.Ev
open Go

section
variable {P : Program} {ρ : Nat → Value} {w0 ws : World} {φ0 : Key → Option Pl} {σs : St} {nt : Nat} {ops : Array Oper} {ord : List Nat} {T : Nat → DT} {V : Nat → AV} {N : Nat} {e0 : Env} {ds0 : List Deferred}
variable {listed : Array Bool} {p : Nat} {φ : Key → Option Pl} {w : World} {a : Act}
variable {cf : Cf} {bs : Array Nat} {L : List DOp} {r : Option Nat}
variable (hC : Ctx P ρ w0) (hF : CfOk P ρ w0 cf)
variable (hO : OrdOk ops (Lo P nt ops) bs ord) (hL : ∀ q i : Nat, ord[q]? = some i → L[q]? = some (mkD P nt ops bs ord i)) (hLn : L.length = ord.length) (hLi : ∀ (q : Nat) (o : DOp), L[q]? = some o → ∃ i, ord[q]? = some i ∧ o = mkD P nt ops bs ord i)
variable (hs : ∀ q o, L[q]? = some o → DRes cf o (T q) (T (q + 1)) (V q)) (h0e : (T 0).e = e0) (h0s : (T 0).stage = 0) (h0n : (T 0).snaps = [])
variable (hR : ∀ q, AL P nt ops ord T q → (T q).res.num < N) (hR0 : ∀ q, AL P nt ops ord T q → σs.next.num ≤ (T q).res.num) (hRi : ∀ q q', AL P nt ops ord T q → AL P nt ops ord T q' → (T q).res = (T q').res → q = q') (hT : w0.heap.size ≤ ws.heap.size)
include hC hF hO hL hLn hLi hs h0e h0s h0n hR hR0 hRi hT

theorem stL_ord (q : Nat) : stL L q = ((ord.take q).filter fun i => chg (dkOf (Lo P nt ops i).op)).length := by
  have _ := hC
  have _ := hF
  have _ := hO
  have _ := hLi
  have _ := hs
  have _ := h0e
  have _ := h0s
  have _ := h0n
  have _ := hR
  have _ := hR0
  have _ := hRi
  have _ := hT
  have : L = ord.map (mkD P nt ops bs ord) := by
    apply List.ext_getElem?
    intro q
    rw [List.getElem?_map]
    cases ho : ord[q]? with
    | none =>
      have : ord.length ≤ q := by simpa using ho
      simp; omega
    | some i => rw [hL q i ho]; rfl
  unfold stL
  rw [this, ← List.map_take, List.filter_map, List.length_map]
  rfl

/-- one operation, in whatever order it comes up -/
theorem exec_ok {Q : Exit → Act → World → Prop} {K : Act → World → Prop} {j : Nat} (hS : InvS P nt ops ord listed p) (hW : InvW P ρ w0 ws φ0 σs nt ops ord T N listed p φ w) (hTm : InvT P ρ nt ops ord V e0 ds0 listed φ a) (hjn : j < ops.size) (hun : ¬ dn listed j)
    (hr : ∀ e ∈ (ops.getD j default).after, Region.binds .any e = true → dn listed e.on)
    (hK : ∀ p' φ' a' w', InvS P nt ops ord (listed.setIfInBounds j true) p' → InvW P ρ w0 ws φ0 σs nt ops ord T N (listed.setIfInBounds j true) p' φ' w' → InvT P ρ nt ops ord V e0 ds0 (listed.setIfInBounds j true) φ' a' → K a' w') :
    wpOpIn (FR r) 0 P ops Q j K a w := by
  obtain ⟨q, hq⟩ := hO.pos hjn
  have hql : q < ord.length := (List.getElem?_eq_some_iff.1 hq).1
  have hpq : p ≤ q := by
    rcases Nat.lt_or_ge q p with h | h
    · exact absurd (hS.pre q j h hq) hun
    · exact h
  have hop : ops[j]? = some (ops.getD j default) := by simp [Array.getD, hjn]
  generalize ho : ops.getD j default = o at hop
  have hstep := hs q _ (hL q j hq)
  have hLo : Lo P nt ops j = lOper P nt ops o := by show lOper P nt ops (ops.getD j default) = _; rw [ho]
  have hEr := env_of hO hL hLn hLi hs h0e hq hS.size hS.closed hun hr hTm
  generalize hre : restr (dNames (Lo P nt ops j)) (T q).e = er at hEr
  have hwant : wantV (Lo P nt ops j).guard er = wantV (Lo P nt ops j).guard (T q).e := by
    rw [← hre]; exact want_restr fun p hp => names_guard hp
  have hopv : ∀ σ, opV (Lo P nt ops j).op cf er σ = opV (Lo P nt ops j).op cf (T q).e σ := by
    intro σ
    rw [← hre]
    exact opV_congr fun x hx => ev_restr fun k hk => names_opds hx hk
  unfold wpOpIn
  rw [hop]
  simp only
  obtain ⟨_, _, _, hres⟩ := hstep
  rcases lOper_inv (P := P) (nt := nt) (ops := ops) (o := o) with hbad | ⟨op, g, hl, hg, hd, hoi⟩
  · exfalso
    have hb : Lo P nt ops j = { dst := none, op := .bad, guard := none } := hLo.trans hbad
    have hk : (mkD P nt ops bs ord j).k = .eff := by show dkOf (Lo P nt ops j).op = _; rw [hb]; rfl
    rcases hres with ⟨hw, _⟩ | ⟨_, ⟨_, h, _⟩ | ⟨h, _⟩ | ⟨h, _⟩ | ⟨h, _⟩⟩
    · have : wantV (Lo P nt ops j).guard (T q).e = .no := hw
      rw [hb] at this; cases this
    · have : opV (Lo P nt ops j).op cf (T q).e (T q).σ = .val (V q) (T (q + 1)).σ := h
      rw [hb] at this; cases this
    · rw [hk] at h; cases h
    · rw [hk] at h; cases h
    · rw [hk] at h; cases h
  have hLo2 : Lo P nt ops j = { dst := o.dst.map Key.ofNat, op, guard := g } := hLo.trans hoi
  have hdst : (Lo P nt ops j).dst = o.dst.map Key.ofNat := by rw [hLo2]
  have hop2 : (Lo P nt ops j).op = op := by rw [hLo2]
  have hgd : (Lo P nt ops j).guard = g := by rw [hLo2]
  obtain ⟨w1, w2⟩ := want_ok hEr hg
  have put := fun {φ' : Key → Option Pl} {v : Value} (h : InvT P ρ nt ops ord V e0 ds0 listed φ' a) (hv : VR ρ φ' (V q) v) => put_of hO hq hS.size hS.closed hun hr h (o := o) hdst hd hv
  rw [hop2] at hopv
  rw [hgd] at hwant
  -- what stands before an effect is done
  have heff : dkOf op = .eff → ∀ q' i : Nat, q' < q → ord[q']? = some i → dn listed i := by
    intro hk q' i hq' hi
    have hb := hO.eff q j hq (by rw [hop2]; exact hk) q' i hq' hi
    exact hO.before (D := fun i => dn listed i) hS.closed j hjn hr i (hO.lt i (List.mem_of_getElem? hi)) hb
  rcases hres with ⟨hw, hv, hσ, _⟩ | ⟨hw, hres⟩
  · -- not wanted
    have hw : wantV g (T q).e = .no := by have : wantV (Lo P nt ops j).guard (T q).e = .no := hw; rwa [hgd] at this
    rw [w2 (hwant.trans hw), if_neg (by simp)]
    refine ⟨FR_about o w a.eval, ?_⟩
    have hna : ¬ AL P nt ops ord T q := by
      rintro ⟨i, hi, _, hy⟩
      rw [hq] at hi; cases hi
      rw [hgd, hw] at hy; cases hy
    have hput := put hTm (v := undef) (by rw [hv]; exact undef_VR)
    by_cases hk : dkOf op = .eff
    · obtain ⟨s1, s2⟩ := advTo hO hL hs hR hT hS hW hpq (by omega) (heff hk)
      have s3 : InvW P ρ w0 ws φ0 σs nt ops ord T N listed (q + 1) φ w := s2.goOn hR (Nat.le_succ q) (by rw [hσ]; exact Go1.refl s2.go.rel)
      exact hK (q + 1) φ _ w (s1.markEff hO hq hr) (s3.mark hO hq hS.size hna) hput
    · exact hK p φ _ w (hS.mark hjn hr (by rw [hop2]; exact hk)) (hW.mark hO hq hS.size hna) hput
  · have hw : wantV g (T q).e = .yes := by have : wantV (Lo P nt ops j).guard (T q).e = .yes := hw; rwa [hgd] at this
    rw [w1 (hwant.trans hw), if_pos rfl]
    have hkk : (mkD P nt ops bs ord j).k = dkOf op := by show dkOf (Lo P nt ops j).op = _; rw [hop2]
    have reads : (dkOf op = .read ∨ dkOf op = .pure) → o.wpIn (FR r) 0 P a w K Q := by
      intro hk
      have hna : ¬ AL P nt ops ord T q := by
        rintro ⟨i, hi, hk', _⟩
        rw [hq] at hi; cases hi
        rw [hop2] at hk'
        rcases hk with h | h <;> rw [h] at hk' <;> cases hk'
      obtain ⟨plo, l1, l2, l3⟩ := dLo_ok (fun i => dkOf (Lo P nt ops i).op) (bs.getD j 0) ord
      have hdone : ∀ q' i : Nat, q' < plo → ord[q']? = some i → dn listed i := fun q' i h1 h2 =>
        hO.before (D := fun i => dn listed i) hS.closed j hjn hr i (hO.lt i (List.mem_of_getElem? h2)) (l2 q' i h1 h2)
      have hploq : plo ≤ q := by
        rcases Nat.lt_or_ge q plo with h | h
        · exact absurd (hdone q j h hq) hun
        · exact h
      have hmax : InvS P nt ops ord listed (max p plo) ∧ InvW P ρ w0 ws φ0 σs nt ops ord T N listed (max p plo) φ w := by
        refine advTo hO hL hs hR hT hS hW (Nat.le_max_left _ _) (by omega) ?_
        intro q' i h1 h2
        rcases Nat.lt_or_ge q' p with h | h
        · exact hS.pre q' i h h2
        · exact hdone q' i (by omega) h2
      generalize hp' : max p plo = p' at hmax
      obtain ⟨s1, s2⟩ := hmax
      have hlo : (mkD P nt ops bs ord j).lo ≤ stL L p' := by
        rw [stL_ord hC hF hO hL hLn hLi hs h0e h0s h0n hR hR0 hRi hT p']
        have e1 : (mkD P nt ops bs ord j).lo = dLo (fun i => dkOf (Lo P nt ops i).op) (bs.getD j 0) ord := rfl
        rw [e1, l3]
        exact ((List.take_sublist_take_left (by omega)).filter _).length_le
      have hv := read_at hs h0n h0s (hL q j hq) rfl (by rw [hkk]; exact hk) (by show wantV (Lo P nt ops j).guard _ = _; rw [hgd]; exact hw) (p := p') (by omega) hlo
      have hv : opV op cf (T q).e (T p').σ = .val (V q) (T p').σ := by
        have : opV (Lo P nt ops j).op cf (T q).e (T p').σ = .val (V q) (T p').σ := hv
        rwa [hop2] at this
      rw [← hopv] at hv
      refine op_wp_val hC s2.go.rel hEr hF hl hv ?_
      intro φ1 wa v' hvr hg1
      have s3 := s2.goOn hR (Nat.le_refl p') hg1
      exact hK p' φ1 _ wa (s1.mark hjn hr (by rw [hop2]; intro h; rcases hk with h' | h' <;> rw [h] at h' <;> cases h')) (s3.mark hO hq hS.size hna) (put (hTm.mono hg1.ext) hvr)
    rw [hkk] at hres
    rcases hres with ⟨hk, hv, _⟩ | ⟨hk, _⟩ | ⟨hk, _⟩ | ⟨hk, ⟨σ', hv, hσ⟩, hrr⟩
    · -- an effect
      have hna : ¬ AL P nt ops ord T q := by
        rintro ⟨i, hi, hk', _⟩
        rw [hq] at hi; cases hi
        rw [hop2, hk] at hk'; cases hk'
      obtain ⟨s1, s2⟩ := advTo hO hL hs hR hT hS hW hpq (by omega) (heff hk)
      have hv : opV op cf (T q).e (T q).σ = .val (V q) (T (q + 1)).σ := by
        have : opV (Lo P nt ops j).op cf (T q).e (T q).σ = .val (V q) (T (q + 1)).σ := hv
        rwa [hop2] at this
      rw [← hopv] at hv
      refine op_wp_val hC s2.go.rel hEr hF hl hv ?_
      intro φ1 wa v' hvr hg1
      have s3 := s2.goOn hR (Nat.le_succ q) hg1
      exact hK (q + 1) φ1 _ wa (s1.markEff hO hq hr) (s3.mark hO hq hS.size hna) (put (hTm.mono hg1.ext) hvr)
    · exact reads (.inl hk)
    · exact reads (.inr hk)
    · -- a new block
      have ha : AL P nt ops ord T q := ⟨j, hq, by rw [hop2]; exact hk, by rw [hgd]; exact hw⟩
      have hv : opV op cf (T q).e ⟨(T q).σ.heap, (T q).res⟩ = .val (V q) σ' := by
        have : opV (Lo P nt ops j).op cf (T q).e ⟨(T q).σ.heap, (T q).res⟩ = .val (V q) σ' := hv
        rwa [hop2] at this
      rw [← hopv] at hv
      obtain ⟨b, mk, e1, e2, hnew⟩ := alloc_kind hC hEr hl hk hv
      obtain ⟨v', ob, sz, r1, r2, r3⟩ := hnew w
      have hun' := hW.undone q j hq hun ha
      have hg := hW.go.early hun' (Nat.lt_of_lt_of_le (hR q ha) hW.next) (hR0 q ha) ⟨w.heap.size, 0, sz⟩ ob
      have hx : PExt φ (padd φ (T q).res ⟨w.heap.size, 0, sz⟩) := by
        intro k' p hk'
        unfold padd
        split
        · rename_i e; subst e; rw [hun'] at hk'; cases hk'
        · exact hk'
      have hsame : padd φ (T q).res ⟨w.heap.size, 0, sz⟩ (T q).res = some ⟨w.heap.size, 0, sz⟩ := ext_same _ _ _
      have hvr := r3 _ _ hx hsame
      refine wp_of_run (r := r) (plain_nodefer hl (by cases op <;> first | rfl | cases hk)) r1 (.inl rfl) ?_
      refine hK p _ _ _ (hS.mark hjn hr (by rw [hop2, hk]; simp)) ?_ (put (hTm.mono hx) (by rw [e1]; exact hvr))
      -- the heap's part
      have hjs : j < listed.size := by rw [hS.size]; exact hjn
      have hset := fun i => dn_set (listed := listed) (i := i) hjs
      have hres_ne : ∀ q', AL P nt ops ord T q' → q' ≠ q → (T q').res ≠ (T q).res := fun q' ha' hne h => hne (hRi q' q ha' ha h)
      have hpadd : ∀ q', AL P nt ops ord T q' → q' ≠ q → padd φ (T q).res ⟨w.heap.size, 0, sz⟩ (T q').res = φ (T q').res := by
        intro q' ha' hne
        unfold padd
        rw [if_neg (hres_ne q' ha' hne)]
      have hin : ∀ c, InR (padd φ (T q).res ⟨w.heap.size, 0, sz⟩) (T p).σ c → InR φ (T p).σ c := by
        rintro c ⟨k, b, pl, h1, h2, h3⟩
        refine ⟨k, b, pl, h1, ?_, h3⟩
        unfold padd at h2
        split at h2
        · rename_i e
          subst e
          obtain ⟨pl', _, h4, _⟩ := hW.go.rel.live _ _ h1
          rw [hun'] at h4; cases h4
        · exact h2
      have hlt' : ∀ q' i : Nat, p ≤ q' → ord[q']? = some i → dn listed i → AL P nt ops ord T q' → q' ≠ q := by
        rintro q' i _ hi hd _ rfl
        rw [hq] at hi; cases hi
        exact hun hd
      refine ⟨hg, ?_, ?_, ?_, hW.next⟩
      · intro q' i hp' hi hd' ha'
        rcases (hset i).1 hd' with rfl | hd'
        · have := hO.inj hi hq
          subst this
          refine ⟨b, w.heap.size, sz, ob, ?_, hsame, by simp, r2.mono hx, hW.go.size, fun h => ?_⟩
          · rw [hσ, e2]; rfl
          · exact Nat.lt_irrefl _ (InR.lt' hW.go.rel (hin _ h))
        · have hne := hlt' q' i hp' hi hd' ha'
          obtain ⟨b', c', sz', ob', g1, g2, g3, g4, g5, g6⟩ := hW.early q' i hp' hi hd' ha'
          have hlt : c' < w.heap.size := (Array.getElem?_eq_some_iff.1 g3).1
          refine ⟨b', c', sz', ob', g1, by rw [hpadd q' ha' hne]; exact g2, ?_, g4.mono hx, g5, fun h => g6 (hin _ h)⟩
          show (w.heap.push ob)[c']? = _
          rw [Array.getElem?_push, if_neg (by omega)]; exact g3
      · intro q1 q2 i1 i2 pl pl' p1 p2 hi1 hi2 hda hdb ha1 ha2 hpl1 hpl2 he
        rcases (hset i1).1 hda with rfl | hd1 <;> rcases (hset i2).1 hdb with rfl | hd2
        · exact hO.inj hi1 hi2
        · exfalso
          have := hO.inj hi1 hq
          subst this
          have hne := hlt' q2 i2 p2 hi2 hd2 ha2
          rw [hsame] at hpl1; cases hpl1
          obtain ⟨b', c', sz', ob', g1, g2, g3, _⟩ := hW.early q2 i2 p2 hi2 hd2 ha2
          rw [hpadd q2 ha2 hne, g2] at hpl2; cases hpl2
          have hlt : c' < w.heap.size := (Array.getElem?_eq_some_iff.1 g3).1
          have he : w.heap.size = c' := he
          omega
        · exfalso
          have := hO.inj hi2 hq
          subst this
          have hne := hlt' q1 i1 p1 hi1 hd1 ha1
          rw [hsame] at hpl2; cases hpl2
          obtain ⟨b', c', sz', ob', g1, g2, g3, _⟩ := hW.early q1 i1 p1 hi1 hd1 ha1
          rw [hpadd q1 ha1 hne, g2] at hpl1; cases hpl1
          have hlt : c' < w.heap.size := (Array.getElem?_eq_some_iff.1 g3).1
          have he : c' = w.heap.size := he
          omega
        · have hne1 := hlt' q1 i1 p1 hi1 hd1 ha1
          have hne2 := hlt' q2 i2 p2 hi2 hd2 ha2
          rw [hpadd q1 ha1 hne1] at hpl1
          rw [hpadd q2 ha2 hne2] at hpl2
          exact hW.dist q1 q2 i1 i2 pl pl' p1 p2 hi1 hi2 hd1 hd2 ha1 ha2 hpl1 hpl2 he
      · intro q' i hi hnd ha'
        have hne : q' ≠ q := by
          rintro rfl
          rw [hq] at hi; cases hi
          exact hnd ((hset _).2 (.inl rfl))
        rw [hpadd q' ha' hne]
        exact hW.undone q' i hi (fun h => hnd ((hset i).2 (.inr h))) ha'
end
end Go.Ev
namespace Go.Ev
open Go

section
variable {P : Program} {ρ : Nat → Value} {w0 : World} {r : Option Nat} {nt : Nat}

theorem dreg_ok (hm : P.follows .mixedOrders = true) (hC : Ctx P ρ w0) {cf : Cf} (hF : CfOk P ρ w0 cf) {fuel : Nat} (id : Nat) (ops : Array Oper) : CodeOk P ρ w0 r nt (.region id ops true) (evCode cf fuel (lDreg P nt ops)) := by
  intro e d σ x e' d' σ' h B φ w0' a hB hW0 hE hD0
  unfold lDreg at h
  simp only at h
  split at h
  case isFalse => cases h
  rename_i hok
  generalize hbs : Region.before ops = bs at hok h
  generalize hord : dOrd P nt ops bs = ord at hok h
  have hO : OrdOk ops (Lo P nt ops) bs ord := dOk_ok hok
  generalize hna : (ord.filter fun i => dkOf (lOper P nt ops (ops.getD i default)).op == .alloc).length = na at h
  have h : (Option.rec Res.bad (fun t => Res.mk .norm t.e d t.σ) (evD cf (ord.map (mkD P nt ops bs ord)) ⟨e, ⟨σ.heap, Nat.rec σ.next (fun _ k => k.succ) na⟩, σ.next, 0, []⟩) : Res) = .mk x e' d' σ' := h
  generalize hLL : ord.map (mkD P nt ops bs ord) = L at h
  have hLn : L.length = ord.length := by rw [← hLL]; simp
  have hL : ∀ q i : Nat, ord[q]? = some i → L[q]? = some (mkD P nt ops bs ord i) := by
    intro q i hi; rw [← hLL, List.getElem?_map, hi]; rfl
  have hLi : ∀ (q : Nat) (o : DOp), L[q]? = some o → ∃ i, ord[q]? = some i ∧ o = mkD P nt ops bs ord i := by
    intro q o ho
    rw [← hLL, List.getElem?_map] at ho
    cases hi : ord[q]? with
    | none => rw [hi] at ho; cases ho
    | some i => rw [hi] at ho; cases ho; exact ⟨i, rfl, rfl⟩
  cases hev : evD cf L ⟨e, ⟨σ.heap, Nat.rec σ.next (fun _ k => k.succ) na⟩, σ.next, 0, []⟩ with
  | none => rw [hev] at h; cases h
  | some tf =>
  rw [hev] at h
  cases h
  obtain ⟨T, V, t0, tn, hs⟩ := evD_inv _ _ _ hev
  rw [hLn] at tn
  have h0e : (T 0).e = e := by rw [t0]
  have h0s : (T 0).stage = 0 := by rw [t0]
  have h0n : (T 0).snaps = [] := by rw [t0]
  have h0σ : (T 0).σ.heap = σ.heap := by rw [t0]
  have hKn : ∀ m, (Nat.rec σ.next (fun _ k => k.succ) m : Key).num = σ.next.num + m := by
    intro m
    induction m with
    | zero => rfl
    | succ m ih =>
      show (Key.succ (Nat.rec σ.next (fun _ k => k.succ) m : Key)).num = _
      rw [Key.succ_num, ih]; omega
  have h0k : (T 0).σ.next.num = σ.next.num + na := by rw [t0]; exact hKn na
  -- the keys that are set aside
  have rstep : ∀ q i : Nat, ord[q]? = some i → (dkOf (Lo P nt ops i).op = .alloc ∧ (T (q + 1)).res.num = (T q).res.num + 1) ∨ (¬ (dkOf (Lo P nt ops i).op = .alloc ∧ wantV (Lo P nt ops i).guard (T q).e = .yes) ∧ (T (q + 1)).res.num = (T q).res.num) := by
    intro q i hi
    obtain ⟨_, _, _, hr⟩ := hs q _ (hL q i hi)
    have hkk : (mkD P nt ops bs ord i).k = dkOf (Lo P nt ops i).op := rfl
    have hgg : (mkD P nt ops bs ord i).o.guard = (Lo P nt ops i).guard := rfl
    rw [hkk, hgg] at hr
    rcases hr with ⟨hw, _, _, hr⟩ | ⟨hw, ⟨hk, _, hr⟩ | ⟨hk, _, _, _, hr⟩ | ⟨hk, _, _, hr⟩ | ⟨hk, _, hr⟩⟩
    · exact .inr ⟨fun h => (by rw [hw] at h; cases h.2), by rw [hr]⟩
    · exact .inr ⟨fun h => (by rw [hk] at h; cases h.1), by rw [hr]⟩
    · exact .inr ⟨fun h => (by rw [hk] at h; cases h.1), by rw [hr]⟩
    · exact .inr ⟨fun h => (by rw [hk] at h; cases h.1), by rw [hr]⟩
    · exact .inl ⟨hk, by rw [hr, Key.succ_num]⟩
  have hAL : ∀ q, AL P nt ops ord T q → q < ord.length ∧ (T (q + 1)).res.num = (T q).res.num + 1 := by
    rintro q ⟨i, hi, hk, hw⟩
    refine ⟨(List.getElem?_eq_some_iff.1 hi).1, ?_⟩
    rcases rstep q i hi with h | h
    · exact h.2
    · exact absurd ⟨hk, hw⟩ h.1
  have rmono : ∀ n p, p + n ≤ ord.length → (T p).res.num ≤ (T (p + n)).res.num := by
    intro n
    induction n with
    | zero => intro p _; exact Nat.le_refl _
    | succ n ih =>
      intro p hp
      have h1 := ih p (by omega)
      have hlt : p + n < ord.length := by omega
      have h2 := rstep (p + n) _ (List.getElem?_eq_getElem hlt)
      rw [← Nat.add_assoc]
      omega
  have rup : ∀ q, q ≤ ord.length → (T q).res.num ≤ σ.next.num + ((ord.take q).filter fun i => dkOf (lOper P nt ops (ops.getD i default)).op == .alloc).length := by
    intro q
    induction q with
    | zero => intro _; rw [t0]; simp
    | succ q ih =>
      intro hq
      have hlt : q < ord.length := by omega
      have hi : ord[q]? = some ord[q] := List.getElem?_eq_getElem hlt
      have h1 := rstep q _ hi
      have h2 := ih (by omega)
      rw [List.take_add_one, hi, Option.toList_some, List.filter_append, List.length_append]
      rcases h1 with ⟨hc, h1⟩ | ⟨_, h1⟩ <;> rw [h1]
      · have hb : (dkOf (lOper P nt ops (ops.getD ord[q] default)).op == DK.alloc) = true := beq_iff_eq.2 hc
        simp only [List.filter_cons, hb, if_true, List.length_cons, List.filter_nil, List.length_nil]
        omega
      · omega
  have hR : ∀ q, AL P nt ops ord T q → (T q).res.num < σ.next.num + na := by
    intro q ha
    obtain ⟨h1, h2⟩ := hAL q ha
    have h3 := rup (q + 1) h1
    have h4 : ((ord.take (q + 1)).filter fun i => dkOf (lOper P nt ops (ops.getD i default)).op == .alloc).length ≤ na := by
      rw [← hna]
      exact ((List.take_sublist _ _).filter _).length_le
    omega
  have hR0 : ∀ q, AL P nt ops ord T q → σ.next.num ≤ (T q).res.num := by
    intro q ha
    have h1 := (hAL q ha).1
    have := rmono q 0 (by omega)
    rw [Nat.zero_add, t0] at this
    exact this
  have hRi : ∀ q q', AL P nt ops ord T q → AL P nt ops ord T q' → (T q).res = (T q').res → q = q' := by
    intro q q' ha ha' he
    have key : ∀ q q', AL P nt ops ord T q → AL P nt ops ord T q' → (T q).res = (T q').res → ¬ q < q' := by
      intro q q' ha ha' he hlt
      have h1 := rmono (q' - (q + 1)) (q + 1) (by have := (hAL q' ha').1; omega)
      have h2 := (hAL q ha).2
      rw [show q + 1 + (q' - (q + 1)) = q' by omega, ← he] at h1
      omega
    have h1 := key q q' ha ha' he
    have h2 := key q' q ha' ha he.symm
    omega
  -- the draw
  refine wpIn_region_any hm ?_
  generalize hws : ({ w0' with drawn := w0'.drawn + 1 } : World) = ws
  have hg0 : Go1 P ρ w0 φ σ w0' φ σ ws := by rw [← hws]; exact Go1.drew hW0 _
  have hW := hg0.rel
  have hT0 := hW.top
  have fin : ∀ (listed : Array Bool) (p : Nat) (φ1 : Key → Option Pl) (a1 : Act) (w1 : World), InvS P nt ops ord listed p → InvW P ρ w0 ws φ σ nt ops ord T (σ.next.num + na) listed p φ1 w1 → InvT P ρ nt ops ord V e a.defers listed φ1 a1 → (∀ i, i < ops.size → dn listed i) →
      Post B P ρ w0 φ σ w0' nt .norm tf.e d tf.σ .normal a1 w1 := by
    intro listed p φ1 a1 w1 hS hWv hTm hall
    obtain ⟨s1, s2⟩ := advTo hO hL hs hR hT0 hS hWv hS.ple (Nat.le_refl _) (fun q i _ hi => hall i (hO.lt i (List.mem_of_getElem? hi)))
    have hgo := s2.go
    rw [tn] at hgo
    refine ⟨φ1, trivial, ⟨hTm.tsz, ?_⟩, by rw [hTm.dfr]; exact (hD0.go hg0).go hgo, hg0.trans hgo⟩
    intro t y hy
    rw [← tn] at hy
    rcases env_at hs ord.length (by omega) _ _ hy with ⟨p', o, g1, g2, g3, rfl, g5⟩ | ⟨g1, g2⟩
    · obtain ⟨i, hi, rfl⟩ := hLi p' o g2
      refine hTm.tw p' i t hi (hall i (hO.lt i (List.mem_of_getElem? hi))) g3 ?_
      intro q' i' hq' hi' _ hx
      exact g5 q' _ hq' (List.getElem?_eq_some_iff.1 hi').1 (hL q' i' hi') hx
    · rw [h0e] at g2
      refine hTm.t0 t y ?_ g2
      intro q' i' hi' _ hx
      exact g1 q' _ (List.getElem?_eq_some_iff.1 hi').1 (hL q' i' hi') hx
  have main : ∀ (fuel : Nat) (listed : Array Bool) (p : Nat) (φ1 : Key → Option Pl) (a1 : Act) (w1 : World), InvS P nt ops ord listed p → InvW P ρ w0 ws φ σ nt ops ord T (σ.next.num + na) listed p φ1 w1 → InvT P ρ nt ops ord V e a.defers listed φ1 a1 →
      (List.range ops.size).countP (fun i => !listed.getD i false) ≤ fuel → wpAnyIn (FR r) 0 P .any ops (Post B P ρ w0 φ σ w0' nt .norm tf.e d tf.σ) fuel listed a1 w1 := by
    intro fuel
    induction fuel with
    | zero =>
      intro listed p φ1 a1 w1 hS hWv hTm hc
      have hall : ∀ i, i < ops.size → dn listed i := by
        intro i hi
        have h0 : (List.range ops.size).countP (fun i => !listed.getD i false) = 0 := by omega
        have := List.countP_eq_zero.1 h0 i (List.mem_range.2 hi)
        unfold dn
        cases hb : listed.getD i false with
        | true => rfl
        | false => exact absurd (by rw [hb]; rfl) this
      refine ⟨?_, fin listed p φ1 a1 w1 hS hWv hTm hall⟩
      cases hr : Region.ready .any ops listed with
      | nil => rfl
      | cons i l =>
        exfalso
        have : i ∈ Region.ready .any ops listed := by rw [hr]; simp
        obtain ⟨h1, o, h2, _⟩ := mem_ready.1 this
        have hi : i < ops.size := (Array.getElem?_eq_some_iff.1 h2).1
        have h3 := hall i hi
        unfold dn at h3
        have hsz := hS.size
        simp only [Array.getD_eq_getD_getElem?] at h1 h3
        rw [Array.getElem?_eq_getElem (by omega)] at h1 h3
        simp at h1 h3
        rw [h1] at h3; cases h3
    | succ fuel ih =>
      intro listed p φ1 a1 w1 hS hWv hTm hc
      refine ⟨fun hr => ?_, fun j hj => ?_⟩
      · refine fin listed p φ1 a1 w1 hS hWv hTm ?_
        have all : ∀ q i : Nat, ord[q]? = some i → dn listed i := by
          intro q
          induction q using Nat.strongRecOn with
          | _ q ihq =>
            intro i hi
            refine Classical.byContradiction fun hn => ?_
            have hin := hO.lt i (List.mem_of_getElem? hi)
            have : i ∈ Region.ready .any ops listed := by
              rw [mem_ready]
              refine ⟨?_, ops.getD i default, by simp [Array.getD, hin], ?_⟩
              · unfold dn at hn
                have hsz := hS.size
                simp only [Array.getD_eq_getD_getElem?] at hn ⊢
                rw [Array.getElem?_eq_getElem (by omega)] at hn ⊢
                simpa using hn
              · intro e he hb
                obtain ⟨p', g1, g2⟩ := hO.pre q i hi e he hb
                exact ihq p' g1 e.on g2
            rw [hr] at this; cases this
        intro i hi
        obtain ⟨q, hq⟩ := hO.pos hi
        exact all q i hq
      · obtain ⟨h1, o, h2, h3⟩ := mem_ready.1 hj
        have hjn : j < ops.size := (Array.getElem?_eq_some_iff.1 h2).1
        have hoo : ops.getD j default = o := by simp [Array.getD_eq_getD_getElem?, h2]
        have hun : ¬ dn listed j := by
          unfold dn
          have hsz := hS.size
          simp only [Array.getD_eq_getD_getElem?] at h1 ⊢
          rw [Array.getElem?_eq_getElem (by omega)] at h1 ⊢
          simp at h1 ⊢
          exact h1
        refine exec_ok hC hF hO hL hLn hLi hs h0e h0s h0n hR hR0 hRi hT0 hS hWv hTm hjn hun (by rw [hoo]; exact h3) ?_
        intro p' φ' a' w' s1 s2 s3
        refine ih _ p' φ' a' w' s1 s2 s3 ?_
        have hlt := countP_lt (f := fun i => !(listed.setIfInBounds j true).getD i false) (g := fun i => !listed.getD i false) (l := List.range ops.size) (j := j) ?_ (List.mem_range.2 hjn) ?_ ?_
        · omega
        · intro i hi
          have hjs : j < listed.size := by rw [hS.size]; exact hjn
          have := (dn_set (listed := listed) (i := i) hjs)
          unfold dn at this
          cases hli : listed.getD i false with
          | false => rfl
          | true => rw [this.2 (.inr hli)] at hi; cases hi
        · unfold dn at hun; simpa using hun
        · have hjs : j < listed.size := by rw [hS.size]; exact hjn
          have := (dn_set (listed := listed) (i := j) hjs).2 (.inl rfl)
          unfold dn at this
          rw [this]; rfl
  have hno : ∀ i, ¬ dn (Array.replicate ops.size false) i := by
    intro i
    unfold dn
    simp only [Array.getD_eq_getD_getElem?]
    by_cases hi : i < ops.size
    · rw [Array.getElem?_eq_getElem (by simpa using hi)]; simp
    · rw [Array.getElem?_eq_none (by simpa using hi)]; simp
  refine main ops.size (Array.replicate ops.size false) 0 φ a ws ?_ ?_ ?_ ?_
  · exact ⟨by simp, by omega, fun q i h => by omega, fun q i _ _ hd => absurd hd (hno i), fun i _ hd => absurd hd (hno i)⟩
  · refine ⟨?_, fun q i _ _ hd => absurd hd (hno i), fun q q' i i' _ _ _ _ _ _ hd => absurd hd (hno i), ?_, by omega⟩
    · have := Go1.aside hW (k := (T 0).σ.next) (by omega)
      rw [← h0σ] at this
      exact this
    · intro q i _ _ ha
      cases hc : φ (T q).res with
      | none => rfl
      | some pl =>
        have h1 := hW.fresh _ _ hc
        have h2 := hR0 q ha
        omega
  · exact ⟨hE.1, fun q i d _ hd => absurd hd (hno i), fun d x _ hx => hE.2 d x hx, rfl⟩
  · exact Nat.le_trans (List.countP_le_length) (by simp)
end
end Go.Ev
