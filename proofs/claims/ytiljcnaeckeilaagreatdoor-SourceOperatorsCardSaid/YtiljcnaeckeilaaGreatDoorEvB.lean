/-
Proved here: what an abstract value and heap stand for; the plain operations of the evaluator are sound.
Conditions: none beyond those that the statements name.
-/
import Derived.OrdersIn
import Derived.DefersIn
import Derived.RecoverIn
import Derived.Laws.Sem
import Derived.Laws.Cells
import Derived.Laws.CopyRow
import Derived.Laws.Entries
import Derived.Laws.Strings
import Derived.Test.YtiljcnaeckeilaaGreatDoorEvA
namespace Go.Ev
open Go

structure Pl where
  blk : Nat
  base : Nat
  size : Nat

def StrR (len n : Nat) (s : ByteArray) : Prop := s.data.toList.length = len ∧ strNat s.data.toList 0 = n

section
variable (ρ : Nat → Value) (φ : Key → Option Pl)
mutual
inductive VR : AV → Value → Prop
  | top (v) : VR .top v
  | any (v) (h : v.oneCell' = true) : VR .any v
  | sym (k) : VR (.sym k) (ρ k)
  | ne (s : ByteArray) (h : s.data.toList.length ≠ 0) : VR .ne (.string s)
  | bool (b) : VR (.bool b) (.bool b)
  | int (k n) : VR (.int k n) (.int k n)
  | str (len n s) (h : StrR len n s) : VR (.str len n) (.string s)
  | nilp : VR .nilp (.pointer none)
  | ptr (b off pl) (h : φ b = some pl) : VR (.ptr b off) (.pointer (some ⟨pl.blk, pl.base + off, none⟩))
  | nils : VR .nils (.slice none 0 0)
  | sliE (b off len c pl) (h : φ b = some pl) : VR (.sli b off len (.ex c)) (.slice (some ⟨pl.blk, pl.base + off, none⟩) len c)
  | sliO (b off len z c pl) (h : φ b = some pl) (he : pl.base + off + c * z = pl.size) (hl : len ≤ c) : VR (.sli b off len (.op z)) (.slice (some ⟨pl.blk, pl.base + off, none⟩) len c)
  | esl (a c) : VR .esl (.slice (some a) 0 c)
  | nilm : VR .nilm (.map none)
  | map (b pl) (h : φ b = some pl) : VR (.map b) (.map (some pl.blk))
  | fn (f a b x y) (hx : VRs a x) (hy : VRs b y) : VR (.fn f a b) (.func (.func f) x.toArray y.toArray)
  | yld (l pl) (h : φ l = some pl) : VR (.yld l) (.func (.yield pl.blk) #[] #[])
  | glob (g) : VR (.glob g) (.pointer (some ⟨g, 0, none⟩))
  | nilf : VR .nilf .nilFunc
  | ifc (t v w) (h : VR v w) : VR (.ifc t v) (.iface t w)
  | nili : VR .nili .nilIface
  | agg (l x) (h : VRs l x) (h1 : ∀ v ∈ x, v.oneCell' = true) : VR (.agg l) (.agg x.toArray)
  | tup (l x) (h : VRs l x) : VR (.tup l) (.tuple x.toArray)
inductive VRs : List AV → List Value → Prop
  | nil : VRs [] []
  | cons (a v l x) (h : VR a v) (hs : VRs l x) : VRs (a :: l) (v :: x)
end
end

def PExt (φ φ' : Key → Option Pl) : Prop := ∀ k pl, φ k = some pl → φ' k = some pl
theorem PExt.refl (φ) : PExt φ φ := fun _ _ h => h
theorem PExt.trans {a b c} (h : PExt a b) (h' : PExt b c) : PExt a c := fun k pl e => h' k pl (h k pl e)

theorem VR.mono {ρ φ φ'} (hx : PExt φ φ') {a : AV} {v : Value} (h : VR ρ φ a v) : VR ρ φ' a v := by
  refine VR.rec (motive_1 := fun a v _ => VR ρ φ' a v) (motive_2 := fun a v _ => VRs ρ φ' a v) ?_ ?_ ?_ ?_ ?_ ?_ ?_ ?_ ?_ ?_ ?_ ?_ ?_ ?_ ?_ ?_ ?_ ?_ ?_ ?_ ?_ ?_ ?_ ?_ ?_ h
  all_goals intros
  · exact .top _
  · exact .any _ (by assumption)
  · exact .sym _
  · exact .ne _ (by assumption)
  · exact .bool _
  · exact .int _ _
  · exact .str _ _ _ (by assumption)
  · exact .nilp
  · exact .ptr _ _ _ (hx _ _ (by assumption))
  · exact .nils
  · exact .sliE _ _ _ _ _ (hx _ _ (by assumption))
  · exact .sliO _ _ _ _ _ _ (hx _ _ (by assumption)) (by assumption) (by assumption)
  · exact .esl _ _
  · exact .nilm
  · exact .map _ _ (hx _ _ (by assumption))
  · exact .fn _ _ _ _ _ (by assumption) (by assumption)
  · exact .yld _ _ (hx _ _ (by assumption))
  · exact .glob _
  · exact .nilf
  · exact .ifc _ _ _ (by assumption)
  · exact .nili
  · exact .agg _ _ (by assumption) (by assumption)
  · exact .tup _ _ (by assumption)
  · exact .nil
  · exact .cons _ _ _ _ (by assumption) (by assumption)

theorem VRs.mono {ρ φ φ'} (hx : PExt φ φ') {a : List AV} {v : List Value} (h : VRs ρ φ a v) : VRs ρ φ' a v := by
  induction a generalizing v with
  | nil => cases h; exact .nil
  | cons x l ih => cases h with | cons _ _ _ _ h hs => exact .cons _ _ _ _ (h.mono hx) (ih hs)

theorem VRs.length {ρ φ} {a : List AV} {v : List Value} (h : VRs ρ φ a v) : a.length = v.length := by
  induction a generalizing v with
  | nil => cases h; rfl
  | cons x l ih => cases h with | cons _ _ _ _ h hs => simp [ih hs]
theorem VRs.append {ρ φ} {a b : List AV} {v w : List Value} (h : VRs ρ φ a v) (h' : VRs ρ φ b w) : VRs ρ φ (a ++ b) (v ++ w) := by
  induction a generalizing v with
  | nil => cases h; exact h'
  | cons x l ih => cases h with | cons _ _ _ _ h hs => exact .cons _ _ _ _ h (ih hs)
theorem VRs.get {ρ φ} {a : List AV} {v : List Value} (h : VRs ρ φ a v) {i : Nat} {x : AV} (hi : a[i]? = some x) : ∃ y, v[i]? = some y ∧ VR ρ φ x y := by
  induction a generalizing v i with
  | nil => simp at hi
  | cons z l ih => cases h with
    | cons _ _ _ _ h hs => cases i with
      | zero => simp at hi; subst hi; exact ⟨_, rfl, h⟩
      | succ i => simp at hi; simpa using ih hs hi
theorem VRs.take {ρ φ} {a : List AV} {v : List Value} (h : VRs ρ φ a v) (n : Nat) : VRs ρ φ (a.take n) (v.take n) := by
  induction a generalizing v n with
  | nil => cases h; simp; exact .nil
  | cons z l ih => cases h with
    | cons _ _ _ _ h hs => cases n with
      | zero => simp; exact .nil
      | succ n => simp; exact .cons _ _ _ _ h (ih hs n)
theorem VRs.drop {ρ φ} {a : List AV} {v : List Value} (h : VRs ρ φ a v) (n : Nat) : VRs ρ φ (a.drop n) (v.drop n) := by
  induction a generalizing v n with
  | nil => cases h; simp; exact .nil
  | cons z l ih => cases h with
    | cons _ _ _ _ h hs => cases n with
      | zero => simp; exact .cons _ _ _ _ h hs
      | succ n => simp; exact ih hs n
theorem VRs.of_get {ρ φ} : ∀ {a : List AV} {v : List Value}, a.length = v.length → (∀ (i : Nat) (x : AV), a[i]? = some x → ∃ y, v[i]? = some y ∧ VR ρ φ x y) → VRs ρ φ a v
  | [], [], _, _ => .nil
  | [], _ :: _, h, _ => by simp at h
  | _ :: _, [], h, _ => by simp at h
  | x :: a, y :: v, h, hg => by
    obtain ⟨y', hy, hv⟩ := hg 0 x rfl
    simp at hy; subst hy
    exact .cons _ _ _ _ hv (VRs.of_get (by simpa using h) fun i z hz => by simpa using hg (i + 1) z (by simpa using hz))

theorem VR.one {ρ φ} (hρ : ∀ k, (ρ k).oneCell' = true) {a : AV} {v : Value} (h : VR ρ φ a v) (h1 : a.one = true) : v.oneCell' = true := by
  cases h <;> first | rfl | (simp [AV.one] at h1; done) | assumption | exact hρ _

/-- the cells of a value -/
theorem VR.cells {ρ φ} (hρ : ∀ k, (ρ k).oneCell' = true) {a : AV} {v : Value} {l : List AV} (h : VR ρ φ a v) (hc : a.cells = some l) :
    VRs ρ φ l v.cells.toList ∧ ∀ x ∈ v.cells.toList, x.oneCell' = true := by
  cases h
  case agg l' x h h1 => simp [AV.cells] at hc; subst hc; simp [Value.cells]; exact ⟨h, h1⟩
  case top => simp [AV.cells] at hc
  case tup => simp [AV.cells] at hc
  case any h => 
    simp [AV.cells] at hc; subst hc
    have : v.cells = #[v] := by cases v <;> first | rfl | (simp [Value.oneCell'] at h; done)
    rw [this]; exact ⟨.cons _ _ _ _ (.any _ h) .nil, by simpa using h⟩
  case sym k =>
    simp [AV.cells] at hc; subst hc
    have h := hρ k
    have : (ρ k).cells = #[ρ k] := by revert h; cases ρ k <;> simp [Value.oneCell', Value.cells]
    rw [this]; exact ⟨.cons _ _ _ _ (.sym _) .nil, by simpa using h⟩
  all_goals
    simp [AV.cells] at hc
    subst hc
    refine ⟨.cons _ _ _ _ ?_ .nil, by simp [Value.cells, Value.oneCell']⟩
    constructor <;> assumption

def ER (ρ : Nat → Value) (φ : Key → Option Pl) (nt : Nat) (e : Env) (tmps : Array Value) : Prop :=
  nt ≤ tmps.size ∧ ∀ t a, e.get (Key.ofNat t) = some a → ∃ v, tmps[t]? = some v ∧ VR ρ φ a v

inductive Ents (ρ : Nat → Value) (φ : Key → Option Pl) : List (AV × AV × Nat) → List MapEntry → Prop
  | nil : Ents ρ φ [] []
  | cons (k v b l e es) (hk : VR ρ φ k e.key) (hv : VR ρ φ v e.val) (hb : e.born = b) (h : Ents ρ φ l es) : Ents ρ φ ((k, v, b) :: l) (e :: es)

def LoopSt : Nat → LoopState → Prop
  | 0, .ready => True | 1, .busy => True | 2, .done => True | 3, .exhausted => True | _, _ => False
def PendR : IC → Option Code → Prop
  | .skip, none => True | .ret, some .ret => True | .exit i, some (.exit j) => i = j | _, _ => False

/-- no cell of the row is frozen -/
def FzOk (n : Nat) (fz : Nat × Nat) : Prop := ∀ o, o < n → ¬ (fz.1 ≤ o ∧ o < fz.2)
theorem FzOk.zero (n : Nat) : FzOk n (0, 0) := fun o _ h => by simp at h

def BR (P : Program) (ρ : Nat → Value) (φ : Key → Option Pl) : Blk → Pl → Obj → Prop
  | .cells ty cs, pl, .cells c ty' fz => ty' = ty ∧ (FzOk c.size fz ∧ pl.base % P.cellsOf ty = 0) ∧ c.size = pl.size ∧ pl.base + cs.length ≤ c.size ∧
      ∀ i a, cs[i]? = some a → ∃ v, c[pl.base + i]? = some v ∧ VR ρ φ a v ∧ v.oneCell' = true
  | .map es clock, _, .map ents ck => ck = clock ∧ Ents ρ φ es ents.toList
  | .sIter len n pos, pl, .stringIter s p => pl.base = 0 ∧ StrR len n s ∧ p = pos
  | .mIter m since, pl, .mapIter m' since' seen stepped => pl.base = 0 ∧ since' = since ∧ seen = #[] ∧ stepped = since ∧ (match m with | none => m' = none | some k => ∃ pk, φ k = some pk ∧ m' = some pk.blk)
  | .loop st pend env ps as b, _, .loop L => LoopSt st L.state ∧ PendR pend L.pending ∧ ∃ nt, ER ρ φ nt env L.tmps ∧ ps = L.params.toList.map Key.ofNat ∧ (∀ t ∈ L.params.toList, t < nt) ∧ lCode P nt L.assign = as ∧ lCode P nt L.body = b ∧ ndC L.assign = true ∧ ndC L.body = true
  | _, _, _ => False
end Go.Ev
namespace Go.Ev
open Go

/-! ## keys and trees -/
def Key.num : Key → Nat
  | .xH => 1
  | .xO p => 2 * p.num
  | .xI p => 2 * p.num + 1
theorem Key.num_pos : ∀ k : Key, 0 < k.num
  | .xH => by simp [Key.num]
  | .xO p => by have := p.num_pos; simp [Key.num]; omega
  | .xI p => by simp [Key.num]
theorem Key.num_inj : ∀ a b : Key, a.num = b.num → a = b
  | .xH, .xH, _ => rfl
  | .xH, .xO p, h => by simp [Key.num] at h; omega
  | .xH, .xI p, h => by have := p.num_pos; simp [Key.num] at h; omega
  | .xO p, .xH, h => by simp [Key.num] at h; omega
  | .xO p, .xO q, h => by simp [Key.num] at h; rw [p.num_inj q (by omega)]
  | .xO p, .xI q, h => by simp [Key.num] at h; omega
  | .xI p, .xH, h => by have := p.num_pos; simp [Key.num] at h; omega
  | .xI p, .xO q, h => by simp [Key.num] at h; omega
  | .xI p, .xI q, h => by simp [Key.num] at h; rw [p.num_inj q (by omega)]
theorem Key.succ_xH : Key.succ .xH = .xO .xH := rfl
theorem Key.succ_xO (p : Key) : Key.succ (.xO p) = .xI p := rfl
theorem Key.succ_xI (p : Key) : Key.succ (.xI p) = .xO p.succ := rfl
theorem Key.succ_num : ∀ k : Key, k.succ.num = k.num + 1
  | .xH => rfl
  | .xO p => by rw [Key.succ_xO]; simp [Key.num]
  | .xI p => by rw [Key.succ_xI]; simp [Key.num, p.succ_num]; omega
theorem Key.s_num : ∀ k : Key, k.s.num = k.num + 1
  | .xH => rfl
  | .xO p => by simp [Key.s, Key.num]
  | .xI p => by simp [Key.s, Key.num, p.s_num]; omega
theorem Key.ofNat_num : ∀ n : Nat, (Key.ofNat n).num = n + 1
  | 0 => rfl
  | n + 1 => by rw [Key.ofNat, Key.s_num, Key.ofNat_num n]
theorem Key.ofNat_inj {a b : Nat} (h : Key.ofNat a = Key.ofNat b) : a = b := by
  have := congrArg Key.num h; rw [Key.ofNat_num, Key.ofNat_num] at this; omega
theorem Key.beq_eq : ∀ a b : Key, Key.beq a b = decide (a = b)
  | .xH, .xH => rfl | .xH, .xO _ => rfl | .xH, .xI _ => rfl
  | .xO _, .xH => rfl | .xI _, .xH => rfl | .xO _, .xI _ => rfl | .xI _, .xO _ => rfl
  | .xO a, .xO b => by show Key.beq a b = _; rw [Key.beq_eq a b]; simp
  | .xI a, .xI b => by show Key.beq a b = _; rw [Key.beq_eq a b]; simp

section
variable {α : Type}
theorem Tr.get_lf : ∀ k : Key, Tr.get k (.lf : Tr α) = none
  | .xH => rfl | .xO _ => rfl | .xI _ => rfl
theorem Tr.get_set_same (x : Option α) : ∀ (k : Key) (t : Tr α), (t.set x k).get k = x
  | .xH, .lf => rfl | .xH, .nd _ _ _ => rfl
  | .xO p, .lf => Tr.get_set_same x p .lf
  | .xO p, .nd _ l _ => Tr.get_set_same x p l
  | .xI p, .lf => Tr.get_set_same x p .lf
  | .xI p, .nd _ _ r => Tr.get_set_same x p r
theorem Tr.get_set_ne (x : Option α) : ∀ (k j : Key) (t : Tr α), k ≠ j → (t.set x k).get j = t.get j
  | .xH, .xH, _, h => absurd rfl h
  | .xH, .xO j, .lf, _ => Tr.get_lf j | .xH, .xI j, .lf, _ => Tr.get_lf j
  | .xH, .xO _, .nd _ _ _, _ => rfl | .xH, .xI _, .nd _ _ _, _ => rfl
  | .xO _, .xH, .lf, _ => rfl | .xO _, .xH, .nd _ _ _, _ => rfl
  | .xI _, .xH, .lf, _ => rfl | .xI _, .xH, .nd _ _ _, _ => rfl
  | .xO p, .xO j, .lf, h => (Tr.get_set_ne x p j .lf (fun e => h (e ▸ rfl))).trans (Tr.get_lf j)
  | .xO p, .xO j, .nd _ l _, h => Tr.get_set_ne x p j l (fun e => h (e ▸ rfl))
  | .xI p, .xI j, .lf, h => (Tr.get_set_ne x p j .lf (fun e => h (e ▸ rfl))).trans (Tr.get_lf j)
  | .xI p, .xI j, .nd _ _ r, h => Tr.get_set_ne x p j r (fun e => h (e ▸ rfl))
  | .xO _, .xI j, .lf, _ => Tr.get_lf j | .xO _, .xI _, .nd _ _ _, _ => rfl
  | .xI _, .xO j, .lf, _ => Tr.get_lf j | .xI _, .xO _, .nd _ _ _, _ => rfl
theorem Tr.get_set (x : Option α) (k j : Key) (t : Tr α) : (t.set x k).get j = if k = j then x else t.get j := by
  split
  · rename_i h; subst h; exact Tr.get_set_same x k t
  · rename_i h; exact Tr.get_set_ne x k j t h
end

/-! ## the helpers, in plain words -/
@[simp] theorem bcond_true {α : Type} (x y : α) : bcond true x y = x := rfl
@[simp] theorem bcond_false {α : Type} (x y : α) : bcond false x y = y := rfl
theorem bcond_eq {α : Type} (b : Bool) (x y : α) : bcond b x y = if b = true then x else y := by cases b <;> rfl
@[simp] theorem natK_eq {α : Type} (n : Nat) (f : Nat → α) : natK n f = f n := by cases n <;> rfl
@[simp] theorem intK_eq {α : Type} (n : Int) (f : Int → α) : intK n f = f n := by
  cases n with
  | ofNat m => exact natK_eq m (fun m => f (Int.ofNat m))
  | negSucc m => exact natK_eq m (fun m => f (Int.negSucc m))
theorem obind_eq {α β : Type} (x : Option α) (f : α → Option β) : obind x f = x.bind f := by cases x <;> rfl
theorem obind_some {α β : Type} {x : Option α} {f : α → Option β} {b : β} (h : obind x f = some b) : ∃ a, x = some a ∧ f a = some b := by
  cases x with
  | none => cases h
  | some a => exact ⟨a, rfl, h⟩
theorem bcond_none {α : Type} {b : Bool} {x : Option α} {y : α} (h : bcond b x none = some y) : b = true ∧ x = some y := by
  cases b with
  | false => cases h
  | true => exact ⟨rfl, h⟩
@[simp] theorem appL_eq (a b : List AV) : appL a b = a ++ b := by
  induction a with
  | nil => rfl
  | cons x a ih => exact congrArg (x :: ·) ih
@[simp] theorem dropL_eq : ∀ (l : List AV) (n : Nat), dropL l n = l.drop n
  | [], 0 => rfl | [], _ + 1 => rfl
  | _ :: _, 0 => rfl
  | _ :: l, n + 1 => dropL_eq l n
theorem takeL_some : ∀ {n : Nat} {l r : List AV}, takeL n l = some r → r = l.take n ∧ n ≤ l.length
  | 0, l, r, h => by
    have : some [] = some r := h
    simp at this; subst this; simp
  | n + 1, [], r, h => by cases h
  | n + 1, a :: l, r, h => by
    have h' : obind (takeL n l) (fun r => some (a :: r)) = some r := h
    obtain ⟨r', h1, h2⟩ := obind_some h'
    obtain ⟨h3, h4⟩ := takeL_some h1
    simp at h2; subst h2; subst h3
    exact ⟨by simp, by simp; omega⟩
@[simp] theorem nthL_eq : ∀ (l : List AV) (n : Nat), nthL l n = l[n]?
  | [], _ => by simp [nthL]
  | a :: l, 0 => rfl
  | a :: l, n + 1 => by
    show nthL l n = _
    rw [nthL_eq l n]; simp
@[simp] theorem lenL_eq : ∀ l : List AV, lenL l = l.length
  | [] => rfl
  | a :: l => by show Nat.add (lenL l) 1 = _; rw [lenL_eq l]; rfl
theorem overL_some : ∀ {vs l r : List AV}, overL vs l = some r → r = vs ++ l.drop vs.length ∧ vs.length ≤ l.length
  | [], l, r, h => by have : some l = some r := h; simp at this; subst this; simp
  | v :: vs, [], r, h => by cases h
  | v :: vs, a :: l, r, h => by
    have h' : obind (overL vs l) (fun r => some (v :: r)) = some r := h
    obtain ⟨r', h1, h2⟩ := obind_some h'
    obtain ⟨h3, h4⟩ := overL_some h1
    simp at h2; subst h2; subst h3
    exact ⟨by simp, by simp; omega⟩
theorem setL_some : ∀ {vs l : List AV} {n : Nat} {r : List AV}, setL vs l n = some r → r = l.take n ++ vs ++ l.drop (n + vs.length) ∧ n + vs.length ≤ l.length
  | vs, [], 0, r, h => by
    have h' : overL vs [] = some r := h
    obtain ⟨h3, h4⟩ := overL_some h'
    subst h3; exact ⟨by simp, by simpa using h4⟩
  | vs, [], n + 1, r, h => by cases h
  | vs, a :: l, 0, r, h => by
    have h' : overL vs (a :: l) = some r := h
    obtain ⟨h3, h4⟩ := overL_some h'
    subst h3; exact ⟨by simp, by simpa using h4⟩
  | vs, a :: l, n + 1, r, h => by
    have h' : obind (setL vs l n) (fun r => some (a :: r)) = some r := h
    obtain ⟨r', h1, h2⟩ := obind_some h'
    obtain ⟨h3, h4⟩ := setL_some h1
    simp at h2; subst h2; subst h3
    refine ⟨?_, by simp; omega⟩
    simp [Nat.add_right_comm]

/-! ## worlds -/
def wput (w : World) (r : Nat) (o : Obj) : World := { w with heap := w.heap.setIfInBounds r o }

theorem BR.mono {P : Program} {ρ φ φ'} (hx : PExt φ φ') {b : Blk} {pl : Pl} {o : Obj} (h : BR P ρ φ b pl o) : BR P ρ φ' b pl o := by
  have hEnt : ∀ {l : List (AV × AV × Nat)} {es : List MapEntry}, Ents ρ φ l es → Ents ρ φ' l es := by
    intro l es h
    induction h with
    | nil => exact .nil
    | cons k v b l e es hk hv hb _ ih => exact .cons _ _ _ _ _ _ (hk.mono hx) (hv.mono hx) hb ih
  cases b <;> cases o <;> simp only [BR] at h ⊢ <;> try exact h
  · obtain ⟨h1, h2, h3, h4, h5⟩ := h
    exact ⟨h1, h2, h3, h4, fun i a hi => let ⟨v, a1, a2, a3⟩ := h5 i a hi; ⟨v, a1, a2.mono hx, a3⟩⟩
  · exact ⟨h.1, hEnt h.2⟩
  · rename_i m since m' s' seen st
    obtain ⟨h0, h1, h2, h3, h4⟩ := h
    refine ⟨h0, h1, h2, h3, ?_⟩
    cases m with
    | none => exact h4
    | some k => obtain ⟨pk, e1, e2⟩ := h4; exact ⟨pk, hx _ _ e1, e2⟩
  · obtain ⟨h1, h2, nt, ⟨h3, h3'⟩, h4⟩ := h
    exact ⟨h1, h2, nt, ⟨h3, fun t a ha => let ⟨v, x, y⟩ := h3' t a ha; ⟨v, x, y.mono hx⟩⟩, h4⟩

structure WR (P : Program) (ρ : Nat → Value) (w0 : World) (φ : Key → Option Pl) (σ : St) (w : World) : Prop where
  live : ∀ k b, σ.heap.get k = some b → ∃ pl o, φ k = some pl ∧ w.heap[pl.blk]? = some o ∧ BR P ρ φ b pl o
  inj : ∀ k k' b b' pl pl', σ.heap.get k = some b → σ.heap.get k' = some b' → φ k = some pl → φ k' = some pl' → pl.blk = pl'.blk → k = k'
  fresh : ∀ k pl, φ k = some pl → k.num < σ.next.num
  base : ∀ c, c < w0.heap.size → w.heap[c]? = w0.heap[c]?
  low : ∀ k b pl, σ.heap.get k = some b → φ k = some pl → w0.heap.size ≤ pl.blk
  top : w0.heap.size ≤ w.heap.size

/-- block c is one of those that σ holds -/
def InR (φ : Key → Option Pl) (σ : St) (c : Nat) : Prop := ∃ k b pl, σ.heap.get k = some b ∧ φ k = some pl ∧ pl.blk = c

structure Go1 (P : Program) (ρ : Nat → Value) (w0 : World) (φ : Key → Option Pl) (σ : St) (w : World) (φ' : Key → Option Pl) (σ' : St) (w' : World) : Prop where
  ext : PExt φ φ'
  rel : WR P ρ w0 φ' σ' w'
  os : w'.os = w.os
  tape : w'.tape = w.tape
  output : w'.output = w.output
  size : w.heap.size ≤ w'.heap.size
  keep : ∀ c, c < w.heap.size → ¬ InR φ σ c → w'.heap[c]? = w.heap[c]?
  rng : ∀ c, InR φ' σ' c → w.heap.size ≤ c ∨ InR φ σ c
  nxt : σ.next.num ≤ σ'.next.num
  nwk : ∀ k pl, φ' k = some pl → φ k = some pl ∨ σ.next.num ≤ k.num

section
variable {P : Program} {ρ : Nat → Value} {φ φ' φ'' : Key → Option Pl} {σ σ' σ'' : St} {w0 w w' w'' : World}
theorem Go1.refl (h : WR P ρ w0 φ σ w) : Go1 P ρ w0 φ σ w φ σ w := ⟨PExt.refl _, h, rfl, rfl, rfl, Nat.le_refl _, fun _ _ _ => rfl, fun _ h => .inr h, Nat.le_refl _, fun _ _ h => .inl h⟩
theorem Go1.trans (h : Go1 P ρ w0 φ σ w φ' σ' w') (h' : Go1 P ρ w0 φ' σ' w' φ'' σ'' w'') : Go1 P ρ w0 φ σ w φ'' σ'' w'' where
  ext := h.ext.trans h'.ext
  rel := h'.rel
  os := h'.os.trans h.os
  tape := h'.tape.trans h.tape
  output := h'.output.trans h.output
  size := Nat.le_trans h.size h'.size
  keep := fun c hc hn => by
    rw [h'.keep c (Nat.lt_of_lt_of_le hc h.size) (fun hi => (h.rng c hi).elim (fun h0 => by omega) hn)]
    exact h.keep c hc hn
  rng := fun c hc => (h'.rng c hc).elim (fun h0 => .inl (Nat.le_trans h.size h0)) (h.rng c)
  nxt := Nat.le_trans h.nxt h'.nxt
  nwk := fun k pl hk => (h'.nwk k pl hk).elim (h.nwk k pl) (fun h2 => .inr (Nat.le_trans h.nxt h2))

/-- draws turn nothing that is spoken of -/
theorem WR.drew (h : WR P ρ w0 φ σ w) (n : Nat) : WR P ρ w0 φ σ { w with drawn := n } := ⟨h.live, h.inj, h.fresh, h.base, h.low, h.top⟩
theorem Go1.drew (h : WR P ρ w0 φ σ w) (n : Nat) : Go1 P ρ w0 φ σ w φ σ { w with drawn := n } :=
  ⟨PExt.refl _, h.drew n, rfl, rfl, rfl, Nat.le_refl _, fun _ _ _ => rfl, fun _ h => .inr h, Nat.le_refl _, fun _ _ h => .inl h⟩

def padd (φ : Key → Option Pl) (k : Key) (pl : Pl) : Key → Option Pl := fun j => if j = k then some pl else φ j
theorem ext_PExt (h : WR P ρ w0 φ σ w) (pl : Pl) : PExt φ (padd φ σ.next pl) := by
  intro k p hk
  have := h.fresh k p hk
  unfold padd
  split
  · rename_i e; subst e; omega
  · exact hk
theorem padd_new (φ : Key → Option Pl) (j : Key) (pl : Pl) : ∀ k p, padd φ j pl k = some p → φ k = some p ∨ j.num ≤ k.num := by
  intro k p hk
  unfold padd at hk
  split at hk
  · rename_i e; subst e; exact .inr (Nat.le_refl _)
  · exact .inl hk
theorem ext_same (φ : Key → Option Pl) (k : Key) (pl : Pl) : padd φ k pl k = some pl := by simp [padd]

/-- a new block -/
theorem Go1.new (h : WR P ρ w0 φ σ w) (b : Blk) (o : Obj) (sz : Nat) (hb : BR P ρ (padd φ σ.next ⟨w.heap.size, 0, sz⟩) b ⟨w.heap.size, 0, sz⟩ o) :
    Go1 P ρ w0 φ σ w (padd φ σ.next ⟨w.heap.size, 0, sz⟩) (σ.new b) { w with heap := w.heap.push o } := by
  have hx := ext_PExt h ⟨w.heap.size, 0, sz⟩
  have hlt : ∀ k b pl, σ.heap.get k = some b → φ k = some pl → pl.blk < w.heap.size := by
    intro k b pl hk hp
    obtain ⟨pl', o', h1, h2, _⟩ := h.live k b hk
    rw [hp] at h1; cases h1
    exact (Array.getElem?_eq_some_iff.1 h2).1
  have hne : ∀ k b, σ.heap.get k = some b → k ≠ σ.next := by
    intro k b hk e
    obtain ⟨pl, _, h1, _⟩ := h.live k b hk
    have := h.fresh k pl h1
    subst e; omega
  refine ⟨hx, ⟨?_, ?_, ?_, ?_, ?_, ?_⟩, rfl, rfl, rfl, by simp, ?_, ?_, by simp only [St.new, Key.succ_num]; omega, padd_new φ _ _⟩
  · intro k b' hk
    simp only [St.new, Tr.get_set] at hk
    split at hk
    · rename_i e; subst e; cases hk
      exact ⟨_, o, ext_same _ _ _, by simp, hb⟩
    · obtain ⟨pl, o', h1, h2, h3⟩ := h.live k b' hk
      refine ⟨pl, o', hx _ _ h1, ?_, h3.mono hx⟩
      have := hlt k b' pl hk h1
      rw [Array.getElem?_push, if_neg (by omega)]; exact h2
  · intro k k' b1 b2 pl pl' hk hk' hp hp' he
    simp only [St.new, Tr.get_set] at hk hk'
    split at hk <;> split at hk'
    · rename_i e1 e2; rw [← e1, ← e2]
    · rename_i e1 e2
      exfalso
      subst e1
      rw [ext_same] at hp; cases hp
      have hn := hne k' b2 hk'
      simp only [padd, if_neg hn] at hp'
      have := hlt k' b2 pl' hk' hp'
      simp at he; omega
    · rename_i e1 e2
      exfalso
      subst e2
      rw [ext_same] at hp'; cases hp'
      have hn := hne k b1 hk
      simp only [padd, if_neg hn] at hp
      have := hlt k b1 pl hk hp
      simp at he; omega
    · have hn := hne k b1 hk
      have hn' := hne k' b2 hk'
      simp only [padd, if_neg hn] at hp
      simp only [padd, if_neg hn'] at hp'
      exact h.inj k k' b1 b2 pl pl' hk hk' hp hp' he
  · intro k pl hk
    simp only [St.new, Key.succ_num]
    simp only [padd] at hk
    split at hk
    · rename_i e; subst e; omega
    · have := h.fresh k pl hk; omega
  · intro c hc
    have := h.top
    rw [Array.getElem?_push, if_neg (by omega)]; exact h.base c hc
  · intro k b' pl hk hp
    simp only [St.new, Tr.get_set] at hk
    split at hk
    · rename_i e; subst e; rw [ext_same] at hp; cases hp; exact h.top
    · have hn := hne k b' hk
      simp only [padd, if_neg hn] at hp
      exact h.low k b' pl hk hp
  · have := h.top; simp; omega
  · intro c hc _
    rw [Array.getElem?_push, if_neg (by omega)]
  · rintro c ⟨k, b', pl, hk, hp, rfl⟩
    simp only [St.new, Tr.get_set] at hk
    split at hk
    · rename_i e; subst e; rw [ext_same] at hp; cases hp; exact .inl (Nat.le_refl _)
    · have hn := hne k b' hk
      simp only [padd, if_neg hn] at hp
      exact .inr ⟨k, b', pl, hk, hp, rfl⟩

/-- a block turns -/
theorem Go1.put (h : WR P ρ w0 φ σ w) {k : Key} {b0 b : Blk} {pl : Pl} (hk : σ.heap.get k = some b0) (hp : φ k = some pl) (o : Obj) (hb : BR P ρ φ b pl o) :
    Go1 P ρ w0 φ σ w φ (σ.put k b) (wput w pl.blk o) := by
  obtain ⟨pl', o0, h1, h2, _⟩ := h.live k b0 hk
  rw [hp] at h1; cases h1
  have hlt : pl.blk < w.heap.size := (Array.getElem?_eq_some_iff.1 h2).1
  refine ⟨PExt.refl _, ⟨?_, ?_, ?_, ?_, ?_, ?_⟩, rfl, rfl, rfl, by simp [wput], ?_, ?_, Nat.le_refl _, fun _ _ h => .inl h⟩
  · intro j b' hj
    simp only [St.put, Tr.get_set] at hj
    split at hj
    · rename_i e; subst e; cases hj
      exact ⟨pl, o, hp, by simp [wput, hlt], hb⟩
    · rename_i e
      obtain ⟨pj, oj, e1, e2, e3⟩ := h.live j b' hj
      refine ⟨pj, oj, e1, ?_, e3⟩
      have hne : pl.blk ≠ pj.blk := fun he => e (h.inj k j b0 b' pl pj hk hj hp e1 he)
      simp only [wput]
      rw [Array.getElem?_setIfInBounds_ne hne]; exact e2
  · intro j j' b1 b2 p1 p2 hj hj' hp1 hp2 he
    have g : ∀ i x, (σ.put k b).heap.get i = some x → ∃ y, σ.heap.get i = some y := by
      intro i x hi
      simp only [St.put, Tr.get_set] at hi
      split at hi
      · rename_i e; subst e; exact ⟨_, hk⟩
      · exact ⟨_, hi⟩
    obtain ⟨y, hy⟩ := g j b1 hj
    obtain ⟨y', hy'⟩ := g j' b2 hj'
    exact h.inj j j' y y' p1 p2 hy hy' hp1 hp2 he
  · exact h.fresh
  · intro c hc
    have := h.low k b0 pl hk hp
    simp only [wput]
    rw [Array.getElem?_setIfInBounds_ne (by omega)]; exact h.base c hc
  · intro j b' pj hj hpj
    simp only [St.put, Tr.get_set] at hj
    split at hj
    · rename_i e; subst e; rw [hp] at hpj; cases hpj; exact h.low k b0 pl hk hp
    · exact h.low j b' pj hj hpj
  · simpa [wput] using h.top
  · intro c _ hn
    simp only [wput]
    rw [Array.getElem?_setIfInBounds_ne (fun e => hn ⟨k, b0, pl, hk, hp, e⟩)]
  · rintro c ⟨j, b', pj, hj, hpj, rfl⟩
    refine .inr ?_
    simp only [St.put, Tr.get_set] at hj
    split at hj
    · rename_i e; subst e; rw [hp] at hpj; cases hpj; exact ⟨k, b0, pl, hk, hp, rfl⟩
    · exact ⟨j, b', pj, hj, hpj, rfl⟩

/-- a block is forgotten -/
theorem Go1.kill (h : WR P ρ w0 φ σ w) (k : Key) : Go1 P ρ w0 φ σ w φ (σ.kill k) w := by
  have g : ∀ i x, (σ.kill k).heap.get i = some x → σ.heap.get i = some x := by
    intro i x hi
    simp only [St.kill, Tr.get_set] at hi
    split at hi
    · cases hi
    · exact hi
  exact ⟨PExt.refl _, ⟨fun i b hi => h.live i b (g i b hi), fun i j b b' p p' hi hj => h.inj i j b b' p p' (g _ _ hi) (g _ _ hj), h.fresh, h.base, fun i b p hi => h.low i b p (g _ _ hi), h.top⟩, rfl, rfl, rfl, Nat.le_refl _, fun _ _ _ => rfl,
    fun c ⟨i, b, p, hi, hp, e⟩ => .inr ⟨i, b, p, g i b hi, hp, e⟩, Nat.le_refl _, fun _ _ h => .inl h⟩
/-- a block k turns and goes on under the new key -/
theorem Go1.move (h : WR P ρ w0 φ σ w) {k : Key} {b0 b : Blk} {pl : Pl} (hk : σ.heap.get k = some b0) (hp : φ k = some pl) (o : Obj) (base sz : Nat)
    (hb : BR P ρ (padd φ σ.next ⟨pl.blk, base, sz⟩) b ⟨pl.blk, base, sz⟩ o) :
    Go1 P ρ w0 φ σ w (padd φ σ.next ⟨pl.blk, base, sz⟩) ((σ.kill k).new b) (wput w pl.blk o) := by
  have hx := ext_PExt h ⟨pl.blk, base, sz⟩
  obtain ⟨pl', o0, h1, h2, _⟩ := h.live k b0 hk
  rw [hp] at h1; cases h1
  have hlt : pl.blk < w.heap.size := (Array.getElem?_eq_some_iff.1 h2).1
  have hne : ∀ k b, σ.heap.get k = some b → k ≠ σ.next := by
    intro k b hk e
    obtain ⟨pl, _, h1, _⟩ := h.live k b hk
    have := h.fresh k pl h1
    subst e; omega
  -- what stands in the new heap
  have g : ∀ i x, ((σ.kill k).new b).heap.get i = some x → (i = σ.next ∧ x = b) ∨ (i ≠ σ.next ∧ i ≠ k ∧ σ.heap.get i = some x) := by
    intro i x hi
    simp only [St.new, St.kill, Tr.get_set] at hi
    split at hi
    · rename_i e; cases hi; exact .inl ⟨e.symm, rfl⟩
    · rename_i e
      split at hi
      · cases hi
      · rename_i e'; exact .inr ⟨fun h => e h.symm, fun h => e' h.symm, hi⟩
  refine ⟨hx, ⟨?_, ?_, ?_, ?_, ?_, ?_⟩, rfl, rfl, rfl, by simp [wput], ?_, ?_, by simp only [St.new, St.kill, Key.succ_num]; omega, padd_new φ _ _⟩
  · intro i x hi
    rcases g i x hi with ⟨rfl, rfl⟩ | ⟨hn, hnk, hi'⟩
    · exact ⟨_, o, ext_same _ _ _, by simp [wput, hlt], hb⟩
    · obtain ⟨pj, oj, e1, e2, e3⟩ := h.live i x hi'
      refine ⟨pj, oj, hx _ _ e1, ?_, e3.mono hx⟩
      have hneq : pl.blk ≠ pj.blk := fun he => hnk (h.inj k i b0 x pl pj hk hi' hp e1 he).symm
      simp only [wput]
      rw [Array.getElem?_setIfInBounds_ne hneq]; exact e2
  · intro i j b1 b2 p1 p2 hi hj hp1 hp2 he
    rcases g i b1 hi with ⟨rfl, rfl⟩ | ⟨hn, hnk, hi'⟩ <;> rcases g j b2 hj with ⟨rfl, rfl⟩ | ⟨hn', hnk', hj'⟩
    · rfl
    · exfalso
      rw [ext_same] at hp1; cases hp1
      simp only [padd, if_neg hn'] at hp2
      exact hnk' (h.inj k j b0 b2 pl p2 hk hj' hp hp2 he).symm
    · exfalso
      rw [ext_same] at hp2; cases hp2
      simp only [padd, if_neg hn] at hp1
      exact hnk (h.inj i k b1 b0 p1 pl hi' hk hp1 hp he)
    · simp only [padd, if_neg hn] at hp1
      simp only [padd, if_neg hn'] at hp2
      exact h.inj i j b1 b2 p1 p2 hi' hj' hp1 hp2 he
  · intro i p hi
    simp only [St.new, St.kill, Key.succ_num]
    simp only [padd] at hi
    split at hi
    · rename_i e; subst e; omega
    · have := h.fresh i p hi; omega
  · intro c hc
    have := h.low k b0 pl hk hp
    simp only [wput]
    rw [Array.getElem?_setIfInBounds_ne (by omega)]; exact h.base c hc
  · intro i x p hi hpi
    rcases g i x hi with ⟨rfl, rfl⟩ | ⟨hn, hnk, hi'⟩
    · rw [ext_same] at hpi; cases hpi; exact h.low k b0 pl hk hp
    · simp only [padd, if_neg hn] at hpi; exact h.low i x p hi' hpi
  · simpa [wput] using h.top
  · intro c _ hn
    simp only [wput]
    rw [Array.getElem?_setIfInBounds_ne (fun e => hn ⟨k, b0, pl, hk, hp, e⟩)]
  · rintro c ⟨i, x, p, hi, hpi, rfl⟩
    refine .inr ?_
    rcases g i x hi with ⟨rfl, rfl⟩ | ⟨hn, hnk, hi'⟩
    · rw [ext_same] at hpi; cases hpi; exact ⟨k, b0, pl, hk, hp, rfl⟩
    · simp only [padd, if_neg hn] at hpi; exact ⟨i, x, p, hi', hpi, rfl⟩
end
end Go.Ev
namespace Go.Ev
open Go

section
variable {P : Program} {ρ : Nat → Value} {φ : Key → Option Pl}

theorem optL_VRs {α : Type} {f : α → Option AV} {g : α → Value} (h : ∀ a b, f a = some b → VR ρ φ b (g a)) : ∀ {l : List α} {r : List AV}, optL f l = some r → VRs ρ φ r (l.map g)
  | [], r, e => by simp [optL] at e; subst e; exact .nil
  | a :: l, r, e => by
    simp only [optL] at e
    split at e
    · rename_i b r' h1 h2
      cases e
      exact .cons _ _ _ _ (h a b h1) (optL_VRs h h2)
    · cases e
theorem optL_VRs' {f : Value → Option AV} (h : ∀ a b, f a = some b → VR ρ φ b a) {l : List Value} {r : List AV} (e : optL f l = some r) : VRs ρ φ r l := by
  have := optL_VRs (ρ := ρ) (φ := φ) (g := id) (fun a b => h a b) e
  simpa using this
theorem VRs.mem {a : List AV} {v : List Value} (h : VRs ρ φ a v) : ∀ y ∈ v, ∃ x ∈ a, VR ρ φ x y := by
  induction a generalizing v with
  | nil => cases h; simp
  | cons z l ih => cases h with
    | cons _ y _ vs h hs =>
      intro u hu
      rcases List.mem_cons.1 hu with rfl | hu
      · exact ⟨z, by simp, h⟩
      · obtain ⟨x, hx, hv⟩ := ih hs u hu
        exact ⟨x, by simp [hx], hv⟩
theorem ofValN_VR (hρ : ∀ k, (ρ k).oneCell' = true) : ∀ (n : Nat) (v : Value) (a : AV), ofValN n v = some a → VR ρ φ a v
  | 0, v, a, h => by simp [ofValN] at h
  | n + 1, v, a, h => by
    have ih := ofValN_VR hρ n
    unfold ofValN at h
    split at h
    · cases h; exact .bool _
    · cases h; exact .int _ _
    · cases h; exact .str _ _ _ ⟨rfl, rfl⟩
    · cases h; exact .nilp
    · cases h; exact .nils
    · cases h; exact .nilm
    · cases h; exact .nilf
    · cases h; exact .nili
    · rename_i cs
      split at h
      · rename_i l hl
        split at h
        · rename_i hall
          cases h
          have hs := optL_VRs' ih hl
          have := VR.agg _ _ hs (fun v hv => by
            obtain ⟨x, hx, hv'⟩ := hs.mem v hv
            exact hv'.one hρ (by simpa using List.all_eq_true.1 hall x hx))
          simpa using this
        · cases h
      · cases h
    · rename_i cs
      split at h
      · rename_i l hl
        cases h
        have := VR.tup _ _ (optL_VRs' ih hl)
        simpa using this
      · cases h
    · rename_i f x y
      split at h
      · rename_i l l' h1 h2
        cases h
        have := VR.fn f _ _ _ _ (optL_VRs' ih h1) (optL_VRs' ih h2)
        simpa using this
      · cases h
    · rename_i t w
      split at h
      · rename_i x hx
        cases h
        exact .ifc _ _ _ (ih _ _ hx)
      · cases h
    · cases h
theorem ofVal_VR (hρ : ∀ k, (ρ k).oneCell' = true) {v : Value} {a : AV} (h : ofVal v = some a) : VR ρ φ a v := ofValN_VR hρ 8 v a h

theorem ER.get {nt e tmps} (h : ER ρ φ nt e tmps) {t : Nat} {a : AV} (ha : e.get (Key.ofNat t) = some a) : VR ρ φ a (tmps.getD t undef) := by
  obtain ⟨v, hv, hr⟩ := h.2 t a ha
  simpa [Array.getD_eq_getD_getElem?, hv] using hr
theorem lOpd_VR (hρ : ∀ k, (ρ k).oneCell' = true) {x : Operand} {y : Opd} (h : lOpd P x = some y) {nt} {e : Env} {a : Act} (hE : ER ρ φ nt e a.tmps) : VR ρ φ (y.ev e) (a.eval x) := by
  cases x with
  | tmp t =>
    simp [lOpd] at h; subst h
    show VR ρ φ (Option.rec AV.top (fun v => v) (e.get (Key.ofNat t))) (a.tmps.getD t undef)
    cases hg : e.get (Key.ofNat t) with
    | none => exact .top _
    | some b => exact hE.get hg
  | const v =>
    simp only [lOpd] at h
    split at h
    · rename_i b hb; cases h; exact ofVal_VR hρ hb
    · cases h
  | global g =>
    simp only [lOpd] at h
    split at h
    · cases h; exact .glob g
    · cases h
  | func f => simp [lOpd] at h; subst h; exact .fn f [] [] [] [] .nil .nil
theorem evL_VRs (hρ : ∀ k, (ρ k).oneCell' = true) {nt} {e : Env} {a : Act} (hE : ER ρ φ nt e a.tmps) : ∀ {l : List Operand} {r : List Opd}, optL (lOpd P) l = some r → VRs ρ φ (evL r e) (l.map a.eval)
  | [], r, h => by simp [optL] at h; subst h; exact .nil
  | x :: l, r, h => by
    simp only [optL] at h
    split at h
    · rename_i b r' h1 h2
      cases h
      exact .cons _ _ _ _ (lOpd_VR hρ h1 hE) (evL_VRs hρ hE h2)
    · cases h
theorem ER.mono {φ' nt e tmps} (h : ER ρ φ nt e tmps) (hx : PExt φ φ') : ER ρ φ' nt e tmps :=
  ⟨h.1, fun t a ha => let ⟨v, x, y⟩ := h.2 t a ha; ⟨v, x, y.mono hx⟩⟩
theorem ER.put {nt e} {a : Act} (h : ER ρ φ nt e a.tmps) {d : Nat} (hd : d < nt) {x : AV} {v : Value} (hv : VR ρ φ x v) :
    ER ρ φ nt (e.set (some x) (Key.ofNat d)) (a.put (some d) v).tmps := by
  refine ⟨by simpa [Act.put] using h.1, fun t b hb => ?_⟩
  rw [Tr.get_set] at hb
  split at hb
  · rename_i e'
    cases hb
    have := Key.ofNat_inj e'; subst this
    have hlt : d < a.tmps.size := Nat.lt_of_lt_of_le hd h.1
    exact ⟨v, by simp [Act.put, hlt], hv⟩
  · rename_i hne
    obtain ⟨u, hu, hr⟩ := h.2 t b hb
    refine ⟨u, ?_, hr⟩
    have : d ≠ t := fun e => hne (e ▸ rfl)
    simp only [Act.put]
    rw [Array.getElem?_setIfInBounds_ne this]; exact hu
end

/-! ## plain runs -/
section
variable {P : Program} {w : World}
theorem run_typeInfo' {t : TypeId} {i : TypeInfo} (h : P.info? t = some i) : (typeInfo t).run P w = .ok i w := by simp [typeInfo, h]
theorem sizeT_info {t : TypeId} {n : Nat} (h : sizeT P t = some n) : ∃ i, P.info? t = some i ∧ i.size = n := by
  unfold sizeT at h; split at h
  · rename_i i hi; cases h; exact ⟨i, hi, rfl⟩
  · cases h
theorem bytesT_info {t : TypeId} {n : Nat} (h : bytesT P t = some n) : ∃ i, P.info? t = some i ∧ i.bytes = n := by
  unfold bytesT at h; split at h
  · rename_i i hi; cases h; exact ⟨i, hi, rfl⟩
  · cases h
theorem run_sizeOf' {t : TypeId} {n : Nat} (h : sizeT P t = some n) : (sizeOf t).run P w = .ok n w := by
  obtain ⟨i, hi, rfl⟩ := sizeT_info h
  simp [sizeOf, run_typeInfo' hi]
theorem zeroT_info {t : TypeId} {z : AV} (h : zeroT P t = some z) : ∃ i v, P.info? t = some i ∧ i.zero = some v ∧ ofVal v = some z := by
  unfold zeroT at h
  split at h
  · rename_i i hi
    split at h
    · rename_i v hv; exact ⟨i, v, hi, hv, h⟩
    · cases h
  · cases h
theorem run_zeroValue' {t : TypeId} {z : AV} (h : zeroT P t = some z) : ∃ v, ofVal v = some z ∧ ∀ w, (zeroValue t).run P w = .ok v w := by
  obtain ⟨i, v, hi, hz, hv⟩ := zeroT_info h
  exact ⟨v, hv, fun w => by simp [zeroValue, run_typeInfo' hi, hz]⟩
theorem run_isAgg' (t : TypeId) : ∀ w, (P.underlying t).isSome → (isAgg t).run P w = .ok (isAggT P t) w := by
  intro w hu
  obtain ⟨d, hd⟩ := Option.isSome_iff_exists.1 hu
  unfold isAgg isAggT
  simp only [Sem.run_bind, run_underlying hd, Result.andThen_ok, hd]
  cases d <;> simp
end
end Go.Ev

namespace Go.Ev
open Go
section
variable {P : Program} {ρ : Nat → Value} {w0 : World} {φ : Key → Option Pl} {σ : St} {w : World}
theorem cellsO_some {b : Blk} {p : Nat × List AV} (h : b.cellsO = some p) : b = .cells p.1 p.2 := by
  cases b <;> simp [Blk.cellsO] at h
  subst h; rfl
theorem St.cells_some {b : Key} {p : Nat × List AV} (h : σ.cells b = some p) : σ.heap.get b = some (.cells p.1 p.2) := by
  obtain ⟨x, h1, h2⟩ := obind_some h
  rw [h1, cellsO_some h2]
/-- a block of cells, in the world -/
theorem WR.row (hW : WR P ρ w0 φ σ w) {b : Key} {pl : Pl} {ty : Nat} {cs : List AV} (hp : φ b = some pl) (h : σ.heap.get b = some (.cells ty cs)) :
    ∃ c fz, w.heap[pl.blk]? = some (.cells c ty fz) ∧ (FzOk c.size fz ∧ pl.base % P.cellsOf ty = 0) ∧ c.size = pl.size ∧ pl.base + cs.length ≤ c.size ∧
      ∀ (i : Nat) (a : AV), cs[i]? = some a → ∃ v, c[pl.base + i]? = some v ∧ VR ρ φ a v ∧ v.oneCell' = true := by
  obtain ⟨pl', o, h1, h2, h3⟩ := hW.live b _ h
  rw [hp] at h1; cases h1
  cases o <;> simp only [BR] at h3
  obtain ⟨rfl, h3, h4, h5, h6⟩ := h3
  exact ⟨_, _, h2, h3, h4, h5, h6⟩
theorem cell_of_row {c : Array Value} {g ty : Nat} {fz : Nat × Nat} (h : w.heap[g]? = some (.cells c ty fz)) (o : Nat) : w.cell? ⟨g, o, none⟩ = c[o]? := by
  simp [World.cell?, h]
theorem load_ok (hW : WR P ρ w0 φ σ w) {b : Key} {pl : Pl} (hp : φ b = some pl) {off : Nat} {a : AV} (h : σ.load b off = some a) :
    ∃ v, w.cell? ⟨pl.blk, pl.base + off, none⟩ = some v ∧ VR ρ φ a v ∧ v.oneCell' = true := by
  obtain ⟨p, h1, h2⟩ := obind_some h
  obtain ⟨c, fz, e1, ef, e2, e3, e4⟩ := hW.row hp (St.cells_some h1)
  rw [nthL_eq] at h2
  obtain ⟨v, g1, g2, g3⟩ := e4 off a h2
  exact ⟨v, by rw [cell_of_row e1]; exact g1, g2, g3⟩
theorem loadN_ok (hW : WR P ρ w0 φ σ w) {b : Key} {pl : Pl} (hp : φ b = some pl) {off n : Nat} {l : List AV} (h : σ.loadN b off n = some l) :
    ∃ vs, vs.length = n ∧ (∀ (j : Nat) (v : Value), vs[j]? = some v → w.cell? ⟨pl.blk, pl.base + off + j, none⟩ = some v) ∧ VRs ρ φ l vs ∧ ∀ v ∈ vs, v.oneCell' = true := by
  obtain ⟨p, h1, h2⟩ := obind_some h
  obtain ⟨c, fz, e1, ef, e2, e3, e4⟩ := hW.row hp (St.cells_some h1)
  obtain ⟨rfl, g2⟩ := takeL_some h2
  rw [dropL_eq] at *
  simp at g2
  refine ⟨(c.toList.drop (pl.base + off)).take n, ?_, ?_, ?_, ?_⟩
  · simp; omega
  · intro j v hj
    rw [cell_of_row e1]
    rw [List.getElem?_take] at hj
    split at hj
    · rw [List.getElem?_drop] at hj; simpa using hj
    · cases hj
  · refine VRs.of_get (by simp; omega) ?_
    intro i x hx
    rw [List.getElem?_take] at hx ⊢
    split at hx
    · rename_i hi
      rw [List.getElem?_drop] at hx
      obtain ⟨v, a1, a2, _⟩ := e4 _ _ hx
      refine ⟨v, ?_, a2⟩
      rw [if_pos hi, List.getElem?_drop]
      simpa [Nat.add_assoc] using a1
    · cases hx
  · intro v hv
    obtain ⟨i, hi⟩ := List.getElem?_of_mem hv
    rw [List.getElem?_take] at hi
    split at hi
    · rename_i hin
      rw [List.getElem?_drop] at hi
      have hl : off + i < p.2.length := by omega
      obtain ⟨v', a1, _, a3⟩ := e4 (off + i) _ (List.getElem?_eq_getElem hl)
      have : c.toList[pl.base + off + i]? = some v' := by simpa [Nat.add_assoc] using a1
      rw [this] at hi; cases hi; exact a3
    · cases hi
theorem setRow_wput {c : Array Value} {g ty : Nat} {fz : Nat × Nat} (h : w.heap[g]? = some (.cells c ty fz)) (c' : Array Value) : w.setRow g c' = wput w g (.cells c' ty fz) := by
  unfold World.setRow wput
  congr 1
  apply Array.ext_getElem?
  intro i
  rw [Array.getElem?_modify, Array.getElem?_setIfInBounds]
  split
  · rename_i e; subst e
    obtain ⟨hlt, hv⟩ := Array.getElem?_eq_some_iff.1 h
    simp [hlt, hv]
  · rfl
theorem run_storeCells_fz (g o : Nat) (t : TypeId) (fz : Nat × Nat) : ∀ (vs : List Value) (i : Nat) (cur : Array Value) (w : World), w.heap[g]? = some (.cells cur t fz) → FzOk cur.size fz → o + i + vs.length ≤ cur.size → (∀ v ∈ vs, v.oneCell' = true) →
    (storeCells ⟨g, o, none⟩ vs i).run P w = .ok () (w.setRow g (cur.toList.take (o + i) ++ vs ++ cur.toList.drop (o + i + vs.length)).toArray)
  | [], i, cur, w, hg, _, _, _ => by
    simp only [storeCells, List.append_nil, List.length_nil, Nat.add_zero, List.take_append_drop, Array.toArray_toList]
    rw [setRow_self w g cur t fz hg]
    rfl
  | v :: rest, i, cur, w, hg, hf, hl, h1 => by
    have hi : o + i < cur.size := by simp at hl; omega
    have hadd : (⟨g, o, none⟩ : Addr).add i = ⟨g, o + i, none⟩ := by unfold Addr.add; split <;> simp_all
    have hcell : w.cell? ⟨g, o + i, none⟩ = some cur[o + i] := by simp [World.cell?, hg, hi]
    have hfro : w.frozen? ⟨g, o + i, none⟩ = false := by
      have := hf (o + i) hi
      cases fz
      simp only [World.frozen?, hg]
      simp at this ⊢
      exact this
    have hst : (store ((⟨g, o, none⟩ : Addr).add i) v).run P w = .ok () (w.setRow g (cur.setIfInBounds (o + i) v)) := by
      rw [hadd, run_store P w _ v _ (h1 v (by simp)), hcell]
      simp [hfro, setCell_eq_setRow w g (o + i) cur t fz v hg]
    have ih := run_storeCells_fz g o t fz rest (i + 1) (cur.setIfInBounds (o + i) v) (w.setRow g (cur.setIfInBounds (o + i) v)) (setRow_heap w g cur _ t _ hg) (by simpa using hf) (by simp at hl ⊢; omega) (fun x hx => h1 x (by simp [hx]))
    simp only [storeCells, Sem.run_bind, hst, Result.andThen_ok, ih, setRow_setRow]
    congr 3
    have e := list_seg_step cur.toList (o + i) v rest (by simp at hl ⊢; omega)
    simpa [Array.toList_setIfInBounds, Nat.add_assoc] using e
theorem storeN_ok (hW : WR P ρ w0 φ σ w) {b : Key} {pl : Pl} (hp : φ b = some pl) {off : Nat} {l : List AV} {vs : List Value} (hv : VRs ρ φ l vs) (h1 : ∀ v ∈ vs, v.oneCell' = true)
    {σ' : St} (h : σ.storeN b off l = some σ') :
    ∃ w', (storeCells ⟨pl.blk, pl.base + off, none⟩ vs).run P w = .ok () w' ∧ Go1 P ρ w0 φ σ w φ σ' w' := by
  obtain ⟨p, g1, g2⟩ := obind_some h
  obtain ⟨cs, g3, g4⟩ := obind_some g2
  cases g4
  have hk := St.cells_some g1
  obtain ⟨c, fz, e1, ef, e2, e3, e4⟩ := hW.row hp hk
  obtain ⟨rfl, g6⟩ := setL_some g3
  have hlen := hv.length
  have hrun := run_storeCells_fz (P := P) pl.blk (pl.base + off) p.1 fz vs 0 c w e1 ef.1 (by omega) h1
  refine ⟨_, hrun, ?_⟩
  rw [setRow_wput e1]
  refine Go1.put hW hk hp _ ⟨rfl, ?_, ?_, ?_, ?_⟩
  · have e : (c.toList.take (pl.base + off + 0) ++ vs ++ c.toList.drop (pl.base + off + 0 + vs.length)).toArray.size = c.size := by simp; omega
    rw [e]; exact ef
  · simp; omega
  · simp; omega
  · intro i a hi
    simp only [List.getElem?_toArray, Nat.add_zero]
    by_cases h2 : i < off
    · rw [List.append_assoc, List.getElem?_append_left (by simp; omega), List.getElem?_take, if_pos h2] at hi
      rw [List.append_assoc, List.getElem?_append_left (by simp; omega), List.getElem?_take, if_pos (by omega)]
      simpa using e4 i a hi
    · by_cases h3 : i < off + l.length
      · rw [List.append_assoc, List.getElem?_append_right (by simp; omega), List.getElem?_append_left (by simp; omega)] at hi
        obtain ⟨v, a1, a2⟩ := hv.get hi
        refine ⟨v, ?_, a2, h1 v (List.mem_of_getElem? a1)⟩
        rw [List.append_assoc, List.getElem?_append_right (by simp; omega), List.getElem?_append_left (by simp; omega)]
        have : pl.base + i - (c.toList.take (pl.base + off)).length = i - (p.2.take off).length := by simp; omega
        rw [this]; exact a1
      · rw [List.getElem?_append_right (by simp; omega), List.getElem?_drop] at hi
        rw [List.getElem?_append_right (by simp; omega), List.getElem?_drop]
        have e5 : off + l.length + (i - (p.2.take off ++ l).length) = i := by simp; omega
        have e6 : pl.base + off + vs.length + (pl.base + i - (c.toList.take (pl.base + off) ++ vs).length) = pl.base + i := by simp; omega
        rw [e5] at hi
        rw [e6]
        simpa using e4 i a hi
end
end Go.Ev
namespace Go.Ev
open Go

structure Ctx (P : Program) (ρ : Nat → Value) (w0 : World) : Prop where
  one : ∀ k, (ρ k).oneCell' = true
  glob : ∀ g, g < P.globals.size → ∃ v, w0.cell? ⟨g, 0, none⟩ = some v ∧ v.oneCell' = true

section
variable {P : Program} {ρ : Nat → Value} {w0 : World} {φ : Key → Option Pl} {σ : St} {w : World}

def ValOk (P : Program) (ρ : Nat → Value) (w0 : World) (φ : Key → Option Pl) (σ : St) (w : World) (s : Sem Next) (v : AV) (σ' : St) : Prop :=
  ∃ nx w' φ' v', s.run P w = .ok nx w' ∧ (nx = .value v' ∨ (nx = .skip ∧ v' = undef)) ∧ VR ρ φ' v v' ∧ Go1 P ρ w0 φ σ w φ' σ' w'

theorem ValOk.pure {s : Sem Next} {v : AV} {v' : Value} (hW : WR P ρ w0 φ σ w) (h : s.run P w = .ok (.value v') w) (hv : VR ρ φ v v') : ValOk P ρ w0 φ σ w s v σ :=
  ⟨_, _, _, _, h, .inl rfl, hv, .refl hW⟩
theorem undef_VR : VR ρ φ (.tup []) undef := by
  have := VR.tup (ρ := ρ) (φ := φ) [] [] .nil
  simpa [undef] using this

/-- a new row of cells -/
theorem new_cells (hW : WR P ρ w0 φ σ w) {l : List AV} {vs : List Value} (hv : VRs ρ φ l vs) (h1 : ∀ v ∈ vs, v.oneCell' = true) (ty : Nat) (extra : List Value) (w1 : World) (hw1 : w1 = w ∨ ∃ n, w1 = { w with drawn := n }) :
    Go1 P ρ w0 φ σ w (padd φ σ.next ⟨w.heap.size, 0, (vs ++ extra).length⟩) (σ.new (.cells ty l)) { w1 with heap := w1.heap.push (.cells (vs ++ extra).toArray ty) } := by
  have hb : BR P ρ (padd φ σ.next ⟨w.heap.size, 0, (vs ++ extra).length⟩) (.cells ty l) ⟨w.heap.size, 0, (vs ++ extra).length⟩ (.cells (vs ++ extra).toArray ty) := by
    refine ⟨rfl, ⟨FzOk.zero _, Nat.zero_mod _⟩, by simp, by have := hv.length; simp; omega, ?_⟩
    intro i a hi
    obtain ⟨v, a1, a2⟩ := hv.get hi
    refine ⟨v, ?_, a2.mono (ext_PExt hW _), h1 v (List.mem_of_getElem? a1)⟩
    have hlt : i < vs.length := (List.getElem?_eq_some_iff.1 a1).1
    simp only [Nat.zero_add, List.getElem?_toArray]
    rw [List.getElem?_append_left hlt]; exact a1
  rcases hw1 with rfl | ⟨n, rfl⟩
  · exact Go1.new hW _ _ _ hb
  · exact (Go1.drew hW n).trans (Go1.new (hW.drew n) _ _ _ hb)

theorem intK_VR {k : IntKind} {v : Value} {n : Int} (h : VR ρ φ (.int k n) v) : v = .int k n := by cases h; rfl
theorem bool_VR {b : Bool} {v : Value} (h : VR ρ φ (.bool b) v) : v = .bool b := by cases h; rfl

/-! eliminators -/
theorem boolV_val {α : Type} {v : AV} {z r : α} {f : Bool → α} (h : v.boolV z f = r) (hz : z ≠ r) : ∃ b, v = .bool b ∧ f b = r := by
  cases v <;> simp [AV.boolV] at h <;> first | exact ⟨_, rfl, h⟩ | exact absurd h hz
theorem ptrK_val {α : Type} {v : AV} {z r : α} {f : Key → Nat → α} (h : v.ptrK z f = r) (hz : z ≠ r) : ∃ b o, v = .ptr b o ∧ f b o = r := by
  cases v <;> simp [AV.ptrK] at h <;> first | exact ⟨_, _, rfl, h⟩ | exact absurd h hz
theorem intV_val {α : Type} {v : AV} {z r : α} {f : IntKind → Int → α} (h : v.intV z f = r) (hz : z ≠ r) : ∃ k n, v = .int k n ∧ f k n = r := by
  cases v <;> simp [AV.intV] at h <;> first | exact ⟨_, _, rfl, h⟩ | exact absurd h hz
theorem strV_val {α : Type} {v : AV} {z r : α} {f : Nat → Nat → α} (h : v.strV z f = r) (hz : z ≠ r) : ∃ k n, v = .str k n ∧ f k n = r := by
  cases v <;> simp [AV.strV] at h <;> first | exact ⟨_, _, rfl, h⟩ | exact absurd h hz
theorem aggV_val {α : Type} {v : AV} {z r : α} {f : List AV → α} (h : v.aggV z f = r) (hz : z ≠ r) : ∃ l, v = .agg l ∧ f l = r := by
  cases v <;> simp [AV.aggV] at h <;> first | exact ⟨_, rfl, h⟩ | exact absurd h hz
theorem tupV_val {α : Type} {v : AV} {z r : α} {f : List AV → α} (h : v.tupV z f = r) (hz : z ≠ r) : ∃ l, v = .tup l ∧ f l = r := by
  cases v <;> simp [AV.tupV] at h <;> first | exact ⟨_, rfl, h⟩ | exact absurd h hz
theorem natV_val {α : Type} {v : AV} {z r : α} {f : Nat → α} (h : v.natV z f = r) (hz : z ≠ r) : ∃ k n, v = .int k (Int.ofNat n) ∧ f n = r := by
  obtain ⟨k, n, rfl, h'⟩ := intV_val h hz
  cases n with
  | ofNat m => exact ⟨k, m, rfl, h'⟩
  | negSucc m => exact absurd h' hz
theorem bcond_val {α : Type} {b : Bool} {x r z : α} (h : bcond b x z = r) (hz : z ≠ r) : b = true ∧ x = r := by
  cases b with
  | true => exact ⟨rfl, h⟩
  | false => exact absurd h hz
theorem ofV_val {x : Option AV} {v : AV} {σ σ' : St} (h : OR.ofV x σ = .val v σ') : x = some v ∧ σ' = σ := by
  cases x with
  | none => cases h
  | some a => cases h; exact ⟨rfl, rfl⟩
theorem ofVS_val {x : Option St} {a v : AV} {σ' : St} (h : OR.ofVS a x = .val v σ') : x = some σ' ∧ v = a := by
  cases x with
  | none => cases h
  | some s => cases h; exact ⟨rfl, rfl⟩
theorem ofP_val {x : Option (AV × St)} {v : AV} {σ' : St} (h : OR.ofP x = .val v σ') : x = some (v, σ') := by
  cases x with
  | none => cases h
  | some s => obtain ⟨a, b⟩ := s; cases h; rfl
theorem orec_val {α : Type} {x : Option α} {f : α → OR} {v : AV} {σ' : St} (h : (Option.rec OR.bad f x : OR) = .val v σ') : ∃ a, x = some a ∧ f a = .val v σ' := by
  cases x with
  | none => cases h
  | some a => exact ⟨a, rfl, h⟩

variable (hC : Ctx P ρ w0) (hW : WR P ρ w0 φ σ w) {nt : Nat} {e : Env} {a : Act} (hE : ER ρ φ nt e a.tmps) {cf : Cf} {v : AV} {σ' : St} {o : Oper}
include hC hW hE

theorem mov_ok {x : Operand} {y : Opd} (ho : o.op = .move x ∨ o.op = .assign x) (hy : lOpd P x = some y) (h : A.mov y cf e σ = .val v σ') : ValOk P ρ w0 φ σ w (execOp a.eval o) v σ' := by
  cases h
  refine .pure hW ?_ (lOpd_VR hC.one hy hE)
  rcases ho with ho | ho <;> simp [execOp, ho]
theorem pick_ok {c x y : Operand} {c' x' y' : Opd} (ho : o.op = .pick c x y) (h1 : lOpd P c = some c') (h2 : lOpd P x = some x') (h3 : lOpd P y = some y') (h : A.pick c' x' y' cf e σ = .val v σ') :
    ValOk P ρ w0 φ σ w (execOp a.eval o) v σ' := by
  obtain ⟨b, hb, h⟩ := boolV_val h (by simp)
  cases h
  have hc := lOpd_VR hC.one h1 hE
  rw [hb] at hc
  have hc' := bool_VR hc
  cases b
  · exact .pure hW (by simp [execOp, ho, hc', asBool]) (lOpd_VR hC.one h3 hE)
  · exact .pure hW (by simp [execOp, ho, hc', asBool]) (lOpd_VR hC.one h2 hE)
omit hE in
theorem alloc_ok {ty : TypeId} {z : AV} {zs : List AV} (ho : o.op = .alloc ty) (hz : zeroT P ty = some z) (hzs : z.cells = some zs) (h : A.alloc ty zs cf e σ = .val v σ') :
    ValOk P ρ w0 φ σ w (execOp a.eval o) v σ' := by
  cases h
  obtain ⟨zv, hv, hrun⟩ := run_zeroValue' (P := P) hz
  obtain ⟨c1, c2⟩ := VR.cells (φ := φ) hC.one (ofVal_VR hC.one hv) hzs
  have hg := new_cells hW c1 c2 ty [] w (.inl rfl)
  simp only [List.append_nil] at hg
  refine ⟨_, _, _, .pointer (some ⟨w.heap.size, 0, none⟩), ?_, .inl rfl, .ptr _ _ _ (ext_same _ _ _), hg⟩
  simp [execOp, ho, Instr.alloc, hrun, newVar, newRow]
theorem box_ok {ty : TypeId} {x : Operand} {y : Opd} (ho : o.op = .box ty x) (hy : lOpd P x = some y) (h : A.box ty y cf e σ = .val v σ') :
    ValOk P ρ w0 φ σ w (execOp a.eval o) v σ' := by
  obtain ⟨l, hl, h⟩ := orec_val h
  cases h
  obtain ⟨c1, c2⟩ := VR.cells hC.one (lOpd_VR hC.one hy hE) hl
  have hg := new_cells hW c1 c2 ty [] w (.inl rfl)
  simp only [List.append_nil] at hg
  refine ⟨_, _, _, .pointer (some ⟨w.heap.size, 0, none⟩), ?_, .inl rfl, .ptr _ _ _ (ext_same _ _ _), hg⟩
  simp [execOp, ho, Instr.box, newVar, newRow]
omit hW hE in
theorem glob_cell (hW : WR P ρ w0 φ σ w) {g : Nat} (hlt : g < P.globals.size) : ∃ v, w.cell? ⟨g, 0, none⟩ = some v ∧ v.oneCell' = true := by
  obtain ⟨v, h1, h2⟩ := hC.glob g hlt
  refine ⟨v, ?_, h2⟩
  rw [← h1]
  unfold World.cell? at h1 ⊢
  split at h1
  · rename_i c ty fz hcc
    have : g < w0.heap.size := (Array.getElem?_eq_some_iff.1 hcc).1
    simp only [hW.base g this, hcc]
  · cases h1
theorem store_ok {ty : TypeId} {x y : Operand} {x' y' : Opd} {n : Nat} (ho : o.op = .store ty x y) (hs : sizeT P ty = some n) (h1 : lOpd P x = some x') (h2 : lOpd P y = some y') (h : A.store n x' y' cf e σ = .val v σ') :
    ValOk P ρ w0 φ σ w (execOp a.eval o) v σ' := by
  obtain ⟨b, off, hb, h⟩ := ptrK_val h (by simp)
  obtain ⟨cs, hcs, h⟩ := orec_val h
  obtain ⟨hn, h⟩ := bcond_val h (by simp)
  obtain ⟨hst, rfl⟩ := ofVS_val h
  have hp := lOpd_VR hC.one h1 hE
  rw [hb] at hp
  obtain ⟨c1, c2⟩ := VR.cells hC.one (lOpd_VR hC.one h2 hE) hcs
  cases hx : a.eval x <;> rw [hx] at hp <;> cases hp
  rename_i pl hpl
  obtain ⟨w', r1, r2⟩ := storeN_ok hW hpl c1 c2 hst
  have hlen : (a.eval y).cells.size = n := by
    have := c1.length
    rw [lenL_eq] at hn
    have := Nat.eq_of_beq_eq_true hn
    simp at *; omega
  refine ⟨.skip, w', φ, undef, ?_, .inr ⟨rfl, rfl⟩, undef_VR, r2⟩
  simp [execOp, ho, Instr.storeAt, Instr.sureAddr, hx, storeVar, run_sizeOf' hs, hlen, r1]
theorem load_ok' {ty : TypeId} {x : Operand} {y : Opd} (ho : o.op = .load ty x) (hu : ∀ w, (isAgg ty).run P w = .ok false w) (hy : lOpd P x = some y) (h : A.load y cf e σ = .val v σ') :
    ValOk P ρ w0 φ σ w (execOp a.eval o) v σ' := by
  have hv := lOpd_VR hC.one hy hE
  have key : ∀ ad u, a.eval x = .pointer (some ad) → w.cell? ad = some u → VR ρ φ v u → σ' = σ → ValOk P ρ w0 φ σ w (execOp a.eval o) v σ' := by
    intro ad u h1 h2 h3 h4
    subst h4
    refine .pure hW ?_ h3
    simp [execOp, ho, Instr.loadAt, Instr.sureAddr, h1, loadVar, hu, h2]
  have main : (y.ev e).ptrK .bad (fun b off => OR.ofV (σ.load b off) σ) = .val v σ' → ValOk P ρ w0 φ σ w (execOp a.eval o) v σ' := by
    intro h
    obtain ⟨b, off, hb, h⟩ := ptrK_val h (by simp)
    obtain ⟨hl, rfl⟩ := ofV_val h
    rw [hb] at hv
    cases hx : a.eval x <;> rw [hx] at hv <;> cases hv
    rename_i pl hpl
    obtain ⟨u, h1, h2, _⟩ := load_ok hW hpl hl
    exact key _ u hx h1 h2 rfl
  unfold A.load at h
  split at h
  · rename_i g
    cases h
    cases x with
    | global g' =>
      simp only [lOpd] at hy
      split at hy
      · rename_i hlt
        simp at hy; subst hy
        obtain ⟨u, h1, h2⟩ := glob_cell hC hW hlt
        exact key _ u rfl h1 (.any _ h2) rfl
      · cases hy
    | tmp t => simp [lOpd] at hy
    | func f => simp [lOpd] at hy
    | const u =>
      exfalso
      simp only [lOpd] at hy
      split at hy
      · rename_i b hb
        simp at hy; subst hy
        unfold ofVal ofValN at hb
        split at hb <;> (try split at hb) <;> (try split at hb) <;> simp at hb
      · cases hy
  · exact main h
theorem loadN_ok' {ty : TypeId} {x : Operand} {y : Opd} {n : Nat} (ho : o.op = .load ty x) (hs : sizeT P ty = some n) (hu : ∀ w, (isAgg ty).run P w = .ok true w) (hy : lOpd P x = some y) (h : A.loadN n y cf e σ = .val v σ') :
    ValOk P ρ w0 φ σ w (execOp a.eval o) v σ' := by
  have hv := lOpd_VR hC.one hy hE
  obtain ⟨b, off, hb, h⟩ := ptrK_val h (by simp)
  obtain ⟨h', rfl⟩ := ofV_val h
  obtain ⟨l, hl, h''⟩ := obind_some h'
  cases h''
  rw [hb] at hv
  cases hx : a.eval x <;> rw [hx] at hv <;> cases hv
  rename_i pl hpl
  obtain ⟨vs, h1, h2, h3, h4⟩ := loadN_ok hW hpl hl
  have hr := run_loadCells_list (P := P) w ⟨pl.blk, pl.base + off, none⟩ vs (fun j u hj => by
    have := h2 j u hj
    simp only [Addr.add]
    split
    · rename_i h0; subst h0; simpa using this
    · exact this)
  rw [h1] at hr
  refine .pure hW ?_ (.agg _ _ h3 h4)
  simp [execOp, ho, Instr.loadAt, Instr.sureAddr, hx, loadVar, hu, run_sizeOf' hs, hr]
theorem nilchk_ok {x : Operand} {y : Opd} (ho : o.op = .nilCheck x) (hy : lOpd P x = some y) (h : A.nilchk y cf e σ = .val v σ') : ValOk P ρ w0 φ σ w (execOp a.eval o) v σ' := by
  have hv := lOpd_VR hC.one hy hE
  unfold A.nilchk at h
  split at h
  · rename_i b off hb
    cases h
    rw [hb] at hv
    refine .pure hW ?_ hv
    cases hx : a.eval x <;> rw [hx] at hv <;> cases hv
    simp [execOp, ho, hx]
  · rename_i f x1 x2 hb
    cases h
    rw [hb] at hv
    refine .pure hW ?_ hv
    cases hx : a.eval x <;> rw [hx] at hv <;> cases hv
    simp [execOp, ho, hx]
  · rename_i t u hb
    cases h
    rw [hb] at hv
    refine .pure hW ?_ hv
    cases hx : a.eval x <;> rw [hx] at hv <;> cases hv
    simp [execOp, ho, hx]
  · cases h
end
end Go.Ev
namespace Go.Ev
open Go

/-! ## integers and strings: what the operators come to -/
theorem ltI_eq (x y : Int) : ltI x y = decide (x < y) := by
  cases x <;> cases y <;> rename_i a b
  · show Nat.blt a b = _
    rw [Bool.eq_iff_iff]; simp [Nat.blt_eq]
  · show false = _
    symm; simp; omega
  · show true = _
    symm; simp; omega
  · show Nat.blt b a = _
    rw [Bool.eq_iff_iff]; simp [Nat.blt_eq]; omega
theorem eqI_eq (x y : Int) : eqI x y = (x == y) := by
  cases x <;> cases y <;> rename_i a b
  · show Nat.beq a b = _
    rw [Bool.eq_iff_iff]; simp [Nat.beq_eq]; omega
  · show false = _
    symm; simp
  · show false = _
    symm; simp
  · show Nat.beq a b = _
    rw [Bool.eq_iff_iff]; simp [Nat.beq_eq]
theorem kindEq_eq (a b : IntKind) : kindEq a b = decide (a = b) := by cases a <;> cases b <;> rfl
theorem wrap_fits {k : IntKind} {n : Int} (h : k.min ≤ n ∧ n ≤ k.max) : k.wrap n = n := by
  cases k <;> simp [IntKind.wrap, IntKind.min, IntKind.max, IntKind.signed, IntKind.bits] at * <;> omega
theorem fitsF_wrap {k : IntKind} {n : Int} (h : fitsF k n = true) : k.wrap n = n := by
  apply wrap_fits
  cases k <;> simp only [fitsF] at h <;> first | (exfalso; exact Bool.noConfusion h) | skip
  all_goals
    cases n with
    | ofNat m =>
      have h2 : _ < _ := Nat.blt_eq ▸ h
      simp [IntKind.min, IntKind.max, IntKind.signed, IntKind.bits]; omega
    | negSucc m =>
      first
        | (exfalso; exact Bool.noConfusion h)
        | (have h2 : _ < _ := Nat.blt_eq ▸ h; simp [IntKind.min, IntKind.max, IntKind.signed, IntKind.bits]; omega)
theorem wrapF_eq (k : IntKind) (n : Int) : wrapF k n = k.wrap n := by
  unfold wrapF
  cases h : fitsF k n with
  | true => exact (fitsF_wrap h).symm
  | false => rfl
theorem mkInt_eq {α : Type} (k : IntKind) (n : Int) (f : AV → α) : mkInt k n f = f (.int k (k.wrap n)) := by
  unfold mkInt; rw [intK_eq, wrapF_eq]

/-! strings -/
theorem strNat_acc (l : List UInt8) (a : Nat) : strNat l a = a * 256 ^ l.length + strNat l 0 := by
  induction l generalizing a with
  | nil => simp [strNat]
  | cons b l ih =>
    simp only [strNat]
    rw [ih (a * 256 + b.toNat), ih (0 * 256 + b.toNat)]
    simp only [List.length_cons, Nat.pow_succ, Nat.zero_mul, Nat.zero_add]
    rw [Nat.add_mul, Nat.mul_assoc, Nat.mul_comm 256]
    omega
theorem strNat_append (l m : List UInt8) : strNat (l ++ m) 0 = strNat l 0 * 256 ^ m.length + strNat m 0 := by
  have : ∀ a, strNat (l ++ m) a = strNat m (strNat l a) := by
    induction l with
    | nil => intro a; rfl
    | cons b l ih => intro a; simp only [List.cons_append, strNat]; exact ih _
  rw [this 0, strNat_acc]
theorem strNat_lt (l : List UInt8) : strNat l 0 < 256 ^ l.length := by
  induction l with
  | nil => simp [strNat]
  | cons b l ih =>
    have hb := b.toNat_lt
    simp only [strNat, Nat.zero_mul, Nat.zero_add]
    rw [strNat_acc]
    simp only [List.length_cons, Nat.pow_succ]
    have : b.toNat * 256 ^ l.length ≤ 255 * 256 ^ l.length := Nat.mul_le_mul_right _ (by omega)
    omega
theorem strNat_inj : ∀ {l m : List UInt8}, l.length = m.length → strNat l 0 = strNat m 0 → l = m
  | [], [], _, _ => rfl
  | [], _ :: _, h, _ => by simp at h
  | _ :: _, [], h, _ => by simp at h
  | b :: l, c :: m, h, h' => by
    simp at h
    simp only [strNat, Nat.zero_mul, Nat.zero_add] at h'
    rw [strNat_acc l, strNat_acc m, h] at h'
    have h1 := strNat_lt l
    have h2 := strNat_lt m
    rw [h] at h1
    have hp : 0 < 256 ^ m.length := Nat.pow_pos (by omega)
    have e1 : b.toNat = (b.toNat * 256 ^ m.length + strNat l 0) / 256 ^ m.length := by
      rw [Nat.mul_comm, Nat.mul_add_div hp, Nat.div_eq_of_lt h1]; omega
    have e2 : c.toNat = (c.toNat * 256 ^ m.length + strNat m 0) / 256 ^ m.length := by
      rw [Nat.mul_comm, Nat.mul_add_div hp, Nat.div_eq_of_lt h2]; omega
    have hbc : b.toNat = c.toNat := by rw [e1, h', ← e2]
    have hbc' : b = c := UInt8.toNat_inj.1 hbc
    subst hbc'
    rw [strNat_inj h (by omega)]
theorem StrR.eq_iff {l n l' n' : Nat} {s s' : ByteArray} (h : StrR l n s) (h' : StrR l' n' s') : (Nat.beq l l' && Nat.beq n n') = decide (s = s') := by
  obtain ⟨rfl, rfl⟩ := h
  obtain ⟨rfl, rfl⟩ := h'
  rw [Bool.eq_iff_iff]
  simp only [Bool.and_eq_true, Nat.beq_eq, decide_eq_true_eq]
  constructor
  · rintro ⟨h1, h2⟩
    have := strNat_inj h1 h2
    cases s; cases s'; simp at this ⊢; exact this
  · rintro rfl; exact ⟨rfl, rfl⟩
theorem strEq_eq (a b c d : Nat) : strEq a b c d = (Nat.beq a c && Nat.beq b d) := by
  unfold strEq; cases Nat.beq a c <;> rfl
theorem StrR.cat {l n l' n' : Nat} {s s' : ByteArray} (h : StrR l n s) (h' : StrR l' n' s') : StrR (l + l') (n * 256 ^ l' + n') (s ++ s') := by
  obtain ⟨rfl, rfl⟩ := h
  obtain ⟨rfl, rfl⟩ := h'
  refine ⟨by simp, ?_⟩
  rw [ByteArray.data_append, Array.toList_append]
  exact strNat_append _ _
end Go.Ev
namespace Go.Ev
open Go

section
variable {P : Program} {ρ : Nat → Value} {w0 : World} {φ : Key → Option Pl} {σ : St} {w : World}

theorem and_ok {k : IntKind} {x y : Int} {r : AV} (h : binI .and k x y = some r) : ∃ r', VR ρ φ r r' ∧ ∀ (t : TypeId) (w : World), (binOp .and t (.int k x) (.int k y)).run P w = .ok r' w := by
  cases x with
  | negSucc a => cases h
  | ofNat a =>
  cases y with
  | negSucc b => cases h
  | ofNat b =>
  have h : bcond (kindEq k .u64) (bcond (Nat.blt a 18446744073709551616) (bcond (Nat.blt b 18446744073709551616) (natK (Nat.land a b) fun n => some (.int .u64 (.ofNat n))) none) none) none = some r := h
  obtain ⟨hk, h1⟩ := bcond_none h
  obtain ⟨ha, h2⟩ := bcond_none h1
  obtain ⟨hb, h3⟩ := bcond_none h2
  clear h h1 h2
  rw [kindEq_eq] at hk
  have hk := of_decide_eq_true hk
  rw [natK_eq] at h3
  have h3 := Option.some.inj h3
  rw [← h3, hk]
  clear h3 hk
  have ha : a < 18446744073709551616 := Nat.blt_eq ▸ ha
  have hb : b < 18446744073709551616 := Nat.blt_eq ▸ hb
  refine ⟨_, .int _ _, fun t w => ?_⟩
  have e : IntKind.wrap .u64 ((BitVec.ofInt 64 (Int.ofNat a) &&& BitVec.ofInt 64 (Int.ofNat b)).toNat : Int) = Int.ofNat (Nat.land a b) := by
    have h1 : (BitVec.ofInt 64 (Int.ofNat a) &&& BitVec.ofInt 64 (Int.ofNat b)).toNat = Nat.land a b := by
      rw [BitVec.toNat_and]
      have f : ∀ n : Nat, n < 18446744073709551616 → (BitVec.ofInt 64 (Int.ofNat n)).toNat = n := by
        intro n hn
        rw [show (Int.ofNat n : Int) = (n : Int) from rfl, BitVec.ofInt_natCast, BitVec.toNat_ofNat]
        exact Nat.mod_eq_of_lt hn
      rw [f a ha, f b hb]; rfl
    rw [h1]
    have h2 : Nat.land a b < 18446744073709551616 := Nat.lt_of_le_of_lt Nat.and_le_left ha
    generalize Nat.land a b = z at h2 ⊢
    refine wrap_fits ?_
    simp only [IntKind.min, IntKind.max, IntKind.signed, IntKind.bits]
    simp
    omega
  rw [binOp_and, intBits_and]
  show Result.ok _ _ = _
  congr 2
theorem binI_ok {op : BinOp} {k : IntKind} {x y : Int} {r : AV} (h : binI op k x y = some r) (hne : op ≠ .shr) : ∃ r', VR ρ φ r r' ∧ ∀ (t : TypeId) (w : World), (binOp op t (.int k x) (.int k y)).run P w = .ok r' w := by
  cases op <;> simp only [binI, mkInt_eq, eqI_eq, ltI_eq] at h <;> try (exact absurd rfl hne)
  all_goals try (cases h; done)
  · cases h; exact ⟨_, .int _ _, fun t w => by simp [binOp, Op.intArith] <;> rfl⟩
  · cases h; exact ⟨_, .int _ _, fun t w => by simp [binOp, Op.intArith] <;> rfl⟩
  · cases h; exact ⟨_, .int _ _, fun t w => by simp [binOp, Op.intArith] <;> rfl⟩
  · rw [bcond_eq] at h
    split at h
    · cases h
    · rename_i hy
      cases h
      have hy' : ¬ y = 0 := by simpa using hy
      exact ⟨_, .int _ _, fun t w => by simp [binOp, Op.intDiv, hy'] <;> rfl⟩
  · rw [bcond_eq] at h
    split at h
    · cases h
    · rename_i hy
      rw [intK_eq] at h
      cases h
      have hy' : ¬ y = 0 := by simpa using hy
      exact ⟨_, .int _ _, fun t w => by simp [binOp, Op.intDiv, hy'] <;> rfl⟩
  · exact and_ok h
  · cases h; exact ⟨_, .bool _, fun t w => by simp [binOp, Op.intCmp]⟩
  · cases h; exact ⟨_, .bool _, fun t w => by simp [binOp, Op.intCmp, bcond_eq, bne] <;> (rw [Bool.eq_iff_iff]; simp)⟩
  · cases h; exact ⟨_, .bool _, fun t w => by simp [binOp, Op.intCmp]⟩
  · cases h; exact ⟨_, .bool _, fun t w => by simp [binOp, Op.intCmp, bcond_eq] <;> (rw [Bool.eq_iff_iff]; simp)⟩
  · cases h; exact ⟨_, .bool _, fun t w => by simp [binOp, Op.intCmp]⟩
  · cases h; exact ⟨_, .bool _, fun t w => by simp [binOp, Op.intCmp, bcond_eq] <;> (rw [Bool.eq_iff_iff]; simp)⟩
theorem shr_ok {k l : IntKind} {x y : Int} {r : AV} (h : binI .shr k x y = some r) : ∃ r', VR ρ φ r r' ∧ ∀ (t : TypeId) (w : World), (binOp .shr t (.int k x) (.int l y)).run P w = .ok r' w := by
  simp only [binI] at h
  obtain ⟨hn, h⟩ := bcond_none h
  rw [intK_eq] at h
  cases h
  have hy : ¬ y < 0 := by cases y with | ofNat m => simp | negSucc m => exact Bool.noConfusion hn
  exact ⟨_, .int _ _, fun t w => by simp [binOp, Op.shift, hy] <;> rfl⟩
theorem bytesLess_num : ∀ (x y : List UInt8), Op.bytesLess x y = strLess x.length (strNat x 0) y.length (strNat y 0)
  | x, [] => by
    unfold strLess
    have e : Op.bytesLess x [] = false := by cases x <;> rfl
    rw [e]
    have h1 : Nat.blt (Nat.mul (strNat x 0) (Nat.pow 256 ([] : List UInt8).length)) (Nat.mul (strNat ([] : List UInt8) 0) (Nat.pow 256 x.length)) = false := by
      rw [Bool.eq_false_iff]; intro h
      have h : _ < _ := Nat.blt_eq ▸ h
      simp [strNat] at h
    have h2 : Nat.blt x.length ([] : List UInt8).length = false := by
      rw [Bool.eq_false_iff]; intro h
      have h : _ < _ := Nat.blt_eq ▸ h
      simp at h
    simp only [h1, h2, bcond_false]
    cases Nat.beq _ _ <;> rfl
  | [], b :: y => by
    unfold strLess
    have e : Op.bytesLess [] (b :: y) = true := rfl
    rw [e]
    have h2 : Nat.blt ([] : List UInt8).length (b :: y).length = true := by rw [Nat.blt_eq]; simp
    have h3 : strNat ([] : List UInt8) 0 = 0 := rfl
    rw [h2, h3]
    cases h : Nat.blt (Nat.mul 0 (Nat.pow 256 (b :: y).length)) (Nat.mul (strNat (b :: y) 0) (Nat.pow 256 ([] : List UInt8).length)) with
    | true => simp only [h, bcond_true]
    | false =>
      have h0 : Nat.mul (strNat (b :: y) 0) (Nat.pow 256 ([] : List UInt8).length) = 0 := by
        have : ¬ (Nat.mul 0 (Nat.pow 256 (b :: y).length) < Nat.mul (strNat (b :: y) 0) (Nat.pow 256 ([] : List UInt8).length)) := by
          intro hh; rw [← Nat.blt_eq] at hh; rw [hh] at h; cases h
        have e0 : Nat.mul 0 (Nat.pow 256 (b :: y).length) = 0 := Nat.zero_mul _
        omega
      have e0 : Nat.mul 0 (Nat.pow 256 (b :: y).length) = 0 := Nat.zero_mul _
      rw [h0, e0]; rfl
  | a :: x, b :: y => by
    have ih := bytesLess_num x y
    have e : Op.bytesLess (a :: x) (b :: y) = (a < b || (a == b && Op.bytesLess x y)) := rfl
    rw [e, ih]
    have hx := strNat_lt x
    have hy := strNat_lt y
    have ex : strNat (a :: x) 0 = a.toNat * 256 ^ x.length + strNat x 0 := by
      have := strNat_append [a] x; simpa [strNat] using this
    have ey : strNat (b :: y) 0 = b.toNat * 256 ^ y.length + strNat y 0 := by
      have := strNat_append [b] y; simpa [strNat] using this
    -- both sides brought to one length
    have key : ∀ (A B X Y p q : Nat), X < p → Y < q → 0 < p → 0 < q →
        ((A * p + X) * (q * 256) < (B * q + Y) * (p * 256) ↔ A < B ∨ (A = B ∧ X * q < Y * p)) ∧
        ((A * p + X) * (q * 256) = (B * q + Y) * (p * 256) ↔ A = B ∧ X * q = Y * p) := by
      intro A B X Y p q h1 h2 h3 h4
      have hXq : X * q < p * q := Nat.mul_lt_mul_of_pos_right h1 h4
      have hYp : Y * p < p * q := by rw [Nat.mul_comm p q]; exact Nat.mul_lt_mul_of_pos_right h2 h3
      have e1 : (A * p + X) * (q * 256) = (A * (p * q) + X * q) * 256 := by
        rw [← Nat.mul_assoc, Nat.add_mul, Nat.mul_assoc A]
      have e2 : (B * q + Y) * (p * 256) = (B * (p * q) + Y * p) * 256 := by
        rw [← Nat.mul_assoc, Nat.add_mul, Nat.mul_assoc B, Nat.mul_comm q p]
      rw [e1, e2]
      generalize p * q = m at *
      generalize X * q = u at *
      generalize Y * p = v at *
      have hAB : A < B → (A + 1) * m ≤ B * m := fun h => Nat.mul_le_mul_right m h
      have hBA : B < A → (B + 1) * m ≤ A * m := fun h => Nat.mul_le_mul_right m h
      rw [Nat.add_mul, Nat.one_mul] at hAB hBA
      constructor
      · constructor
        · intro h
          rcases Nat.lt_trichotomy A B with h' | h' | h'
          · exact .inl h'
          · subst h'; exact .inr ⟨rfl, by omega⟩
          · have := hBA h'; omega
        · rintro (h | ⟨rfl, h⟩)
          · have := hAB h; omega
          · omega
      · constructor
        · intro h
          rcases Nat.lt_trichotomy A B with h' | h' | h'
          · have := hAB h'; omega
          · subst h'; exact ⟨rfl, by omega⟩
          · have := hBA h'; omega
        · rintro ⟨rfl, h⟩; omega
    have hk := key a.toNat b.toNat (strNat x 0) (strNat y 0) (256 ^ x.length) (256 ^ y.length) hx hy (Nat.pow_pos (by omega)) (Nat.pow_pos (by omega))
    have lhs : Nat.mul (strNat (a :: x) 0) (Nat.pow 256 (b :: y).length) = (a.toNat * 256 ^ x.length + strNat x 0) * (256 ^ y.length * 256) := by rw [ex]; rfl
    have rhs : Nat.mul (strNat (b :: y) 0) (Nat.pow 256 (a :: x).length) = (b.toNat * 256 ^ y.length + strNat y 0) * (256 ^ x.length * 256) := by rw [ey]; rfl
    have il : Nat.mul (strNat x 0) (Nat.pow 256 y.length) = strNat x 0 * 256 ^ y.length := rfl
    have ir : Nat.mul (strNat y 0) (Nat.pow 256 x.length) = strNat y 0 * 256 ^ x.length := rfl
    unfold strLess
    simp only [lhs, rhs, il, ir]
    have lt_num : (a < b) = (a.toNat < b.toNat) := rfl
    have eq_num : (a == b) = decide (a.toNat = b.toNat) := by rw [Bool.eq_iff_iff]; simp [UInt8.toNat_inj]
    have b1 : ∀ m n : Nat, Nat.blt m n = decide (m < n) := fun m n => by rw [Bool.eq_iff_iff, Nat.blt_eq]; simp
    have b2 : ∀ m n : Nat, Nat.beq m n = decide (m = n) := fun m n => by rw [Bool.eq_iff_iff, Nat.beq_eq]; simp
    simp only [b1, b2, hk.1, hk.2, eq_num, lt_num, bcond_eq]
    by_cases h1 : a.toNat < b.toNat
    · simp [h1]
    · by_cases h2 : a.toNat = b.toNat
      · simp [h2]
      · simp [h1, h2]

theorem ba_beq (a b : ByteArray) : (a == b) = true ↔ a = b := by
  have : (a == b) = (a.data == b.data) := rfl
  rw [this, beq_iff_eq]
  constructor
  · intro h; cases a; cases b; simp at h; subst h; rfl
  · rintro rfl; rfl
/-- what plain values' equality comes to -/
def PrimR (pk : PK) (v w : Value) (r : Bool) : Prop :=
  match pk with
  | .b => ∃ a b, v = .bool a ∧ w = .bool b ∧ r = (a == b)
  | .i => ∃ k a b, v = .int k a ∧ w = .int k b ∧ r = (a == b)
  | .s => ∃ a b, v = .string a ∧ w = .string b ∧ r = decide (a = b)

/-- what the hints must keep -/
structure HintOk (ρ : Nat → Value) (cf : Cf) : Prop where
  hb : ∀ op x y r, cf.hb op x y = some r → ∀ φ v w, VR ρ φ x v → VR ρ φ y w → ∃ k a b, v = .int k a ∧ w = .int k b ∧ op ≠ .shr ∧ op ≠ .shl ∧
    ∃ r', VR ρ φ r r' ∧ ∀ (P : Program) (t : TypeId) (u : World), (binOp op t (.int k a) (.int k b)).run P u = .ok r' u
  hc : ∀ k x r, cf.hc k x = some r → ∀ φ v, VR ρ φ x v → ∃ l n, v = .int l n ∧ VR ρ φ r (.int k (k.wrap n))
  hs : ∀ x y r, cf.hs x y = some r → ∀ φ v w, VR ρ φ x v → VR ρ φ y w → ∃ s t, v = .string s ∧ w = .string t ∧ r = decide (s = t)

theorem primEq_ok {cf : Cf} (hH : HintOk ρ cf) {pk : PK} {x y : AV} {r : Bool} (h : primEq cf pk x y = some r) {v u : Value} (hv : VR ρ φ x v) (hu : VR ρ φ y u) : PrimR pk v u r := by
  cases pk
  · simp only [primEq] at h
    split at h
    · rename_i a b
      cases h; cases hv; cases hu
      exact ⟨a, b, rfl, rfl, by cases a <;> cases b <;> rfl⟩
    · cases h
  · have hint : ∀ {x y : AV} {v u : Value}, VR ρ φ x v → VR ρ φ y u → (obind (cf.hb .eql x y) fun r => r.boolV none some) = some r → PrimR .i v u r := by
      intro x y v u hv hu h
      obtain ⟨r', h1, h2⟩ := obind_some h
      obtain ⟨b, rfl, h3⟩ := boolV_val h2 (by simp)
      cases h3
      obtain ⟨k, a, b, rfl, rfl, _, _, r', h4, h5⟩ := hH.hb _ _ _ _ h1 φ v u hv hu
      cases h4
      refine ⟨k, a, b, rfl, rfl, ?_⟩
      have := h5 default 0 default
      simp [binOp, Op.intCmp] at this
      rw [this]
    simp only [primEq] at h
    split at h
    · obtain ⟨h1, h2⟩ := bcond_none h
      rw [kindEq_eq] at h1
      simp at h1; subst h1
      cases h2; cases hv; cases hu
      exact ⟨_, _, _, rfl, rfl, eqI_eq _ _⟩
    · exact hint hv hu h
  · simp only [primEq] at h
    split at h
    · cases h; cases hv; cases hu
      rename_i s h1 s' h2
      exact ⟨_, _, rfl, rfl, by rw [strEq_eq]; exact h1.eq_iff h2⟩
    · rename_i c n
      obtain ⟨h1, h2⟩ := bcond_none h
      cases h2; cases hv; cases hu
      rename_i s hs s' h3
      refine ⟨_, _, rfl, rfl, ?_⟩
      symm
      rw [decide_eq_false_iff_not]
      rintro rfl
      have := h3.1
      have : c = 0 := Nat.eq_of_beq_eq_true h1
      omega
    · exact hH.hs _ _ _ h _ _ _ hv hu
theorem PrimR.equal {pk : PK} {v u : Value} {r : Bool} (h : PrimR pk v u r) {t : TypeId} (ht : primT P t = some pk) (d : Nat) (w : World) : (Op.equalIn (d + 1) t v u).run P w = .ok r w := by
  unfold primT at ht
  split at ht <;> cases ht
  · rename_i hu
    obtain ⟨a, b, rfl, rfl, rfl⟩ := h
    simp [Op.equalIn, run_underlying hu]
  · rename_i k hu
    obtain ⟨k, a, b, rfl, rfl, rfl⟩ := h
    simp [Op.equalIn, run_underlying hu]
  · rename_i hu
    obtain ⟨a, b, rfl, rfl, rfl⟩ := h
    simp [Op.equalIn, run_underlying hu]
    rw [Bool.eq_iff_iff, ba_beq]; simp
theorem PrimR.sameNow {pk : PK} {v u : Value} {r : Bool} (h : PrimR pk v u r) {t : TypeId} (ht : primT P t = some pk) : ∃ d, P.underlying t = some d ∧ Instr.sameNow d v u = some r := by
  unfold primT at ht
  split at ht <;> cases ht
  · rename_i hu
    obtain ⟨a, b, rfl, rfl, rfl⟩ := h
    exact ⟨_, hu, rfl⟩
  · rename_i k hu
    obtain ⟨k, a, b, rfl, rfl, rfl⟩ := h
    exact ⟨_, hu, by simp [Instr.sameNow]⟩
  · rename_i hu
    obtain ⟨a, b, rfl, rfl, rfl⟩ := h
    exact ⟨_, hu, by simp [Instr.sameNow]; rw [Bool.eq_iff_iff, ba_beq]; simp⟩
end
end Go.Ev
namespace Go.Ev
open Go

section
variable {P : Program} {ρ : Nat → Value} {w0 : World} {φ : Key → Option Pl} {σ : St} {w : World}

/-- a value of a type out of its cells -/
def asT (P : Program) (t : TypeId) (cs : List Value) : Value := if isAggT P t then .agg cs.toArray else cs.headD undef

theorem cellsEq_len {cf : Cf} : ∀ {m : List (Option PK)} {x y : List AV} {r : Bool}, cellsEq cf m x y = some r → x.length = m.length ∧ y.length = m.length
  | [], x, y, r, h => by
    cases x with
    | nil => cases y with
      | nil => simp
      | cons _ _ => cases h
    | cons _ _ => cases h
  | m :: ms, x, y, r, h => by
    cases x with
    | nil => cases h
    | cons a x => cases y with
      | nil => cases h
      | cons b y =>
        have : ∃ r', cellsEq cf ms x y = some r' := by
          cases m with
          | none => exact ⟨r, h⟩
          | some pk =>
            have h' : obind (primEq cf pk a b) (fun r => bcond r (cellsEq cf ms x y) (obind (cellsEq cf ms x y) fun _ => some false)) = some r := h
            obtain ⟨q, _, h2⟩ := obind_some h'
            cases q with
            | true => exact ⟨r, h2⟩
            | false => obtain ⟨r', h3, _⟩ := obind_some h2; exact ⟨r', h3⟩
        obtain ⟨r', h'⟩ := this
        have := cellsEq_len h'
        simp [this.1, this.2]
/-- the comparison of two rows, in two parts -/
theorem cellsEq_append {cf : Cf} : ∀ {m n : List (Option PK)} {x y : List AV} {r : Bool}, cellsEq cf (m ++ n) x y = some r →
    ∃ r1 r2, cellsEq cf m (x.take m.length) (y.take m.length) = some r1 ∧ cellsEq cf n (x.drop m.length) (y.drop m.length) = some r2 ∧ r = (r1 && r2)
  | [], n, x, y, r, h => ⟨true, r, by simp; rfl, by simpa using h, by simp⟩
  | m :: ms, n, x, y, r, h => by
    cases x with
    | nil => cases h
    | cons a x => cases y with
      | nil => cases h
      | cons b y =>
        cases m with
        | none =>
          obtain ⟨r1, r2, h1, h2, h3⟩ := cellsEq_append (cf := cf) (m := ms) (n := n) (x := x) (y := y) (r := r) h
          exact ⟨r1, r2, h1, h2, h3⟩
        | some pk =>
          have h' : obind (primEq cf pk a b) (fun q => bcond q (cellsEq cf (ms ++ n) x y) (obind (cellsEq cf (ms ++ n) x y) fun _ => some false)) = some r := h
          obtain ⟨q, hq, h2⟩ := obind_some h'
          cases q with
          | true =>
            obtain ⟨r1, r2, e1, e2, e3⟩ := cellsEq_append (cf := cf) (m := ms) (n := n) (x := x) (y := y) (r := r) h2
            refine ⟨r1, r2, ?_, e2, e3⟩
            show obind (primEq cf pk a b) (fun q => bcond q (cellsEq cf ms (x.take ms.length) (y.take ms.length)) (obind (cellsEq cf ms (x.take ms.length) (y.take ms.length)) fun _ => some false)) = some r1
            rw [hq]; exact e1
          | false =>
            obtain ⟨r', h3, h4⟩ := obind_some h2
            cases h4
            obtain ⟨r1, r2, e1, e2, e3⟩ := cellsEq_append (cf := cf) (m := ms) (n := n) (x := x) (y := y) (r := r') h3
            refine ⟨false, r2, ?_, e2, by simp⟩
            show obind (primEq cf pk a b) (fun q => bcond q (cellsEq cf ms (x.take ms.length) (y.take ms.length)) (obind (cellsEq cf ms (x.take ms.length) (y.take ms.length)) fun _ => some false)) = some false
            rw [hq]; show obind (cellsEq cf ms (x.take ms.length) (y.take ms.length)) (fun _ => some false) = some false
            rw [e1]; rfl
theorem run_part {t : TypeId} {n : Nat} (hs : sizeT P t = some n) (hu : (P.underlying t).isSome) (cs : List Value) (off : Nat) (h : off + n ≤ cs.length) (h1 : isAggT P t = false → n = 1) (w : World) :
    (part t cs.toArray off).run P w = .ok (asT P t ((cs.drop off).take n)) w := by
  unfold part
  simp only [Sem.run_bind, run_isAgg' t w hu, Result.andThen_ok]
  cases ha : isAggT P t with
  | true =>
    simp [run_sizeOf' hs, asT, ha]
  | false =>
    have := h1 ha
    subst this
    have hlt : off < cs.length := by omega
    have e : (cs.drop off).take 1 = [cs[off]] := by
      rw [List.drop_eq_getElem_cons hlt]; rfl
    simp [asT, ha, hlt, e]


def EqOk (P : Program) (ρ : Nat → Value) (φ : Key → Option Pl) (cf : Cf) (d : Nat) (t : TypeId) (m : List (Option PK)) : Prop :=
  ∀ x y vs us r w, VRs ρ φ x vs → VRs ρ φ y us → cellsEq cf m x y = some r → (Op.equalIn d t (asT P t vs) (asT P t us)).run P w = .ok r w
theorem maskT_facts {n : Nat} {t : TypeId} {m : List (Option PK)} (h : maskT P n t = some m) : sizeT P t = some m.length ∧ (P.underlying t).isSome ∧ (isAggT P t = false → m.length = 1) := by
  cases n with
  | zero => cases h
  | succ n =>
    simp only [maskT] at h
    split at h
    · rename_i m' hm
      split at h
      · rename_i hs
        cases h
        refine ⟨by simpa using hs, ?_, ?_⟩
        · unfold maskK at hm; split at hm <;> simp_all
        · intro ha
          unfold isAggT at ha
          unfold maskK at hm
          split at hm <;> first | (cases hm; rfl) | simp_all
      · cases h
    · cases h
def fieldStep (d : Nat) (xs ys : Array Value) (f : Field) (_ : Option Bool × Unit) : Sem (ForInStep (Option Bool × Unit)) :=
  if f.name ≠ "_" then do
    let a ← part f.type xs f.offset
    let b ← part f.type ys f.offset
    let c ← Op.equalIn d f.type a b
    if (!c) = true then pure (ForInStep.done (some false, ()))
      else pure (ForInStep.yield (none, ()))
  else pure (ForInStep.yield (none, ()))
theorem loop_fields {cf : Cf} {n d : Nat} (ih : ∀ t m, maskT P n t = some m → EqOk P ρ φ cf d t m) (xs ys : List Value) :
    ∀ (l : List Field) (off : Nat) (m : List (Option PK)), maskF P (maskT P n) l off = some m → off ≤ xs.length → off ≤ ys.length → ∀ x y r, VRs ρ φ x (xs.drop off) → VRs ρ φ y (ys.drop off) → cellsEq cf m x y = some r →
      ∀ w, (forIn l ((none, ()) : Option Bool × Unit) (fieldStep d xs.toArray ys.toArray)).run P w = .ok ((if r then none else some false), ()) w
  | [], off, m, h, _, _, x, y, r, hx, hy, hc, w => by
    simp [maskF] at h; subst h
    have := cellsEq_len hc
    cases x with
    | nil => cases y with
      | nil => cases hc; simp
      | cons _ _ => simp at this
    | cons _ _ => simp at this
  | f :: l, off, m, h, ox, oy, x, y, r, hx, hy, hc, w => by
    simp only [maskF] at h
    split at h
    case isFalse => cases h
    rename_i hoff
    have hoff : f.offset = off := by simpa using hoff
    split at h
    case h_2 => cases h
    rename_i m1 hm1
    split at h
    case h_2 => cases h
    rename_i m2 hm2
    cases h
    obtain ⟨r1, r2, c1, c2, rfl⟩ := cellsEq_append hc
    have hl := cellsEq_len hc
    have lx := hx.length
    have ly := hy.length
    simp only [List.length_append, List.length_drop] at hl lx ly
    have ih2 := loop_fields ih xs ys l (off + m1.length) m2 hm2 (by omega) (by omega) _ _ _ (by have := hx.drop m1.length; simpa [Nat.add_comm] using this) (by have := hy.drop m1.length; simpa [Nat.add_comm] using this) c2
    rw [List.forIn_cons, Sem.run_bind]
    by_cases hn : f.name = "_"
    · -- a field without a name: nothing is compared
      simp only [hn, beq_self_eq_true, if_true] at hm1
      split at hm1
      case h_2 => cases hm1
      rename_i s hs
      cases hm1
      have allT : ∀ (s : Nat) (a b : List AV) (r1 : Bool), cellsEq cf (List.replicate s none) a b = some r1 → r1 = true := by
        intro s
        induction s with
        | zero =>
          intro a b r1 h
          cases a with
          | nil => cases b with
            | nil => cases h; rfl
            | cons _ _ => cases h
          | cons _ _ => cases h
        | succ s ihs =>
          intro a b r1 h
          cases a with
          | nil => cases h
          | cons _ a => cases b with
            | nil => cases h
            | cons _ b => exact ihs a b r1 h
      have := allT _ _ _ _ c1
      subst this
      have e : (fieldStep d xs.toArray ys.toArray f (none, ())).run P w = .ok (ForInStep.yield (none, ())) w := by simp [fieldStep, hn]
      rw [e]
      simpa using ih2 w
    · simp only [beq_iff_eq, hn, if_false] at hm1
      obtain ⟨f1, f2, f3⟩ := maskT_facts hm1
      have p1 := run_part f1 f2 xs off (by omega) f3
      have p2 := run_part f1 f2 ys off (by omega) f3
      have e := ih f.type m1 hm1 _ _ _ _ _ w (hx.take m1.length) (hy.take m1.length) c1
      cases r1 with
      | true =>
        have e' : (fieldStep d xs.toArray ys.toArray f (none, ())).run P w = .ok (ForInStep.yield (none, ())) w := by
          simp only [fieldStep, ne_eq, hn, not_false_eq_true, if_true, hoff, Sem.run_bind, p1, p2, e, Result.andThen_ok]; simp
        rw [e']
        simpa using ih2 w
      | false =>
        have e' : (fieldStep d xs.toArray ys.toArray f (none, ())).run P w = .ok (ForInStep.done (some false, ())) w := by
          simp only [fieldStep, ne_eq, hn, not_false_eq_true, if_true, hoff, Sem.run_bind, p1, p2, e, Result.andThen_ok]; simp
        rw [e']
        simp

def elemStep (_P : Program) (d : Nat) (e : TypeId) (n : Nat) (xs ys : Array Value) (i : Nat) (_ : Option Bool × Unit) : Sem (ForInStep (Option Bool × Unit)) := do
  let a ← part e xs (i * n)
  let b ← part e ys (i * n)
  let c ← Op.equalIn d e a b
  if (!c) = true then pure (ForInStep.done (some false, ()))
    else pure (ForInStep.yield (none, ()))
theorem loop_elems {cf : Cf} {d : Nat} {e : TypeId} {me : List (Option PK)} (he : EqOk P ρ φ cf d e me) (f1 : sizeT P e = some me.length) (f2 : (P.underlying e).isSome) (f3 : isAggT P e = false → me.length = 1) (xs ys : List Value) :
    ∀ (k i : Nat), i * me.length ≤ xs.length → i * me.length ≤ ys.length → ∀ x y r, VRs ρ φ x (xs.drop (i * me.length)) → VRs ρ φ y (ys.drop (i * me.length)) → cellsEq cf (catL (List.replicate k me)) x y = some r →
      ∀ w, (forIn (List.range' i k) ((none, ()) : Option Bool × Unit) (elemStep P d e me.length xs.toArray ys.toArray)).run P w = .ok ((if r then none else some false), ()) w
  | 0, i, _, _, x, y, r, hx, hy, hc, w => by
    have hc : cellsEq cf [] x y = some r := hc
    have := cellsEq_len hc
    cases x with
    | nil => cases y with
      | nil => cases hc; simp
      | cons _ _ => simp at this
    | cons _ _ => simp at this
  | k + 1, i, ox, oy, x, y, r, hx, hy, hc, w => by
    have hc : cellsEq cf (me ++ catL (List.replicate k me)) x y = some r := hc
    obtain ⟨r1, r2, c1, c2, rfl⟩ := cellsEq_append hc
    have hl := cellsEq_len hc
    have lx := hx.length
    have ly := hy.length
    simp only [List.length_append, List.length_drop] at hl lx ly
    have e0 : i * me.length + me.length = (i + 1) * me.length := by rw [Nat.add_mul, Nat.one_mul]
    have ih2 := loop_elems he f1 f2 f3 xs ys k (i + 1) (by omega) (by omega) _ _ _ (by have := hx.drop me.length; rw [List.drop_drop, e0] at this; exact this) (by have := hy.drop me.length; rw [List.drop_drop, e0] at this; exact this) c2
    have p1 := run_part f1 f2 xs (i * me.length) (by omega) f3 w
    have p2 := run_part f1 f2 ys (i * me.length) (by omega) f3 w
    have e1 := he _ _ _ _ _ w (hx.take me.length) (hy.take me.length) c1
    rw [List.range'_succ, List.forIn_cons, Sem.run_bind]
    cases r1 with
    | true =>
      have e' : (elemStep P d e me.length xs.toArray ys.toArray i (none, ())).run P w = .ok (ForInStep.yield (none, ())) w := by
        simp only [elemStep, Sem.run_bind, p1, p2, e1, Result.andThen_ok]; simp
      rw [e']
      simpa using ih2 w
    | false =>
      have e' : (elemStep P d e me.length xs.toArray ys.toArray i (none, ())).run P w = .ok (ForInStep.done (some false, ())) w := by
        simp only [elemStep, Sem.run_bind, p1, p2, e1, Result.andThen_ok]; simp
      rw [e']
      simp
theorem prim_row {pk : PK} {t : TypeId} (ht : primT P t = some pk) (d : Nat) {cf : Cf} (hH : HintOk ρ cf) : EqOk P ρ φ cf (d + 1) t [some pk] := by
  intro x y vs us r w hx hy hc
  have hl := cellsEq_len hc
  match x, y, hl, hc with
  | [a], [b], _, hc =>
    cases hx with
    | cons _ v _ vs' hv hvs =>
      cases hvs
      cases hy with
      | cons _ u _ us' hu hus =>
        cases hus
        have hc : obind (primEq cf pk a b) (fun q => bcond q (cellsEq cf [] [] []) (obind (cellsEq cf [] [] []) fun _ => some false)) = some r := hc
        obtain ⟨q, hq, h2⟩ := obind_some hc
        have hqr : q = r := by
          cases q with
          | true => have h2 : some true = some r := h2; simpa using h2
          | false => have h2 : some false = some r := h2; simpa using h2
        subst hqr
        have hp := primEq_ok hH hq hv hu
        have hna : isAggT P t = false := by
          unfold primT at ht; unfold isAggT
          split at ht <;> simp_all
        simp only [asT, hna]
        exact hp.equal ht d w
theorem maskT_equal {cf : Cf} (hH : HintOk ρ cf) : ∀ (n : Nat) (t : TypeId) (m : List (Option PK)), maskT P n t = some m → ∀ d, n ≤ d → EqOk P ρ φ cf d t m
  | 0, t, m, h, _, _ => by cases h
  | n + 1, t, m, h, 0, hd => by omega
  | n + 1, t, m, h, d + 1, hd => by
    have facts := maskT_facts h
    simp only [maskT] at h
    split at h
    case h_2 => cases h
    rename_i m' hm
    split at h
    case isFalse => cases h
    cases h
    unfold maskK at hm
    split at hm
    · rename_i hu; cases hm; exact prim_row (by simp [primT, hu]) d hH
    · rename_i k hu; cases hm; exact prim_row (by simp [primT, hu]) d hH
    · rename_i hu; cases hm; exact prim_row (by simp [primT, hu]) d hH
    · rename_i fs hu
      split at hm
      case isTrue => cases hm
      rename_i hst
      have hst : P.stoodInHeld t = false := by simpa using hst
      intro x y vs us r w hx hy hc
      have hag : isAggT P t = true := by simp [isAggT, hu]
      simp only [asT, hag, if_true]
      have := loop_fields (fun t m hm => maskT_equal hH n t m hm d (by omega)) vs us fs.toList 0 m hm (by omega) (by omega) x y r (by simpa using hx) (by simpa using hy) hc w
      simp only [Op.equalIn, Sem.run_bind, run_underlying hu, Result.andThen_ok, run_program, hst]
      rw [← Array.forIn_toList]
      simp only [Bool.false_eq_true, if_false, Sem.run_bind]
      refine (congrArg (fun z => Result.andThen z _) this).trans ?_
      cases r <;> rfl
    · rename_i k e hu
      split at hm
      case h_2 => cases hm
      rename_i me hme
      cases hm
      obtain ⟨f1, f2, f3⟩ := maskT_facts hme
      intro x y vs us r w hx hy hc
      have hag : isAggT P t = true := by simp [isAggT, hu]
      simp only [asT, hag, if_true]
      have := loop_elems (maskT_equal hH n e me hme d (by omega)) f1 f2 f3 vs us k 0 (by omega) (by omega) x y r (by simpa using hx) (by simpa using hy) hc w
      simp only [Op.equalIn, Sem.run_bind, run_underlying hu, Result.andThen_ok, run_sizeOf' f1]
      have hr : ∀ (g : Nat → Option Bool × Unit → Sem (ForInStep (Option Bool × Unit))), forIn [:k] ((none, ()) : Option Bool × Unit) g = forIn (List.range' 0 k) ((none, ()) : Option Bool × Unit) g := by
        intro g
        rw [Std.Legacy.Range.forIn_eq_forIn_range']
        simp [Std.Legacy.Range.size]
      rw [hr]
      refine (congrArg (fun z => Result.andThen z _) this).trans ?_
      cases r <;> rfl
    · cases hm
end
end Go.Ev
namespace Go.Ev
open Go

section
variable {P : Program} {ρ : Nat → Value} {w0 : World} {φ : Key → Option Pl} {σ : St} {w : World}

theorem binS_ok {op : BinOp} {a b c d : Nat} {r : AV} (h : binS op a b c d = some r) {s s' : ByteArray} (hs : StrR a b s) (hs' : StrR c d s') :
    ∃ r', VR ρ φ r r' ∧ ∀ (t : TypeId) (w : World), (binOp op t (.string s) (.string s')).run P w = .ok r' w := by
  have e1 : s.toList = s.data.toList := ByteArray.toList_eq s
  have e2 : s'.toList = s'.data.toList := ByteArray.toList_eq s'
  have heq : (s.data.toList == s'.data.toList) = strEq a b c d := by
    rw [strEq_eq, hs.eq_iff hs', Bool.eq_iff_iff]
    simp only [beq_iff_eq, decide_eq_true_eq]
    constructor
    · intro h; cases s; cases s'; simp at h; rw [h]
    · rintro rfl; rfl
  have hlt : Op.bytesLess s.data.toList s'.data.toList = strLess a b c d := by
    rw [bytesLess_num, hs.1, hs.2, hs'.1, hs'.2]
  cases op <;> simp only [binS] at h <;> try (cases h; done)
  · obtain ⟨h1, h⟩ := bcond_none h
    have h1 : a + c ≤ 1000000000 := Nat.le_of_ble_eq_true h1
    simp only [strCat, natK_eq] at h
    cases h
    refine ⟨.string (s ++ s'), .str _ _ _ (hs.cat hs'), fun t w => ?_⟩
    have z1 : s.size = a := by rw [← hs.1]; simp
    have z2 : s'.size = c := by rw [← hs'.1]; simp
    have : ¬ (((s.size + s'.size : Nat) : Int) > IntKind.i64.max) := by
      rw [z1, z2]; simp [IntKind.max, IntKind.signed, IntKind.bits]; omega
    simp only [binOp, Op.stringOp, this, if_false]; rfl
  · cases h
    exact ⟨_, .bool _, fun t w => by simp only [binOp, Op.stringOp, e1, e2, heq]; rfl⟩
  · cases h
    refine ⟨_, .bool _, fun t w => by simp only [binOp, Op.stringOp, e1, e2, heq, bcond_eq]; cases strEq a b c d <;> rfl⟩
  · cases h
    exact ⟨_, .bool _, fun t w => by simp only [binOp, Op.stringOp, e1, e2, hlt]; rfl⟩

/-- what the table of plain types must keep -/
def PrimOk (P : Program) (cf : Cf) : Prop := ∀ t pk, cf.prim t = some pk → primT P t = some pk ∧ ∃ i, P.info? t = some i ∧ i.comparable = true

theorem primEq_eqGuard {pk : PK} {v u : Value} {r : Bool} (h : PrimR pk v u r) (op : BinOp) (t : TypeId) (x y : Operand) (w : World) : (eqGuard op t x y v u).run P w = .ok () w := by
  cases pk
  · obtain ⟨a, b, rfl, rfl, _⟩ := h
    unfold eqGuard; split <;> rfl
  · obtain ⟨k, a, b, rfl, rfl, _⟩ := h
    unfold eqGuard; split <;> rfl
  · obtain ⟨a, b, rfl, rfl, _⟩ := h
    unfold eqGuard; split <;> rfl

section
variable (d : Nat) {t : TypeId} (w : World)
theorem eqI_pnn {e} (h : P.underlying t = some (.pointer e)) : (Op.equalIn (d + 1) t (.pointer none) (.pointer none)).run P w = .ok true w := by
  simp [Op.equalIn, run_underlying h]
theorem eqI_pns {e a} (h : P.underlying t = some (.pointer e)) : (Op.equalIn (d + 1) t (.pointer none) (.pointer (some a))).run P w = .ok false w := by
  simp [Op.equalIn, run_underlying h]
theorem eqI_psn {e a} (h : P.underlying t = some (.pointer e)) : (Op.equalIn (d + 1) t (.pointer (some a)) (.pointer none)).run P w = .ok false w := by
  simp [Op.equalIn, run_underlying h]
theorem eqI_pss {e n g i j} (h : P.underlying t = some (.pointer e)) (hn : sizeT P e = some (n + 1)) : (Op.equalIn (d + 1) t (.pointer (some ⟨g, i, none⟩)) (.pointer (some ⟨g, j, none⟩))).run P w = .ok (i == j) w := by
  have e2 : ((⟨g, i, none⟩ : Addr) == ⟨g, j, none⟩) = (i == j) := by
    rw [Bool.eq_iff_iff]; simp
  simp [Op.equalIn, run_underlying h, run_sizeOf' hn, sameAddr, e2]
theorem eqI_snn {e a b c f} (h : P.underlying t = some (.slice e)) : (Op.equalIn (d + 1) t (.slice none a b) (.slice none c f)).run P w = .ok true w := by
  simp [Op.equalIn, run_underlying h]
theorem eqI_sns {e a b c f g} (h : P.underlying t = some (.slice e)) : (Op.equalIn (d + 1) t (.slice none a b) (.slice (some g) c f)).run P w = .ok false w := by
  simp [Op.equalIn, run_underlying h]
theorem eqI_ssn {e a b c f g} (h : P.underlying t = some (.slice e)) : (Op.equalIn (d + 1) t (.slice (some g) a b) (.slice none c f)).run P w = .ok false w := by
  simp [Op.equalIn, run_underlying h]
theorem eqI_mnn {k e} (h : P.underlying t = some (.map k e)) : (Op.equalIn (d + 1) t (.map none) (.map none)).run P w = .ok true w := by
  simp [Op.equalIn, run_underlying h]
theorem eqI_mns {k e g} (h : P.underlying t = some (.map k e)) : (Op.equalIn (d + 1) t (.map none) (.map (some g))).run P w = .ok false w := by
  simp [Op.equalIn, run_underlying h]
theorem eqI_msn {k e g} (h : P.underlying t = some (.map k e)) : (Op.equalIn (d + 1) t (.map (some g)) (.map none)).run P w = .ok false w := by
  simp [Op.equalIn, run_underlying h]
theorem eqI_fnn {x y z} (h : P.underlying t = some (.func x y z)) : (Op.equalIn (d + 1) t .nilFunc .nilFunc).run P w = .ok true w := by
  simp [Op.equalIn, run_underlying h]
theorem eqI_fns {x y z a b c} (h : P.underlying t = some (.func x y z)) : (Op.equalIn (d + 1) t .nilFunc (.func a b c)).run P w = .ok false w := by
  simp [Op.equalIn, run_underlying h]
theorem eqI_fsn {x y z a b c} (h : P.underlying t = some (.func x y z)) : (Op.equalIn (d + 1) t (.func a b c) .nilFunc).run P w = .ok false w := by
  simp [Op.equalIn, run_underlying h]
theorem eqI_inn {ms} (h : P.underlying t = some (.interface ms)) : (Op.equalIn (d + 1) t .nilIface .nilIface).run P w = .ok true w := by
  simp [Op.equalIn, run_underlying h]
theorem guardIn_nn {ms} (h : P.underlying t = some (.interface ms)) (hn : ms.isEmpty = true) : ∀ d, (Op.eqGuardIn (d + 1) t .nilIface .nilIface).run P w = .ok false w := by
  intro d
  simp [Op.eqGuardIn, run_underlying h, hn]
theorem guard_nn {op : BinOp} {ms} (h : P.underlying t = some (.interface ms)) (hn : ms.isEmpty = true) (x y : Operand) : (eqGuard op t x y .nilIface .nilIface).run P w = .ok () w := by
  have h1 : (Op.eqGuardIn Op.maxDepth t .nilIface .nilIface).run P w = .ok false w := guardIn_nn w h hn 9999
  generalize hd : Op.maxDepth = d at h1
  unfold eqGuard
  rw [hd]
  cases op <;> cases x <;> cases y <;> simp [h1]
theorem guard_nc {op : BinOp} (x y : Operand) (hc : (isC x || isC y) = true) : (eqGuard op t x y .nilIface .nilIface).run P w = .ok () w := by
  unfold eqGuard
  cases op <;> cases x <;> cases y <;> first | rfl | (simp [isC] at hc; done)
theorem eqI_ins {ms a b} (h : P.underlying t = some (.interface ms)) : (Op.equalIn (d + 1) t .nilIface (.iface a b)).run P w = .ok false w := by
  simp [Op.equalIn, run_underlying h]
theorem eqI_isn {ms a b} (h : P.underlying t = some (.interface ms)) : (Op.equalIn (d + 1) t (.iface a b) .nilIface).run P w = .ok false w := by
  simp [Op.equalIn, run_underlying h]
theorem eqI_iss {ms a b c f} (h : P.underlying t = some (.interface ms)) (hn : a ≠ c) : (Op.equalIn (d + 1) t (.iface a b) (.iface c f)).run P w = .ok false w := by
  simp [Op.equalIn, run_underlying h, hn]
theorem eqI_ise {ms a b f i r} (h : P.underlying t = some (.interface ms)) (hi : P.info? a = some i) (hc : i.comparable = true) (he : (Op.equalIn d a b f).run P w = .ok r w) : (Op.equalIn (d + 1) t (.iface a b) (.iface a f)).run P w = .ok r w := by
  simp [Op.equalIn, run_underlying h, run_typeInfo' hi, hc, he]
theorem guard_one {op : BinOp} {v u : Value} (h : v ≠ .nilIface) (h2 : ∀ c, v ≠ .agg c) (x y : Operand) : (eqGuard op t x y v u).run P w = .ok () w := by
  unfold eqGuard
  split <;> first | rfl | (cases v <;> first | rfl | exact absurd rfl h | exact absurd rfl (h2 _))
theorem guard_two {op : BinOp} {v u : Value} (h : u ≠ .nilIface) (h2 : ∀ c, v ≠ .agg c) (x y : Operand) : (eqGuard op t x y v u).run P w = .ok () w := by
  unfold eqGuard
  split <;> first | rfl | (cases v <;> first | rfl | exact absurd rfl (h2 _) | (cases u <;> first | rfl | exact absurd rfl h))
end
theorem eqV_ok' (d : Nat) (hd : 8 ≤ d) {cf : Cf} (hH : HintOk ρ cf) (hP : PrimOk P cf) {t : TypeId} {x y : AV} {r : Bool} (h : eqV cf (eqsT P t) x y = some r) {v u : Value} (hv : VR ρ φ x v) (hu : VR ρ φ y u) (w : World) :
    (Op.equalIn (d + 2) t v u).run P w = .ok r w ∧ ∀ op x y, (eqGuard op t x y v u).run P w = .ok () w := by
  unfold eqsT at h
  have prim : ∀ pk, primT P t = some pk → primEq cf pk x y = some r → (Op.equalIn (d + 2) t v u).run P w = .ok r w ∧ ∀ op x y, (eqGuard op t x y v u).run P w = .ok () w := by
    intro pk hk h
    have hp := primEq_ok hH h hv hu
    exact ⟨hp.equal hk _ w, fun op x y => primEq_eqGuard hp op t x y w⟩
  have aggs : ∀ m, P.eqGuardType P.depth t = false → maskT P 8 t = some m → x.aggV none (fun a => y.aggV none fun b => cellsEq cf m a b) = some r → isAggT P t = true →
      (Op.equalIn (d + 2) t v u).run P w = .ok r w ∧ ∀ op x y, (eqGuard op t x y v u).run P w = .ok () w := by
    intro m hg hm h ha
    obtain ⟨a, ea, h2⟩ := aggV_val h (by simp)
    obtain ⟨b, eb, h3⟩ := aggV_val h2 (by simp)
    subst ea eb
    cases hv with
    | agg _ vs hvs _ =>
    cases hu with
    | agg _ us hus _ =>
    have := maskT_equal hH 8 t m hm (d + 2) (by omega) a b vs us r w hvs hus h3
    simp only [asT, ha, if_true] at this
    refine ⟨this, fun op x y => ?_⟩
    unfold eqGuard
    split <;> simp [hg]
  split at h
  · rename_i hu'; exact prim .b (by simp [primT, hu']) h
  · rename_i k hu'; exact prim .i (by simp [primT, hu']) h
  · rename_i hu'; exact prim .s (by simp [primT, hu']) h
  · rename_i e hu'
    split at h
    · rename_i n hn
      simp only [eqV] at h
      split at h
      · cases h; cases hv; cases hu
        exact ⟨eqI_pnn _ w hu', fun op x y => guard_one w (by simp) (by simp) x y⟩
      · cases h; cases hv; cases hu
        exact ⟨eqI_pns _ w hu', fun op x y => guard_one w (by simp) (by simp) x y⟩
      · cases h; cases hv; cases hu
        exact ⟨eqI_psn _ w hu', fun op x y => guard_one w (by simp) (by simp) x y⟩
      · rename_i a i b j
        obtain ⟨hb, h'⟩ := bcond_none h
        clear h
        rw [Key.beq_eq] at hb
        have hb := of_decide_eq_true hb
        subst hb
        cases h'; cases hv; cases hu
        rename_i p1 h1 p2 h2
        rw [h1] at h2; cases h2
        refine ⟨?_, fun op x y => guard_one w (by simp) (by simp) x y⟩
        have e1 : (Nat.beq i j) = (p1.base + i == p1.base + j) := by rw [Bool.eq_iff_iff, Nat.beq_eq]; simp
        rw [e1]
        exact eqI_pss _ w hu' hn
      · cases h
    · cases h
  · rename_i e hu'
    simp only [eqV] at h
    split at h
    · cases h; cases hv; cases hu
      exact ⟨eqI_snn _ w hu', fun op x y => guard_one w (by simp) (by simp) x y⟩
    · cases h; cases hv; cases hu <;> exact ⟨eqI_sns _ w hu', fun op x y => guard_one w (by simp) (by simp) x y⟩
    · cases h; cases hv <;> cases hu <;> exact ⟨eqI_ssn _ w hu', fun op x y => guard_one w (by simp) (by simp) x y⟩
    · cases h; cases hv; cases hu
      exact ⟨eqI_sns _ w hu', fun op x y => guard_one w (by simp) (by simp) x y⟩
    · cases h; cases hv; cases hu
      exact ⟨eqI_ssn _ w hu', fun op x y => guard_one w (by simp) (by simp) x y⟩
    · cases h
  · rename_i k e hu'
    simp only [eqV] at h
    split at h
    · cases h; cases hv; cases hu
      exact ⟨eqI_mnn _ w hu', fun op x y => guard_one w (by simp) (by simp) x y⟩
    · cases h; cases hv; cases hu
      exact ⟨eqI_mns _ w hu', fun op x y => guard_one w (by simp) (by simp) x y⟩
    · cases h; cases hv; cases hu
      exact ⟨eqI_msn _ w hu', fun op x y => guard_one w (by simp) (by simp) x y⟩
    · cases h
  · rename_i hu'
    simp only [eqV] at h
    split at h
    · cases h; cases hv; cases hu
      exact ⟨eqI_fnn _ w hu', fun op x y => guard_one w (by simp) (by simp) x y⟩
    · cases h; cases hv; cases hu
      exact ⟨eqI_fns _ w hu', fun op x y => guard_one w (by simp) (by simp) x y⟩
    · cases h; cases hv; cases hu
      exact ⟨eqI_fsn _ w hu', fun op x y => guard_one w (by simp) (by simp) x y⟩
    · cases h
  · rename_i ms hu'
    simp only [eqV] at h
    split at h
    · obtain ⟨hn, h⟩ := bcond_none h
      cases h; cases hv; cases hu
      exact ⟨eqI_inn _ w hu', fun op x y => guard_nn w hu' hn x y⟩
    · cases h; cases hv; cases hu
      exact ⟨eqI_ins _ w hu', fun op x y => guard_two w (by simp) (by simp) x y⟩
    · cases h; cases hv; cases hu
      exact ⟨eqI_isn _ w hu', fun op x y => guard_one w (by simp) (by simp) x y⟩
    · rename_i t1 a t2 b
      cases hv with
      | ifc _ _ va hva =>
      cases hu with
      | ifc _ _ vb hvb =>
      refine ⟨?_, fun op x y => guard_one w (by simp) (by simp) x y⟩
      rw [bcond_eq] at h
      split at h
      · rename_i ht
        have ht := Nat.eq_of_beq_eq_true ht
        subst ht
        obtain ⟨pk, hpk, h⟩ := obind_some h
        obtain ⟨h1, i, h2, h3⟩ := hP _ _ hpk
        have hp := primEq_ok hH h hva hvb
        exact eqI_ise (d + 1) w hu' h2 h3 (hp.equal h1 d w)
      · rename_i ht
        cases h
        exact eqI_iss _ w hu' (by rintro rfl; exact ht (Nat.beq_refl _))
    · cases h
  · rename_i fs hu'
    split at h
    · cases h
    · rename_i hg
      split at h
      · rename_i m hm
        exact aggs m (by simpa using hg) hm h (by simp [isAggT, hu'])
      · cases h
  · rename_i n e hu'
    split at h
    · cases h
    · rename_i hg
      split at h
      · rename_i m hm
        exact aggs m (by simpa using hg) hm h (by simp [isAggT, hu'])
      · cases h
  · cases h

theorem eqV_ok {cf : Cf} (hH : HintOk ρ cf) (hP : PrimOk P cf) {t : TypeId} {x y : AV} {r : Bool} (h : eqV cf (eqsT P t) x y = some r) {v u : Value} (hv : VR ρ φ x v) (hu : VR ρ φ y u) (w : World) :
    (Op.equal t v u).run P w = .ok r w ∧ ∀ op x y, (eqGuard op t x y v u).run P w = .ok () w :=
  eqV_ok' 9998 (by omega) hH hP h hv hu w

theorem eqV_nf {cf : Cf} (hH : HintOk ρ cf) {e : EqS} {x y : AV} {r : Bool} (h : eqV cf e x y = some r) {v u : Value} (hv : VR ρ φ x v) (hu : VR ρ φ y u) :
    (∀ k a, v ≠ .float k a) ∧ (∀ k a b, v ≠ .complex k a b) := by
  cases e <;> simp only [eqV] at h
  · have := primEq_ok hH h hv hu
    rename_i pk
    cases pk
    · obtain ⟨_, _, rfl, _⟩ := this; simp
    · obtain ⟨_, _, _, rfl, _⟩ := this; simp
    · obtain ⟨_, _, rfl, _⟩ := this; simp
  all_goals first
    | (split at h <;> first | (cases h; done) | (cases hv <;> simp))
    | (obtain ⟨a, rfl, _⟩ := aggV_val h (by simp)
       cases hv; simp)
    | cases h
theorem equal_int {t : TypeId} {k l : IntKind} {a b : Int} {r : Bool} (h : (Op.equal t (.int k a) (.int l b)).run P w = .ok r w) : k = l ∧ r = (a == b) := by
  have h : (Op.equalIn (9999 + 1) t (.int k a) (.int l b)).run P w = .ok r w := h
  rw [Op.equalIn] at h
  cases hu : P.underlying t with
  | none => 
    have : (underlying t).run P w = .halt (.stuck "") w ∨ True := .inr trivial
    exfalso
    revert h
    simp [underlying, hu]
  | some d =>
    simp only [Sem.run_bind, run_underlying hu, Result.andThen_ok] at h
    cases d <;> simp at h
    split at h
    · rename_i hk; simp at h; exact ⟨hk, h.symm⟩
    · simp at h
theorem equal_str {t : TypeId} {a b : ByteArray} {r : Bool} (h : (Op.equal t (.string a) (.string b)).run P w = .ok r w) : r = (a == b) := by
  have h : (Op.equalIn (9999 + 1) t (.string a) (.string b)).run P w = .ok r w := h
  rw [Op.equalIn] at h
  cases hu : P.underlying t with
  | none => 
    exfalso
    revert h
    simp [underlying, hu]
  | some d =>
    simp only [Sem.run_bind, run_underlying hu, Result.andThen_ok] at h
    cases d <;> simp at h
    exact h.symm
theorem equal_eql {op : BinOp} {t : TypeId} {v u : Value} {r : Bool} (hop : op = .eql ∨ op = .neq) (h : (Op.equal t v u).run P w = .ok r w)
    (h3 : ∀ k a, v ≠ .float k a) (h4 : ∀ k a b, v ≠ .complex k a b) :
    (binOp op t v u).run P w = .ok (.bool (if op = .eql then r else !r)) w := by
  have hs : ∀ a b, v = .string a → u = .string b → (binOp op t v u).run P w = .ok (.bool (if op = .eql then r else !r)) w := by
    rintro a b rfl rfl
    have := equal_str h
    subst this
    have e : (a.toList == b.toList) = (a == b) := by
      rw [ByteArray.toList_eq, ByteArray.toList_eq, Bool.eq_iff_iff, ba_beq]
      simp only [beq_iff_eq]
      constructor
      · intro h; cases a; cases b; simp at h; rw [h]
      · rintro rfl; rfl
    rcases hop with rfl | rfl <;> simp [binOp, Op.stringOp, e]
  have hi : ∀ k a l b, v = .int k a → u = .int l b → (binOp op t v u).run P w = .ok (.bool (if op = .eql then r else !r)) w := by
    rintro k a l b rfl rfl
    obtain ⟨rfl, rfl⟩ := equal_int h
    rcases hop with rfl | rfl <;> simp [binOp, Op.intCmp]
    rfl
  rcases hop with rfl | rfl
  · cases v <;> first
      | exact absurd rfl (h3 _ _) | exact absurd rfl (h4 _ _ _)
      | (cases u <;> first | exact hi _ _ _ _ rfl rfl | exact hs _ _ rfl rfl | simp [binOp, h])
  · cases v <;> first
      | exact absurd rfl (h3 _ _) | exact absurd rfl (h4 _ _ _)
      | (cases u <;> first | exact hi _ _ _ _ rfl rfl | exact hs _ _ rfl rfl | simp [binOp, h])
theorem binV_ok {cf : Cf} (hH : HintOk ρ cf) (hP : PrimOk P cf) {op : BinOp} {t : TypeId} {x y r : AV} (h : binV cf op (eqsT P t) x y = some r) {v u : Value} (hv : VR ρ φ x v) (hu : VR ρ φ y u) (w : World) :
    ∃ r', VR ρ φ r r' ∧ (binOp op t v u).run P w = .ok r' w ∧ ∀ x y, (eqGuard op t x y v u).run P w = .ok () w := by
  unfold binV at h
  split at h
  · rename_i k a l b
    cases hv; cases hu
    split at h
    · obtain ⟨r', h1, h2⟩ := shr_ok (φ := φ) (ρ := ρ) (P := P) (l := l) h
      exact ⟨r', h1, h2 t w, fun x y => guard_one w (by simp) (by simp) x y⟩
    · rename_i hne
      obtain ⟨hk, h'⟩ := bcond_none h
      rw [kindEq_eq] at hk
      have hk := of_decide_eq_true hk
      subst hk
      obtain ⟨r', h1, h2⟩ := binI_ok (φ := φ) (ρ := ρ) (P := P) h' hne
      exact ⟨r', h1, h2 t w, fun x y => guard_one w (by simp) (by simp) x y⟩
  · cases hv with
    | str _ _ _ hs =>
    cases hu with
    | str _ _ _ hs' =>
    obtain ⟨r', h1, h2⟩ := binS_ok (φ := φ) (ρ := ρ) (P := P) h hs hs'
    exact ⟨r', h1, h2 t w, fun x y => guard_one w (by simp) (by simp) x y⟩
  · split at h
    · obtain ⟨b, hb, h⟩ := obind_some h
      cases h
      obtain ⟨h1, h2⟩ := eqV_ok hH hP hb hv hu w
      obtain ⟨n1, n2⟩ := eqV_nf hH hb hv hu
      exact ⟨_, .bool _, by simpa using equal_eql (.inl rfl) h1 n1 n2, h2 _⟩
    · obtain ⟨b, hb, h⟩ := obind_some h
      cases h
      obtain ⟨h1, h2⟩ := eqV_ok hH hP hb hv hu w
      obtain ⟨n1, n2⟩ := eqV_nf hH hb hv hu
      refine ⟨_, .bool _, ?_, h2 _⟩
      have := equal_eql (op := .neq) (.inr rfl) h1 n1 n2
      rw [this]
      cases b <;> rfl
    · obtain ⟨k, a, b, rfl, rfl, n1, n2, r', h1, h2⟩ := hH.hb _ _ _ _ h φ v u hv hu
      exact ⟨r', h1, h2 P t w, fun x y => guard_one w (by simp) (by simp) x y⟩
end
end Go.Ev
namespace Go.Ev
open Go

section
variable {P : Program} {ρ : Nat → Value} {w0 : World} {φ : Key → Option Pl} {σ : St} {w : World}
variable (hC : Ctx P ρ w0) (hW : WR P ρ w0 φ σ w) {nt : Nat} {e : Env} {a : Act} (hE : ER ρ φ nt e a.tmps) {cf : Cf} (hH : HintOk ρ cf) (hP : PrimOk P cf) {v : AV} {σ' : St} {o : Oper}
include hC hW hE

omit hC hW hE in
theorem binV_iface {op : BinOp} {a b : AV} {m n : Bool} (h : ¬ (a = .nili ∧ b = .nili)) : binV cf op (.iface m) a b = binV cf op (.iface n) a b := by
  cases a <;> cases b <;> first | rfl | exact absurd ⟨rfl, rfl⟩ h
theorem bin_ok (hH : HintOk ρ cf) (hP : PrimOk P cf) {op : BinOp} {t : TypeId} {x y : Operand} {x' y' : Opd} {q} (ho : o.op = .binOp op t x y q) (h1 : lOpd P x = some x') (h2 : lOpd P y = some y') (h : A.bin op (eqsB P t x y) x' y' cf e σ = .val v σ') :
    ValOk P ρ w0 φ σ w (execOp a.eval o) v σ' := by
  obtain ⟨h', rfl⟩ := ofV_val h
  have old : binV cf op (eqsT P t) (x'.ev e) (y'.ev e) = some v → ValOk P ρ w0 φ σ' w (execOp a.eval o) v σ' := by
    intro h'
    obtain ⟨r', g1, g2, g3⟩ := binV_ok hH hP h' (lOpd_VR hC.one h1 hE) (lOpd_VR hC.one h2 hE) w
    refine .pure hW ?_ g1
    simp [execOp, ho, g2, g3]
  by_cases hb : eqsB P t x y = eqsT P t
  · rw [hb] at h'; exact old h'
  · unfold eqsB at hb h'
    split at h'
    case h_2 => simp at hb
    rename_i b hbt
    by_cases hn : x'.ev e = .nili ∧ y'.ev e = .nili
    · obtain ⟨e1, e2⟩ := hn
      have hx := lOpd_VR hC.one h1 hE
      have hy := lOpd_VR hC.one h2 hE
      rw [e1] at hx; rw [e2] at hy
      rw [e1, e2] at h'
      generalize hvx : a.eval x = vx at hx
      generalize hvy : a.eval y = vy at hy
      cases hx; cases hy
      obtain ⟨ms, hms⟩ : ∃ ms, P.underlying t = some (.interface ms) := by
        unfold eqsT at hbt
        split at hbt <;> first | (cases hbt; done) | exact ⟨_, by assumption⟩ | skip
        all_goals
          repeat' first | (cases hbt; done) | split at hbt
      have heq : (Op.equal t .nilIface .nilIface).run P w = .ok true w := eqI_inn _ w hms
      have hg : (eqGuard op t x y .nilIface .nilIface).run P w = .ok () w := by
        by_cases hc : (isC x || isC y) = true
        · exact guard_nc w x y hc
        · exfalso
          apply hb
          rw [hbt]
          simp only [Bool.not_eq_true] at hc
          simp only
          rw [Bool.or_assoc, hc, Bool.or_false]
      have main : ∀ r, (op = .eql ∧ r = true) ∨ (op = .neq ∧ r = false) → v = .bool r → ValOk P ρ w0 φ σ' w (execOp a.eval o) v σ' := by
        rintro r hr rfl
        refine .pure hW ?_ (.bool _)
        have := equal_eql (op := op) (hr.imp (·.1) (·.1)) heq (by simp) (by simp)
        rcases hr with ⟨rfl, rfl⟩ | ⟨rfl, rfl⟩ <;> simp [execOp, ho, hvx, hvy, hg, this]
      by_cases o1 : op = .eql
      · have h3 : (obind (eqV cf (.iface (b || isC x || isC y)) .nili .nili) fun b => some (.bool b)) = some v := by subst o1; exact h'
        obtain ⟨c, hc, h3⟩ := obind_some h3
        obtain ⟨_, hc⟩ := bcond_none (show bcond _ _ _ = _ from hc)
        injection hc with hc
        injection h3 with h3
        exact main true (.inl ⟨o1, rfl⟩) (by rw [← h3, ← hc])
      · by_cases o2 : op = .neq
        · have h3 : (obind (eqV cf (.iface (b || isC x || isC y)) .nili .nili) fun b => some (.bool (bcond b false true))) = some v := by subst o2; exact h'
          obtain ⟨c, hc, h3⟩ := obind_some h3
          obtain ⟨_, hc⟩ := bcond_none (show bcond _ _ _ = _ from hc)
          injection hc with hc
          injection h3 with h3
          exact main false (.inr ⟨o2, rfl⟩) (by rw [← h3, ← hc]; rfl)
        · have h3 : cf.hb op .nili .nili = some v := by cases op <;> first | exact h' | exact absurd rfl o1 | exact absurd rfl o2
          obtain ⟨k, a, b, h4, _⟩ := hH.hb _ _ _ _ h3 φ _ _ .nili .nili
          cases h4
    · refine old ?_
      rw [hbt, binV_iface hn (n := b || isC x || isC y)]
      exact h'
theorem un_ok {op : UnOp} {t : TypeId} {x : Operand} {x' : Opd} (ho : o.op = .unOp op t x) (h1 : lOpd P x = some x') (h : A.un op x' cf e σ = .val v σ') :
    ValOk P ρ w0 φ σ w (execOp a.eval o) v σ' := by
  obtain ⟨h', rfl⟩ := ofV_val h
  clear h
  have hv := lOpd_VR hC.one h1 hE
  cases op <;> simp only [unV] at h' <;> try (cases h'; done)
  · obtain ⟨k, n, hx, h⟩ := intV_val h' (by simp)
    rw [mkInt_eq] at h; cases h
    rw [hx] at hv
    have hv := intK_VR hv
    refine .pure hW ?_ (.int _ _)
    have e0 : Int.sub 0 n = -n := Int.zero_sub n
    simp [execOp, ho, hv, Op.unary, Op.intArith, e0]
  · obtain ⟨b, hx, h⟩ := boolV_val h' (by simp)
    cases h
    rw [hx] at hv
    have hv := bool_VR hv
    refine .pure hW ?_ (.bool _)
    cases b <;> simp [execOp, ho, hv, Op.unary] <;> rfl
theorem cint_ok (hH : HintOk ρ cf) {s d : TypeId} {j k : IntKind} {x : Operand} {x' : Opd} (ho : o.op = .convert s d x) (hs : P.underlying s = some (.int j)) (hd : P.underlying d = some (.int k)) (h1 : lOpd P x = some x') (h : A.cint k x' cf e σ = .val v σ') :
    ValOk P ρ w0 φ σ w (execOp a.eval o) v σ' := by
  have hv := lOpd_VR hC.one h1 hE
  unfold A.cint at h
  split at h
  · rename_i l n hx
    rw [mkInt_eq] at h; cases h
    rw [hx] at hv
    have hv := intK_VR hv
    refine .pure hW ?_ (.int _ _)
    simp [execOp, ho, hv, convert, run_underlying hs, run_underlying hd, Conv.intToInt]
  · obtain ⟨h', rfl⟩ := ofV_val h
    obtain ⟨l, n, hx, hr⟩ := hH.hc _ _ _ h' φ _ hv
    refine .pure hW ?_ hr
    simp [execOp, ho, hx, convert, run_underlying hs, run_underlying hd, Conv.intToInt]
theorem mkIfc_ok {t : TypeId} {x : Operand} {x' : Opd} {d : TypeDesc} (ho : o.op = .makeInterface t x) (hd : P.underlying t = some d) (hn : ∀ m, d ≠ .interface m) (h1 : lOpd P x = some x') (h : A.mkIfc t x' cf e σ = .val v σ') :
    ValOk P ρ w0 φ σ w (execOp a.eval o) v σ' := by
  cases h
  refine .pure hW ?_ (.ifc _ _ _ (lOpd_VR hC.one h1 hE))
  cases d <;> first | (exact absurd rfl (hn _)) | simp [execOp, ho, Instr.makeInterface, run_underlying hd]
theorem mkFn_ok {f : FuncId} {x y : Array Operand} {x' y' : List Opd} (ho : o.op = .makeFunc (.func f) x y) (h1 : optL (lOpd P) x.toList = some x') (h2 : optL (lOpd P) y.toList = some y') (h : A.mkFn f x' y' cf e σ = .val v σ') :
    ValOk P ρ w0 φ σ w (execOp a.eval o) v σ' := by
  cases h
  have := VR.fn (ρ := ρ) (φ := φ) f _ _ _ _ (evL_VRs hC.one hE h1) (evL_VRs hC.one hE h2)
  refine .pure hW ?_ this
  simp [execOp, ho, Instr.makeFunc, ← Array.toList_map]
omit hE in
theorem mkMap_ok {t : TypeId} {r : Option Operand} (ho : o.op = .makeMap t r) (hr : r = none ∨ ∃ k n kt et, r = some (.const (.int k n)) ∧ P.underlying t = some (.map kt et)) (h : A.mkMap cf e σ = .val v σ') :
    ValOk P ρ w0 φ σ w (execOp a.eval o) v σ' := by
  have _ := hC
  cases h
  have hg := Go1.new hW (.map [] 0) (.map #[] 0) 0 ⟨rfl, .nil⟩
  refine ⟨_, _, _, .map (some w.heap.size), ?_, .inl rfl, .map _ _ (ext_same _ _ _), hg⟩
  rcases hr with rfl | ⟨k, n, kt, et, rfl, hu⟩
  · simp [execOp, ho, Instr.makeMap]
  · simp [execOp, ho, Instr.makeMap, run_underlying hu, asInt, asIntOf, Act.eval]
theorem fldA_ok {s : TypeId} {x : Operand} {x' : Opd} {i n : Nat} {fs : Array Field} {f : Field} (ho : o.op = .fieldAddr s x i) (hs : P.underlying s = some (.struct fs)) (hf : fs[i]? = some f) (hn : sizeT P f.type = some n) (h0 : n ≠ 0) (h1 : lOpd P x = some x')
    (h : A.fldA f.offset x' cf e σ = .val v σ') : ValOk P ρ w0 φ σ w (execOp a.eval o) v σ' := by
  obtain ⟨b, off, hb, h⟩ := ptrK_val h (by simp)
  rw [natK_eq] at h
  cases h
  have hv := lOpd_VR hC.one h1 hE
  rw [hb] at hv
  cases hx : a.eval x <;> rw [hx] at hv <;> cases hv
  rename_i pl hpl
  have hr : VR ρ φ (.ptr b (Nat.add off f.offset)) (.pointer (some ⟨pl.blk, pl.base + (off + f.offset), none⟩)) := .ptr _ _ _ hpl
  refine .pure hW ?_ hr
  have e1 : (⟨pl.blk, pl.base + off, none⟩ : Addr).add f.offset = ⟨pl.blk, pl.base + (off + f.offset), none⟩ := by
    unfold Addr.add; split <;> simp_all [Nat.add_assoc]
  simp [execOp, ho, Instr.fieldAt, run_underlying hs, hf, Instr.sureAddr, hx, fieldPlace, run_sizeOf' hn, h0, e1]
theorem extr_ok {x : Operand} {x' : Opd} {i : Nat} (ho : o.op = .extract x i) (h1 : lOpd P x = some x') (h : A.extr x' i cf e σ = .val v σ') :
    ValOk P ρ w0 φ σ w (execOp a.eval o) v σ' := by
  obtain ⟨l, hx, h⟩ := tupV_val h (by simp)
  obtain ⟨h', rfl⟩ := ofV_val h
  rw [nthL_eq] at h'
  have hv := lOpd_VR hC.one h1 hE
  rw [hx] at hv
  cases hx : a.eval x <;> rw [hx] at hv <;> cases hv
  rename_i vs hvs
  obtain ⟨y, g1, g2⟩ := hvs.get h'
  refine .pure hW ?_ g2
  simp [execOp, ho, Instr.extract, hx, g1]
theorem tasT_ok {x : Operand} {x' : Opd} {xt t : TypeId} {ok : Bool} {d : TypeDesc} {z : AV} (ho : o.op = .typeAssert x xt t ok) (hd : P.underlying t = some d) (hn : ∀ m, d ≠ .interface m) (hz : zeroT P t = some z) (h1 : lOpd P x = some x') (h : A.tasT x' t z ok cf e σ = .val v σ') :
    ValOk P ρ w0 φ σ w (execOp a.eval o) v σ' := by
  obtain ⟨zv, hzv, hrun⟩ := run_zeroValue' (P := P) hz
  have hzr := ofVal_VR (φ := φ) hC.one hzv
  have hv := lOpd_VR hC.one h1 hE
  have tup2 : ∀ {p q : AV} {p' q' : Value}, VR ρ φ p p' → VR ρ φ q q' → VR ρ φ (.tup [p, q]) (.tuple #[p', q']) := fun hp hq => .tup _ [_, _] (.cons _ _ _ _ hp (.cons _ _ _ _ hq .nil))
  unfold A.tasT at h
  split at h
  · rename_i u y hx
    rw [hx] at hv
    cases hx' : a.eval x <;> rw [hx'] at hv <;> cases hv
    rename_i y' hy
    rw [bcond_eq] at h
    split at h
    · rename_i ht
      have ht := Nat.eq_of_beq_eq_true ht
      subst ht
      cases h
      cases ok
      · refine .pure hW ?_ hy
        cases d <;> first | (exact absurd rfl (hn _)) | simp [execOp, ho, Instr.typeAssert, run_underlying hd, hx']
      · refine .pure hW ?_ (tup2 hy (.bool true))
        cases d <;> first | (exact absurd rfl (hn _)) | simp [execOp, ho, Instr.typeAssert, run_underlying hd, hx']
    · rename_i ht
      have ht : ¬ u = t := by rintro rfl; exact ht (Nat.beq_refl _)
      cases ok
      · cases h
      · cases h
        refine .pure hW ?_ (tup2 hzr (.bool false))
        cases d <;> first | (exact absurd rfl (hn _)) | simp [execOp, ho, Instr.typeAssert, run_underlying hd, hx', ht, hrun]
  · rename_i hx
    rw [hx] at hv
    cases hx' : a.eval x <;> rw [hx'] at hv <;> cases hv
    cases ok
    · cases h
    · cases h
      refine .pure hW ?_ (tup2 hzr (.bool false))
      cases d <;> first | (exact absurd rfl (hn _)) | simp [execOp, ho, Instr.typeAssert, run_underlying hd, hx', hrun]
  · cases h
theorem panic_ok {x : Operand} {x' : Opd} (ho : o.op = .panic x) (h1 : lOpd P x = some x') (h : A.panic x' cf e σ = .pan v σ') :
    ∃ v', (execOp a.eval o).run P w = .halt (.panic v') w ∧ VR ρ φ v v' ∧ σ' = σ := by
  have _ := hW
  have hv := lOpd_VR hC.one h1 hE
  unfold A.panic at h
  split at h
  · rename_i t y hx
    cases h
    rw [hx] at hv
    cases hx' : a.eval x <;> rw [hx'] at hv <;> cases hv
    rename_i y' hy
    exact ⟨_, by simp [execOp, ho, Instr.panic, hx', goPanic], .ifc _ _ _ hy, rfl⟩
  · cases h
end
end Go.Ev
