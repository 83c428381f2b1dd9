/-
Proved here: the abstract evaluator and the lowering of the model's code.
Conditions: none beyond those that the statements name.
-/
import GoSem.Step
namespace Go.Ev

inductive Key | xH | xO (p : Key) | xI (p : Key)
  deriving DecidableEq, Inhabited
noncomputable def Key.succ (k : Key) : Key := Key.rec (.xO .xH) (fun p _ => .xI p) (fun _ ih => .xO ih) k
noncomputable def Key.beq (a : Key) : Key → Bool :=
  Key.rec (motive := fun _ => Key → Bool)
    (fun b => Key.rec true (fun _ _ => false) (fun _ _ => false) b)
    (fun _ ih b => Key.rec false (fun p _ => ih p) (fun _ _ => false) b)
    (fun _ ih b => Key.rec false (fun _ _ => false) (fun p _ => ih p) b) a

inductive Cap | ex (c : Nat) | op (esz : Nat)
  deriving DecidableEq, Inhabited

inductive AV
  | top
  | any
  | sym (k : Nat)
  | ne
  | bool (b : Bool)
  | int (k : IntKind) (n : Int)
  | str (len n : Nat)
  | nilp
  | ptr (b : Key) (off : Nat)
  | nils
  | sli (b : Key) (off len : Nat) (cap : Cap)
  | esl
  | nilm
  | map (b : Key)
  | fn (f : Nat) (first cap : List AV)
  | yld (l : Key)
  | glob (g : Nat)
  | nilf
  | ifc (t : Nat) (v : AV)
  | nili
  | agg (l : List AV)
  | tup (l : List AV)
  deriving Inhabited

inductive Tr (α : Type) | lf | nd (v : Option α) (l r : Tr α)
noncomputable def Tr.get {α : Type} (p : Key) : Tr α → Option α :=
  Key.rec (motive := fun _ => Tr α → Option α)
    (fun t => Tr.rec (motive := fun _ => Option α) none (fun v _ _ _ _ => v) t)
    (fun _ ih t => Tr.rec (motive := fun _ => Option α) none (fun _ l _ _ _ => ih l) t)
    (fun _ ih t => Tr.rec (motive := fun _ => Option α) none (fun _ _ r _ _ => ih r) t) p
noncomputable def Tr.set {α : Type} (x : Option α) (p : Key) : Tr α → Tr α :=
  Key.rec (motive := fun _ => Tr α → Tr α)
    (fun t => Tr.rec (motive := fun _ => Tr α) (.nd x .lf .lf) (fun _ l r _ _ => .nd x l r) t)
    (fun _ ih t => Tr.rec (motive := fun _ => Tr α) (.nd none (ih .lf) .lf) (fun v l r _ _ => .nd v (ih l) r) t)
    (fun _ ih t => Tr.rec (motive := fun _ => Tr α) (.nd none .lf (ih .lf)) (fun v l r _ _ => .nd v l (ih r)) t) p

abbrev Env := Tr AV

inductive Opd | t (k : Key) | c (v : AV)
  deriving Inhabited

inductive PK | b | i | s
  deriving DecidableEq, Inhabited

inductive LK | sl | st | mp
  deriving DecidableEq, Inhabited

inductive EqS
  | prim (k : PK) | ptr | slice | map | func | iface (n : Bool)
  | cells (cmp : List (Option PK))
  | none
  deriving Inhabited

inductive IOp
  | mov (x : Opd)
  | pick (c a b : Opd)
  | alloc (ty : Nat) (zero : List AV)
  | box (ty : Nat) (x : Opd)
  | build (zero : List AV) (parts : List (Nat × Nat × Opd))
  | buildS (ty esz len : Nat) (zero : List AV) (parts : List (Nat × Nat × Opd))
  | load (a : Opd)
  | loadN (n : Nat) (a : Opd)
  | store (n : Nat) (a x : Opd)
  | nilchk (x : Opd)
  | bin (op : BinOp) (e : EqS) (x y : Opd)
  | un (op : UnOp) (x : Opd)
  | cint (k : IntKind) (x : Opd)
  | cid (x : Opd)
  | cI2s (x : Opd)
  | cS2b (ty : Nat) (x : Opd)
  | cB2s (x : Opd)
  | cP2u (n : Nat) (x : Opd)
  | cU2p (ty n : Nat) (x : Opd)
  | mkIfc (t : Nat) (x : Opd)
  | mkFn (f : Nat) (first cap : List Opd)
  | mkMap
  | mkS (ty esz bytes : Nat) (zero : List AV) (l c : Opd)
  | sliS (x : Opd) (lo hi : Option Opd)
  | sli (esz : Nat) (x : Opd) (lo hi mx : Option Opd)
  | sliA (n esz : Nat) (x : Opd) (lo hi mx : Option Opd)
  | fldA (off : Nat) (x : Opd)
  | fld (off : Nat) (x : Opd)
  | fldN (off n : Nat) (x : Opd)
  | ixA (esz : Nat) (x i : Opd)
  | ixAA (n esz : Nat) (x i : Opd)
  | ix (n esz : Nat) (agg : Bool) (x i : Opd)
  | ixS (x i : Opd)
  | look (pk : PK) (zero : AV) (m k : Opd) (ok : Bool)
  | mapUp (pk : PK) (m k v : Opd)
  | range (x : Opd)
  | rangeS (x : Opd)
  | next (x : Opd)
  | nextS (x : Opd)
  | entry (x : Opd)
  | tasT (x : Opd) (t : Nat) (zero : AV) (ok : Bool)
  | extr (x : Opd) (i : Nat)
  | call (f : Nat) (args : List Opd)
  | callV (g : Opd) (args : List Opd)
  | len (k : LK) (x : Opd)
  | lenA (n : Nat)
  | cap (x : Opd)
  | append (ty esz bytes : Nat) (x y : Opd)
  | appendZ (ty esz bytes : Nat) (zero : List AV) (x y : Opd)
  | copy (esz : Nat) (x y : Opd)
  | clear (zero : List AV) (x : Opd)
  | delete (pk : PK) (m k : Opd)
  | min (x y : Opd)
  | min3 (x y z : Opd)
  | max (x y : Opd)
  | recover
  | uSliceData (x : Opd)
  | uString (ty : Nat) (x l : Opd)
  | defer (f : Opd) (args : List Opd)
  | panic (x : Opd)
  | ext (name : Nat) (args : List Opd)
  | bad
  deriving Inhabited

structure OpI where
  dst : Option Key
  op : IOp
  guard : Option (Key × Bool)
  deriving Inhabited

/-- what an operation of a drawn region does: it turns the heap; it reads it; neither; it only lays a new block -/
inductive DK | eff | read | pure | alloc
  deriving DecidableEq, Inhabited
structure DOp where
  o : OpI
  k : DK
  lo : Nat
  deriving Inhabited

inductive IC
  | skip
  | reg (ops : List OpI)
  | dreg (na : Nat) (ops : List DOp)
  | seq (a b : IC)
  | cond (c : Opd) (a b : IC)
  | block (id : Nat) (b : IC)
  | loop (b : IC)
  | mloop (it tn tx te : Key) (keep : List Key) (id : Nat) (body : IC)
  | rangeF (f : Opd) (ps : List Key) (assign body : IC)
  | exit (id : Nat)
  | scope (b : IC)
  | ret
  | bad
  deriving Inhabited

inductive IRes | tmp (k : Key) | cell (k : Key) | cellN (k : Key) (n : Nat)
structure IF where
  params : List Key
  results : List IRes
  body : IC
  /-- nothing is deferred, no function ranged over -/
  nd : Bool

inductive Blk
  | cells (ty : Nat) (cs : List AV)
  | map (es : List (AV × AV × Nat)) (clock : Nat)
  | sIter (len n pos : Nat)
  | mIter (m : Option Key) (since : Nat)
  | loop (state : Nat) (pend : IC) (env : Env) (ps : List Key) (assign body : IC)

structure St where
  heap : Tr Blk
  next : Key

abbrev Dfr := AV × List AV
inductive OR
  | bad
  | val (v : AV) (σ : St)
  | dfr (f : AV) (args : List AV) (σ : St)
  | pan (v : AV) (σ : St)
inductive Ex | norm | exit (id : Nat) | ret | pan (v : AV)
inductive Res
  | bad
  | mk (x : Ex) (e : Env) (d : List Dfr) (σ : St)
inductive CR
  | bad
  | val (v : AV) (σ : St)
  | pan (v : AV) (σ : St)

/-- what the evaluator leans on: comparable plain types, hints for symbols, calls, yields -/
structure Cf where
  prim : Nat → Option PK
  hb : BinOp → AV → AV → Option AV
  hc : IntKind → AV → Option AV
  hs : AV → AV → Option Bool
  call : Nat → List AV → St → CR
  yld : Key → List AV → St → CR

/-! ## small helpers -/
noncomputable def bcond {α : Type} (b : Bool) (x y : α) : α := Bool.rec y x b
noncomputable def natK {α : Type} (n : Nat) (f : Nat → α) : α := Nat.rec (f 0) (fun m _ => f (Nat.succ m)) n
noncomputable def intK {α : Type} (n : Int) (f : Int → α) : α := Int.rec (fun m => natK m fun m => f (Int.ofNat m)) (fun m => natK m fun m => f (Int.negSucc m)) n
noncomputable def obind {α β : Type} (x : Option α) (f : α → Option β) : Option β := Option.rec none (fun a => f a) x

noncomputable def appL (a b : List AV) : List AV := List.rec b (fun x _ ih => x :: ih) a
noncomputable def dropL (l : List AV) : Nat → List AV :=
  List.rec (motive := fun _ => Nat → List AV) (fun _ => []) (fun a l ih n => Nat.rec (a :: l) (fun m _ => ih m) n) l
/-- the first n; none, if there are fewer -/
noncomputable def takeL (n : Nat) : List AV → Option (List AV) :=
  Nat.rec (motive := fun _ => List AV → Option (List AV)) (fun _ => some [])
    (fun _ ih l => List.rec none (fun a l _ => obind (ih l) fun r => some (a :: r)) l) n
noncomputable def nthL (l : List AV) : Nat → Option AV :=
  List.rec (motive := fun _ => Nat → Option AV) (fun _ => none) (fun a _ ih n => Nat.rec (some a) (fun m _ => ih m) n) l
noncomputable def lenL (l : List AV) : Nat := List.rec 0 (fun _ _ ih => Nat.add ih 1) l
/-- vs over the head of l -/
noncomputable def overL (vs : List AV) : List AV → Option (List AV) :=
  List.rec (motive := fun _ => List AV → Option (List AV)) (fun l => some l)
    (fun v _ ih l => List.rec none (fun _ l _ => obind (ih l) fun r => some (v :: r)) l) vs
/-- vs over l from off on -/
noncomputable def setL (vs : List AV) (l : List AV) : Nat → Option (List AV) :=
  List.rec (motive := fun _ => Nat → Option (List AV))
    (fun n => Nat.rec (overL vs []) (fun _ _ => none) n)
    (fun a l ih n => Nat.rec (overL vs (a :: l)) (fun m _ => obind (ih m) fun r => some (a :: r)) n) l
noncomputable def repL (n : Nat) (z : List AV) : List AV := Nat.rec [] (fun _ ih => appL z ih) n
noncomputable def mapL {α β : Type} (f : α → β) (l : List α) : List β := List.rec [] (fun a _ ih => f a :: ih) l

noncomputable def Opd.ev (o : Opd) (e : Env) : AV := Opd.rec (fun k => Option.rec AV.top (fun v => v) (e.get k)) (fun v => v) o
noncomputable def evL (l : List Opd) (e : Env) : List AV := mapL (fun x => Opd.ev x e) l

/-- the cells that a value takes; none, if it is not known to be made of single cells -/
def AV.cells (v : AV) : Option (List AV) := match v with | .agg l => some l | .tup _ => none | .top => none | v => some [v]
def AV.one (v : AV) : Bool := match v with | .agg _ => false | .tup _ => false | .top => false | _ => true

noncomputable def St.new (σ : St) (b : Blk) : St := ⟨σ.heap.set (some b) σ.next, σ.next.succ⟩
noncomputable def St.put (σ : St) (k : Key) (b : Blk) : St := ⟨σ.heap.set (some b) k, σ.next⟩
noncomputable def St.kill (σ : St) (k : Key) : St := ⟨σ.heap.set none k, σ.next⟩
noncomputable def Blk.cellsO (b : Blk) : Option (Nat × List AV) := match b with | .cells t c => some (t, c) | _ => none
noncomputable def St.cells (σ : St) (k : Key) : Option (Nat × List AV) := obind (σ.heap.get k) Blk.cellsO
noncomputable def St.loadN (σ : St) (b : Key) (off n : Nat) : Option (List AV) := obind (σ.cells b) fun p => takeL n (dropL p.2 off)
noncomputable def St.load (σ : St) (b : Key) (off : Nat) : Option AV := obind (σ.cells b) fun p => nthL p.2 off
noncomputable def St.storeN (σ : St) (b : Key) (off : Nat) (vs : List AV) : Option St :=
  obind (σ.cells b) fun p => obind (setL vs p.2 off) fun c => some (σ.put b (.cells p.1 c))

/-! ## results -/
noncomputable def OR.ofV (x : Option AV) (σ : St) : OR := Option.rec .bad (fun v => .val v σ) x
noncomputable def OR.ofVS (v : AV) (x : Option St) : OR := Option.rec .bad (fun σ => .val v σ) x
noncomputable def OR.ofP (x : Option (AV × St)) : OR := Option.rec .bad (fun p => .val p.1 p.2) x
noncomputable def CR.or (r : CR) : OR := CR.rec .bad (fun v σ => .val v σ) (fun v σ => .pan v σ) r

/-! eliminators -/
noncomputable def AV.ptrK {α : Type} (v : AV) (z : α) (f : Key → Nat → α) : α := match v with | .ptr b o => f b o | _ => z
noncomputable def AV.intV {α : Type} (v : AV) (z : α) (f : IntKind → Int → α) : α := match v with | .int k n => f k n | _ => z
noncomputable def AV.strV {α : Type} (v : AV) (z : α) (f : Nat → Nat → α) : α := match v with | .str k n => f k n | _ => z
noncomputable def AV.aggV {α : Type} (v : AV) (z : α) (f : List AV → α) : α := match v with | .agg l => f l | _ => z
noncomputable def AV.tupV {α : Type} (v : AV) (z : α) (f : List AV → α) : α := match v with | .tup l => f l | _ => z
noncomputable def AV.boolV {α : Type} (v : AV) (z : α) (f : Bool → α) : α := match v with | .bool b => f b | _ => z
/-- a natural number -/
noncomputable def AV.natV {α : Type} (v : AV) (z : α) (f : Nat → α) : α := v.intV z fun _ n => Int.rec (fun m => f m) (fun _ => z) n

/-! ## strings as numbers -/
noncomputable def strAt (len n i : Nat) : Nat := Nat.mod (Nat.div n (Nat.pow 256 (Nat.sub (Nat.sub len 1) i))) 256
noncomputable def strSub (len n lo hi : Nat) : Nat := Nat.mod (Nat.div n (Nat.pow 256 (Nat.sub len hi))) (Nat.pow 256 (Nat.sub hi lo))
noncomputable def strCat (a b c d : Nat) : AV := natK (Nat.add a c) fun l => natK (Nat.add (Nat.mul b (Nat.pow 256 c)) d) fun n => .str l n
noncomputable def strEq (a b c d : Nat) : Bool := bcond (Nat.beq a c) (Nat.beq b d) false
noncomputable def strLess (l1 n1 l2 n2 : Nat) : Bool :=
  let a := Nat.mul n1 (Nat.pow 256 l2)
  let b := Nat.mul n2 (Nat.pow 256 l1)
  bcond (Nat.blt a b) true (bcond (Nat.beq a b) (Nat.blt l1 l2) false)
/-- the bytes from i on, k of them -/
noncomputable def strBytes (len n : Nat) (k : Nat) : Nat → List AV :=
  Nat.rec (motive := fun _ => Nat → List AV) (fun _ => []) (fun _ ih i => natK (strAt len n i) fun c => .int .u8 (Int.ofNat c) :: ih (Nat.add i 1)) k
noncomputable def bytesStr (l : List AV) : Nat → Option Nat :=
  List.rec (motive := fun _ => Nat → Option Nat) (fun a => some a)
    (fun v _ ih a => v.intV none fun k m => bcond (Nat.beq (IntKind.rec 0 1 2 3 4 5 6 7 k) (IntKind.rec 0 1 2 3 4 5 6 7 IntKind.u8)) (Int.rec (fun m => bcond (Nat.blt m 256) (natK (Nat.add (Nat.mul a 256) m) ih) none) (fun _ => none) m) none) l

/-! ## integers -/
noncomputable def ltI (x y : Int) : Bool :=
  Int.rec (fun a => Int.rec (fun b => Nat.blt a b) (fun _ => false) y) (fun a => Int.rec (fun _ => true) (fun b => Nat.blt b a) y) x
noncomputable def eqI (x y : Int) : Bool :=
  Int.rec (fun a => Int.rec (fun b => Nat.beq a b) (fun _ => false) y) (fun a => Int.rec (fun _ => false) (fun b => Nat.beq a b) y) x
noncomputable def kindEq (a b : IntKind) : Bool := Nat.beq (IntKind.rec 0 1 2 3 4 5 6 7 a) (IntKind.rec 0 1 2 3 4 5 6 7 b)
noncomputable def fitsF (k : IntKind) (n : Int) : Bool :=
  match k with
  | .i64 => Int.rec (fun a => Nat.blt a 9223372036854775808) (fun a => Nat.blt a 9223372036854775808) n
  | .u8 => Int.rec (fun a => Nat.blt a 256) (fun _ => false) n
  | .u64 => Int.rec (fun a => Nat.blt a 18446744073709551616) (fun _ => false) n
  | .i32 => Int.rec (fun a => Nat.blt a 2147483648) (fun a => Nat.blt a 2147483648) n
  | _ => false
/-- wrap, with the short way for what fits -/
noncomputable def wrapF (k : IntKind) (n : Int) : Int := bcond (fitsF k n) n (k.wrap n)
noncomputable def mkInt {α : Type} (k : IntKind) (n : Int) (f : AV → α) : α := intK (wrapF k n) fun n => f (.int k n)
noncomputable def nonneg (n : Int) : Bool := Int.rec (fun _ => true) (fun _ => false) n

noncomputable def binI (op : BinOp) (k : IntKind) (x y : Int) : Option AV :=
  match op with
  | .add => mkInt k (Int.add x y) some
  | .sub => mkInt k (Int.sub x y) some
  | .mul => mkInt k (Int.mul x y) some
  | .quo => bcond (eqI y 0) none (mkInt k (Int.tdiv x y) some)
  | .rem => bcond (eqI y 0) none (intK (Int.tmod x y) fun n => some (.int k n))
  | .eql => some (.bool (eqI x y))
  | .neq => some (.bool (bcond (eqI x y) false true))
  | .lss => some (.bool (ltI x y))
  | .leq => some (.bool (bcond (ltI y x) false true))
  | .gtr => some (.bool (ltI y x))
  | .geq => some (.bool (bcond (ltI x y) false true))
  | .and => Int.rec (fun a => Int.rec (fun b => bcond (kindEq k .u64) (bcond (Nat.blt a 18446744073709551616) (bcond (Nat.blt b 18446744073709551616) (natK (Nat.land a b) fun n => some (.int .u64 (.ofNat n))) none) none) none) (fun _ => none) y) (fun _ => none) x
  | .shr => bcond (nonneg y) (intK (Int.fdiv x (Int.pow 2 (Nat.min y.toNat k.bits))) fun n => some (.int k n)) none
  | _ => none
noncomputable def binS (op : BinOp) (a b c d : Nat) : Option AV :=
  match op with
  | .add => bcond (Nat.ble (Nat.add a c) 1000000000) (some (strCat a b c d)) none
  | .eql => some (.bool (strEq a b c d))
  | .neq => some (.bool (bcond (strEq a b c d) false true))
  | .lss => some (.bool (strLess a b c d))
  | _ => none
noncomputable def primEq (cf : Cf) (pk : PK) (x y : AV) : Option Bool :=
  match pk with
  | .b => match x, y with
    | .bool a, .bool b => some (Bool.rec (bcond b false true) b a)
    | _, _ => none
  | .i => match x, y with
    | .int k a, .int l b => bcond (kindEq k l) (some (eqI a b)) none
    | x, y => obind (cf.hb .eql x y) fun r => r.boolV none some
  | .s => match x, y with
    | .str a b, .str c d => some (strEq a b c d)
    | .ne, .str c _ => bcond (Nat.beq c 0) (some false) none
    | x, y => cf.hs x y
noncomputable def cellsEq (cf : Cf) (ms : List (Option PK)) : List AV → List AV → Option Bool :=
  List.rec (motive := fun _ => List AV → List AV → Option Bool)
    (fun x y => List.rec (List.rec (some true) (fun _ _ _ => none) y) (fun _ _ _ => none) x)
    (fun m _ ih x y => List.rec none (fun a x _ => List.rec none (fun b y _ =>
      Option.rec (ih x y) (fun pk => obind (primEq cf pk a b) fun r => bcond r (ih x y) (obind (ih x y) fun _ => some false)) m) y) x) ms
noncomputable def eqV (cf : Cf) (e : EqS) (x y : AV) : Option Bool :=
  match e with
  | .prim pk => primEq cf pk x y
  | .cells m => x.aggV none fun a => y.aggV none fun b => cellsEq cf m a b
  | .ptr => match x, y with
    | .nilp, .nilp => some true
    | .nilp, .ptr _ _ => some false
    | .ptr _ _, .nilp => some false
    | .ptr a i, .ptr b j => bcond (Key.beq a b) (some (Nat.beq i j)) none
    | _, _ => none
  | .slice => match x, y with
    | .nils, .nils => some true
    | .nils, .sli .. => some false
    | .sli .., .nils => some false
    | .nils, .esl => some false
    | .esl, .nils => some false
    | _, _ => none
  | .map => match x, y with
    | .nilm, .nilm => some true
    | .nilm, .map _ => some false
    | .map _, .nilm => some false
    | _, _ => none
  | .func => match x, y with
    | .nilf, .nilf => some true
    | .nilf, .fn .. => some false
    | .fn .., .nilf => some false
    | _, _ => none
  | .iface n => match x, y with
    | .nili, .nili => bcond n (some true) none
    | .nili, .ifc .. => some false
    | .ifc .., .nili => some false
    | .ifc t a, .ifc u b => bcond (Nat.beq t u) (obind (cf.prim t) fun pk => primEq cf pk a b) (some false)
    | _, _ => none
  | .none => none
noncomputable def binV (cf : Cf) (op : BinOp) (e : EqS) (x y : AV) : Option AV :=
  match x, y with
  | .int k a, .int l b => match op with
    | .shr => binI .shr k a b
    | op => bcond (kindEq k l) (binI op k a b) none
  | .str a b, .str c d => binS op a b c d
  | x, y => match op with
    | .eql => obind (eqV cf e x y) fun b => some (.bool b)
    | .neq => obind (eqV cf e x y) fun b => some (.bool (bcond b false true))
    | op => cf.hb op x y
noncomputable def unV (op : UnOp) (x : AV) : Option AV :=
  match op with
  | .neg => x.intV none fun k n => mkInt k (Int.sub 0 n) some
  | .not => x.boolV none fun b => some (.bool (bcond b false true))
  | _ => none

/-! ## composite values, maps, slices -/
noncomputable def fillV (l : List (Nat × Nat × Opd)) (e : Env) : List AV → Option (List AV) :=
  List.rec (motive := fun _ => List AV → Option (List AV)) (fun c => some c)
    (fun p _ ih c =>
      obind (p.2.2.ev e).cells fun vs =>
      bcond (Nat.beq (lenL vs) p.2.1) (obind (setL vs c p.1) ih) none) l
noncomputable def bnd (x : Option Opd) (e : Env) (d top : Nat) : Option Nat :=
  Option.rec (some d) (fun o => (o.ev e).natV none fun n => bcond (Nat.ble n top) (some n) none) x
noncomputable def lookE (cf : Cf) (pk : PK) (k : AV) (es : List (AV × AV × Nat)) : Option (Option AV) :=
  List.rec (some none) (fun p _ ih => obind (primEq cf pk k p.1) fun b => bcond b (some (some p.2.1)) ih) es
noncomputable def putE (cf : Cf) (pk : PK) (k v : AV) (es : List (AV × AV × Nat)) : List (AV × AV × Nat) :=
  List.rec [] (fun p l ih => Option.rec (p :: ih) (fun b => bcond b ((k, v, p.2.2) :: l) (p :: ih)) (primEq cf pk k p.1)) es
noncomputable def delE (cf : Cf) (pk : PK) (k : AV) (es : List (AV × AV × Nat)) : List (AV × AV × Nat) :=
  List.rec [] (fun p l ih => Option.rec (p :: ih) (fun b => bcond b l (p :: ih)) (primEq cf pk k p.1)) es
noncomputable def snocE (es : List (AV × AV × Nat)) (x : AV × AV × Nat) : List (AV × AV × Nat) := List.rec [x] (fun p _ ih => p :: ih) es
noncomputable def lenE (es : List (AV × AV × Nat)) : Nat := List.rec 0 (fun _ _ ih => Nat.add ih 1) es
noncomputable def St.map (σ : St) (b : Key) : Option (List (AV × AV × Nat) × Nat) := obind (σ.heap.get b) fun x => match x with | .map es c => some (es, c) | _ => none
noncomputable def mapOf (σ : St) (m : AV) : Option (List (AV × AV × Nat)) :=
  match m with | .nilm => some [] | .map b => obind (σ.map b) fun p => some p.1 | _ => none
noncomputable def lenV (σ : St) (x : AV) : Option Nat :=
  match x with
  | .nils => some 0 | .esl => some 0 | .sli _ _ n _ => some n | .str n _ => some n | .nilm => some 0
  | .map b => obind (σ.map b) fun p => some (lenE p.1)
  | _ => none
/-- the cells of the first n elements -/
noncomputable def elems (σ : St) (esz : Nat) (x : AV) (n : Nat) : Option (List AV) :=
  match x with
  | .nils => some [] | .esl => some []
  | .sli b off _ _ => bcond (Nat.beq n 0) (some []) (σ.loadN b off (Nat.mul n esz))
  | .str len s => bcond (Nat.beq esz 1) (some (strBytes len s n 0)) none
  | _ => none
noncomputable def appTo (σ : St) (ty esz bytes : Nat) (x : AV) (n : Nat) (new : List AV) : Option (AV × St) :=
  bcond (Nat.beq n 0) (match x with | .nils => some (x, σ) | .esl => some (x, σ) | .sli _ _ len cap => Cap.rec (fun c => bcond (Nat.ble len c) (some (x, σ)) none) (fun _ => some (x, σ)) cap | _ => none) <|
  match x with
  | .nils => bcond (Nat.ble (Nat.mul n bytes) 1000000000) (bcond (Nat.ble n 1000000000) (some (.sli σ.next 0 n (.op esz), σ.new (.cells ty new))) none) none
  | .sli b off len cap => natK (Nat.add len n) fun ln => bcond (Nat.ble (Nat.mul ln bytes) 1000000000) (bcond (Nat.ble ln 1000000000) (match cap with
    | .ex c => bcond (Nat.ble ln c)
        (obind (σ.storeN b (Nat.add off (Nat.mul len esz)) new) fun σ => some (.sli b off ln (.ex c), σ))
        (obind (elems σ esz x len) fun old => some (.sli σ.next 0 ln (.op esz), σ.new (.cells ty (appL old new))))
    | .op z => bcond (Nat.beq z esz)
        (obind (σ.cells b) fun p =>
          bcond (Nat.beq (Nat.add off (Nat.mul len esz)) (lenL p.2))
            (bcond (Nat.beq p.1 ty) (bcond (Nat.beq (Nat.mod off esz) 0) (obind (σ.loadN b off (Nat.mul len esz)) fun old =>
              let σ := σ.kill b
              some (.sli σ.next 0 ln (.op esz), σ.new (.cells ty (appL old new)))) none) none)
            (obind (σ.storeN b (Nat.add off (Nat.mul len esz)) new) fun σ => some (.sli b off ln (.op esz), σ))) none) none) none
  | _ => none

/-! ## operations -/
noncomputable def callV (cf : Cf) (g : AV) (args : List AV) (σ : St) : OR :=
  match g with
  | .fn f first cap => (cf.call f (appL first (appL args cap)) σ).or
  | .yld l => (cf.yld l args σ).or
  | _ => .bad
noncomputable def findByte (len n c : Nat) (k : Nat) : Nat → Int :=
  Nat.rec (motive := fun _ => Nat → Int) (fun _ => Int.negSucc 0) (fun _ ih i => bcond (Nat.beq (strAt len n i) c) (Int.ofNat i) (ih (Nat.add i 1))) k
noncomputable def countByte (len n c : Nat) (k : Nat) : Nat → Nat → Nat :=
  Nat.rec (motive := fun _ => Nat → Nat → Nat) (fun _ a => a) (fun _ ih i a => ih (Nat.add i 1) (bcond (Nat.beq (strAt len n i) c) (Nat.add a 1) a)) k
noncomputable def extV (name : Nat) (args : List AV) : Option AV :=
  match name, args with
  | 0, [x] => some x
  | 1, [.str len n, .int .u8 (Int.ofNat c)] => bcond (Nat.blt c 256) (intK (findByte len n c len 0) fun i => some (.int .i64 i)) none
  | 2, [.str len n, .int .u8 (Int.ofNat c)] => bcond (Nat.blt c 256) (natK (countByte len n c len 0 0) fun i => some (.int .i64 (Int.ofNat i))) none
  | _, _ => none

namespace A
noncomputable def mov (x : Opd) (_ : Cf) (e : Env) (σ : St) : OR := .val (x.ev e) σ
noncomputable def pick (c a b : Opd) (_ : Cf) (e : Env) (σ : St) : OR := (c.ev e).boolV .bad fun t => .val (bcond t (a.ev e) (b.ev e)) σ
noncomputable def alloc (ty : Nat) (z : List AV) (_ : Cf) (_ : Env) (σ : St) : OR := .val (.ptr σ.next 0) (σ.new (.cells ty z))
noncomputable def box (ty : Nat) (x : Opd) (_ : Cf) (e : Env) (σ : St) : OR := Option.rec .bad (fun c => .val (.ptr σ.next 0) (σ.new (.cells ty c))) (x.ev e).cells
noncomputable def build (z : List AV) (ps : List (Nat × Nat × Opd)) (_ : Cf) (e : Env) (σ : St) : OR := OR.ofV (obind (fillV ps e z) fun c => some (.agg c)) σ
noncomputable def buildS (ty _esz len : Nat) (z : List AV) (ps : List (Nat × Nat × Opd)) (_ : Cf) (e : Env) (σ : St) : OR :=
  Option.rec .bad (fun c => .val (.sli σ.next 0 len (.ex len)) (σ.new (.cells ty c))) (fillV ps e z)
noncomputable def load (a : Opd) (_ : Cf) (e : Env) (σ : St) : OR :=
  match a with
  | .c (.glob _) => .val .any σ
  | a => (a.ev e).ptrK .bad fun b off => OR.ofV (σ.load b off) σ
noncomputable def loadN (n : Nat) (a : Opd) (_ : Cf) (e : Env) (σ : St) : OR :=
  (a.ev e).ptrK .bad fun b off => OR.ofV (obind (σ.loadN b off n) fun l => some (.agg l)) σ
noncomputable def store (n : Nat) (a x : Opd) (_ : Cf) (e : Env) (σ : St) : OR :=
  (a.ev e).ptrK .bad fun b off =>
    Option.rec .bad (fun cs => bcond (Nat.beq (lenL cs) n) (OR.ofVS (.tup []) (σ.storeN b off cs)) .bad) (x.ev e).cells
noncomputable def nilchk (x : Opd) (_ : Cf) (e : Env) (σ : St) : OR :=
  match x.ev e with
  | .ptr b o => .val (.ptr b o) σ
  | .fn f a b => .val (.fn f a b) σ
  | .ifc t v => .val (.ifc t v) σ
  | _ => .bad
noncomputable def bin (op : BinOp) (s : EqS) (x y : Opd) (cf : Cf) (e : Env) (σ : St) : OR := OR.ofV (binV cf op s (x.ev e) (y.ev e)) σ
noncomputable def un (op : UnOp) (x : Opd) (_ : Cf) (e : Env) (σ : St) : OR := OR.ofV (unV op (x.ev e)) σ
noncomputable def cint (k : IntKind) (x : Opd) (cf : Cf) (e : Env) (σ : St) : OR :=
  match x.ev e with
  | .int _ n => mkInt k n fun v => .val v σ
  | v => OR.ofV (cf.hc k v) σ
noncomputable def cid (x : Opd) (_ : Cf) (e : Env) (σ : St) : OR := (x.ev e).strV .bad fun l n => .val (.str l n) σ
noncomputable def cI2s (x : Opd) (_ : Cf) (e : Env) (σ : St) : OR := (x.ev e).natV .bad fun n => bcond (Nat.blt n 128) (.val (.str 1 n) σ) .bad
noncomputable def cS2b (ty : Nat) (x : Opd) (_ : Cf) (e : Env) (σ : St) : OR :=
  (x.ev e).strV .bad fun len n => .val (.sli σ.next 0 len (.op 1)) (σ.new (.cells ty (strBytes len n len 0)))
noncomputable def cB2s (x : Opd) (_ : Cf) (e : Env) (σ : St) : OR :=
  match x.ev e with
  | .nils => .val (.str 0 0) σ
  | .sli b off len _ => OR.ofV (obind (σ.loadN b off len) fun l => obind (bytesStr l 0) fun n => some (.str len n)) σ
  | _ => .bad
noncomputable def cP2u (_n : Nat) (x : Opd) (_ : Cf) (e : Env) (σ : St) : OR :=
  match x.ev e with | .nilp => .val .nilp σ | .ptr b off => Option.rec .bad (fun p => bcond (Nat.blt off (lenL p.2)) (.val (.ptr b off) σ) .bad) (σ.cells b) | _ => .bad
noncomputable def cU2p (ty n : Nat) (x : Opd) (_ : Cf) (e : Env) (σ : St) : OR :=
  match x.ev e with
  | .nilp => .val .nilp σ
  | .ptr b off => Option.rec .bad (fun p => bcond (Nat.beq p.1 ty) (bcond (Nat.beq off 0) (bcond (Nat.beq (lenL p.2) n) (.val (.ptr b off) σ) .bad) .bad) .bad) (σ.cells b)
  | _ => .bad
noncomputable def mkIfc (t : Nat) (x : Opd) (_ : Cf) (e : Env) (σ : St) : OR := .val (.ifc t (x.ev e)) σ
noncomputable def mkFn (f : Nat) (a b : List Opd) (_ : Cf) (e : Env) (σ : St) : OR := .val (.fn f (evL a e) (evL b e)) σ
noncomputable def mkMap (_ : Cf) (_ : Env) (σ : St) : OR := .val (.map σ.next) (σ.new (.map [] 0))
noncomputable def mkS (ty _esz bytes : Nat) (z : List AV) (l c : Opd) (_ : Cf) (e : Env) (σ : St) : OR :=
  (l.ev e).natV .bad fun l => (c.ev e).natV .bad fun c => bcond (Nat.ble l c) (bcond (Nat.ble (Nat.mul c bytes) 1000000000) (bcond (Nat.ble c 1000000000)
    (.val (.sli σ.next 0 l (.ex c)) (σ.new (.cells ty (repL c z)))) .bad) .bad) .bad
noncomputable def sliS (x : Opd) (lo hi : Option Opd) (_ : Cf) (e : Env) (σ : St) : OR :=
  (x.ev e).strV .bad fun len n => OR.ofV (obind (bnd hi e len len) fun h => obind (bnd lo e 0 h) fun l =>
    natK (Nat.sub h l) fun k => natK (strSub len n l h) fun m => some (.str k m)) σ
noncomputable def sliAt (b : Key) (off esz l h m : Nat) : AV :=
  bcond (Nat.beq m l) (.sli b off (Nat.sub h l) (.ex (Nat.sub m l))) (natK (Nat.add off (Nat.mul l esz)) fun o => natK (Nat.sub h l) fun k => .sli b o k (.ex (Nat.sub m l)))
noncomputable def sli (esz : Nat) (x : Opd) (lo hi mx : Option Opd) (_ : Cf) (e : Env) (σ : St) : OR :=
  match x.ev e with
  | .nils => OR.ofV (obind (bnd mx e 0 0) fun m => obind (bnd hi e 0 m) fun h => obind (bnd lo e 0 h) fun _ => some .nils) σ
  | .sli b off len cap => match cap with
    | .ex c => OR.ofV (obind (bnd mx e c c) fun m => obind (bnd hi e len m) fun h => obind (bnd lo e 0 h) fun l => some (sliAt b off esz l h m)) σ
    | .op z => Option.rec
      (bcond (Nat.beq z esz)
        (OR.ofV (obind (Option.rec (some len) (fun _ => obind (σ.cells b) fun p => some (Nat.div (Nat.sub (lenL p.2) off) esz)) hi) fun top =>
          obind (bnd hi e len top) fun h => obind (bnd lo e 0 h) fun l =>
          bcond (Nat.beq l 0) (some (.sli b off h (.op esz)))
            (bcond (Nat.blt l (bcond (Nat.ble len h) h len)) (natK (Nat.add off (Nat.mul l esz)) fun o => natK (Nat.sub h l) fun k => some (.sli b o k (.op esz)))
              (some .esl))) σ) .bad)
      (fun _ => OR.ofV (obind (bnd mx e 0 len) fun m => obind (bnd hi e len m) fun h => obind (bnd lo e 0 h) fun l => some (sliAt b off esz l h m)) σ) mx
  | _ => .bad
noncomputable def sliA (n esz : Nat) (x : Opd) (lo hi mx : Option Opd) (_ : Cf) (e : Env) (σ : St) : OR :=
  (x.ev e).ptrK .bad fun b off => OR.ofV (obind (bnd mx e n n) fun m => obind (bnd hi e n m) fun h => obind (bnd lo e 0 h) fun l => some (sliAt b off esz l h m)) σ
noncomputable def fldA (off : Nat) (x : Opd) (_ : Cf) (e : Env) (σ : St) : OR := (x.ev e).ptrK .bad fun b o => natK (Nat.add o off) fun o => .val (.ptr b o) σ
noncomputable def fld (off : Nat) (x : Opd) (_ : Cf) (e : Env) (σ : St) : OR := (x.ev e).aggV .bad fun l => OR.ofV (nthL l off) σ
noncomputable def fldN (off n : Nat) (x : Opd) (_ : Cf) (e : Env) (σ : St) : OR := (x.ev e).aggV .bad fun l => OR.ofV (obind (takeL n (dropL l off)) fun l => some (.agg l)) σ
noncomputable def ixA (esz : Nat) (x i : Opd) (_ : Cf) (e : Env) (σ : St) : OR :=
  match x.ev e with
  | .sli b off len _ => (i.ev e).natV .bad fun i => bcond (Nat.blt i len) (natK (Nat.add off (Nat.mul i esz)) fun o => .val (.ptr b o) σ) .bad
  | _ => .bad
noncomputable def ixAA (n esz : Nat) (x i : Opd) (_ : Cf) (e : Env) (σ : St) : OR :=
  (x.ev e).ptrK .bad fun b off => (i.ev e).natV .bad fun i => bcond (Nat.blt i n) (natK (Nat.add off (Nat.mul i esz)) fun o => .val (.ptr b o) σ) .bad
noncomputable def ix (n esz : Nat) (ag : Bool) (x i : Opd) (_ : Cf) (e : Env) (σ : St) : OR :=
  (x.ev e).aggV .bad fun l => (i.ev e).natV .bad fun i => bcond (Nat.blt i n)
    (bcond ag (OR.ofV (obind (takeL esz (dropL l (Nat.mul i esz))) fun l => some (.agg l)) σ) (OR.ofV (nthL l (Nat.mul i esz)) σ)) .bad
noncomputable def ixS (x i : Opd) (_ : Cf) (e : Env) (σ : St) : OR :=
  (x.ev e).strV .bad fun len n => (i.ev e).natV .bad fun i => bcond (Nat.blt i len) (natK (strAt len n i) fun c => .val (.int .u8 (Int.ofNat c)) σ) .bad
noncomputable def look (pk : PK) (z : AV) (m k : Opd) (ok : Bool) (cf : Cf) (e : Env) (σ : St) : OR :=
  OR.ofV (obind (mapOf σ (m.ev e)) fun es => obind (lookE cf pk (k.ev e) es) fun r =>
    some (Option.rec (bcond ok (.tup [z, .bool false]) z) (fun v => bcond ok (.tup [v, .bool true]) v) r)) σ
noncomputable def mapUp (pk : PK) (m k x : Opd) (cf : Cf) (e : Env) (σ : St) : OR :=
  match m.ev e with
  | .map b => Option.rec .bad (fun p => Option.rec .bad (fun r =>
      .val (.tup []) (σ.put b (Option.rec (.map (snocE p.1 (k.ev e, x.ev e, p.2)) (Nat.add p.2 1)) (fun _ => .map (putE cf pk (k.ev e) (x.ev e) p.1) p.2) r)))
      (lookE cf pk (k.ev e) p.1)) (σ.map b)
  | _ => .bad
noncomputable def range (x : Opd) (_ : Cf) (e : Env) (σ : St) : OR :=
  match x.ev e with
  | .nilm => .val (.ptr σ.next 0) (σ.new (.mIter none 0))
  | .map b => Option.rec .bad (fun p => .val (.ptr σ.next 0) (σ.new (.mIter (some b) p.2))) (σ.map b)
  | _ => .bad
noncomputable def rangeS (x : Opd) (_ : Cf) (e : Env) (σ : St) : OR := (x.ev e).strV .bad fun len n => .val (.ptr σ.next 0) (σ.new (.sIter len n 0))
/-- a map without entries: the round is not begun -/
noncomputable def next (x : Opd) (_ : Cf) (e : Env) (σ : St) : OR :=
  (x.ev e).ptrK .bad fun k off => bcond (Nat.beq off 0) (Option.rec .bad (fun b => match b with
    | .mIter none _ => .val (.tup [.bool false]) σ
    | .mIter (some m) _ => Option.rec .bad (fun p => List.rec (.val (.tup [.bool false]) σ) (fun _ _ _ => .bad) p.1) (σ.map m)
    | _ => .bad) (σ.heap.get k)) .bad
noncomputable def nextS (x : Opd) (_ : Cf) (e : Env) (σ : St) : OR :=
  (x.ev e).ptrK .bad fun k off => bcond (Nat.beq off 0) (Option.rec .bad (fun b => match b with
    | .sIter len n pos => bcond (Nat.blt pos len)
        (natK (strAt len n pos) fun c => bcond (Nat.blt c 128)
          (natK (Nat.add pos 1) fun q => .val (.tup [.bool true, .int .i64 (Int.ofNat pos), .int .i32 (Int.ofNat c)]) (σ.put k (.sIter len n q))) .bad)
        (.val (.tup [.bool false]) σ)
    | _ => .bad) (σ.heap.get k)) .bad
noncomputable def entry (_x : Opd) (_ : Cf) (_e : Env) (_σ : St) : OR :=
  .bad
noncomputable def tasT (x : Opd) (t : Nat) (z : AV) (ok : Bool) (_ : Cf) (e : Env) (σ : St) : OR :=
  match x.ev e with
  | .ifc u w => bcond (Nat.beq u t) (.val (bcond ok (.tup [w, .bool true]) w) σ) (bcond ok (.val (.tup [z, .bool false]) σ) .bad)
  | .nili => bcond ok (.val (.tup [z, .bool false]) σ) .bad
  | _ => .bad
noncomputable def extr (x : Opd) (i : Nat) (_ : Cf) (e : Env) (σ : St) : OR := (x.ev e).tupV .bad fun l => OR.ofV (nthL l i) σ
noncomputable def call (f : Nat) (args : List Opd) (cf : Cf) (e : Env) (σ : St) : OR := (cf.call f (evL args e) σ).or
noncomputable def callW (g : Opd) (args : List Opd) (cf : Cf) (e : Env) (σ : St) : OR := callV cf (g.ev e) (evL args e) σ
noncomputable def len (k : LK) (x : Opd) (_ : Cf) (e : Env) (σ : St) : OR :=
  match k with
  | .sl => (match x.ev e with | .nils => .val (.int .i64 (Int.ofNat 0)) σ | .esl => .val (.int .i64 (Int.ofNat 0)) σ | .sli _ _ n _ => .val (.int .i64 (Int.ofNat n)) σ | _ => .bad)
  | .st => (match x.ev e with | .str n _ => .val (.int .i64 (Int.ofNat n)) σ | _ => .bad)
  | .mp => OR.ofV (obind (mapOf σ (x.ev e)) fun es => natK (lenE es) fun n => some (.int .i64 (Int.ofNat n))) σ
noncomputable def lenA (n : Nat) (_ : Cf) (_ : Env) (σ : St) : OR := .val (.int .i64 (Int.ofNat n)) σ
noncomputable def cap (x : Opd) (_ : Cf) (e : Env) (σ : St) : OR :=
  match x.ev e with | .nils => .val (.int .i64 0) σ | .sli _ _ _ (.ex c) => .val (.int .i64 (Int.ofNat c)) σ | _ => .bad
noncomputable def append (ty esz bytes : Nat) (x y : Opd) (_ : Cf) (e : Env) (σ : St) : OR :=
  OR.ofP (obind (lenV σ (y.ev e)) fun n => obind (elems σ esz (y.ev e) n) fun new => appTo σ ty esz bytes (x.ev e) n new)
noncomputable def appendZ (ty esz bytes : Nat) (z : List AV) (x y : Opd) (_ : Cf) (e : Env) (σ : St) : OR :=
  (y.ev e).natV .bad fun n => bcond (Nat.ble n 1000000) (OR.ofP (appTo σ ty esz bytes (x.ev e) n (repL n z))) .bad
noncomputable def sliLen (x : AV) : Option Nat := match x with | .nils => some 0 | .esl => some 0 | .sli _ _ n _ => some n | _ => none
noncomputable def copy (esz : Nat) (x y : Opd) (_ : Cf) (e : Env) (σ : St) : OR :=
  Option.rec .bad (fun a => Option.rec .bad (fun b => natK (bcond (Nat.ble a b) a b) fun n =>
    Option.rec .bad (fun cs => bcond (Nat.beq n 0) (.val (.int .i64 0) σ) (match x.ev e with
      | .sli d off _ _ => OR.ofVS (.int .i64 (Int.ofNat n)) (σ.storeN d off cs)
      | _ => .bad)) (elems σ esz (y.ev e) n)) (lenV σ (y.ev e))) (sliLen (x.ev e))
noncomputable def clear (z : List AV) (x : Opd) (_ : Cf) (e : Env) (σ : St) : OR :=
  match x.ev e with
  | .nils => .val (.tup []) σ
  | .esl => .val (.tup []) σ
  | .sli b off n _ => bcond (Nat.beq n 0) (.val (.tup []) σ) (OR.ofVS (.tup []) (σ.storeN b off (repL n z)))
  | _ => .bad
noncomputable def delete (pk : PK) (m k : Opd) (cf : Cf) (e : Env) (σ : St) : OR :=
  match m.ev e with
  | .nilm => .val (.tup []) σ
  | .map b => Option.rec .bad (fun p => Option.rec .bad (fun _ => .val (.tup []) (σ.put b (.map (delE cf pk (k.ev e) p.1) p.2))) (lookE cf pk (k.ev e) p.1)) (σ.map b)
  | _ => .bad
noncomputable def min (x y : Opd) (_ : Cf) (e : Env) (σ : St) : OR :=
  (x.ev e).intV .bad fun k a => (y.ev e).intV .bad fun _ b => .val (.int k (bcond (ltI b a) b a)) σ
noncomputable def min3 (x y z : Opd) (_ : Cf) (e : Env) (σ : St) : OR :=
  (x.ev e).intV .bad fun k a => (y.ev e).intV .bad fun _ b => (z.ev e).intV .bad fun _ c =>
    let m := bcond (ltI b a) b a
    .val (.int k (bcond (ltI c m) c m)) σ
noncomputable def max (x y : Opd) (_ : Cf) (e : Env) (σ : St) : OR :=
  (x.ev e).intV .bad fun k a => (y.ev e).intV .bad fun _ b => .val (.int k (bcond (ltI a b) b a)) σ
noncomputable def uSliceData (x : Opd) (_ : Cf) (e : Env) (σ : St) : OR :=
  match x.ev e with
  | .nils => .val .nilp σ
  | .sli b off n cap => Cap.rec (fun c => bcond (Nat.beq c 0) .bad (.val (.ptr b off) σ)) (fun _ => bcond (Nat.beq n 0) .bad (.val (.ptr b off) σ)) cap
  | _ => .bad
noncomputable def uString (ty : Nat) (x l : Opd) (_ : Cf) (e : Env) (σ : St) : OR :=
  (l.ev e).natV .bad fun n => bcond (Nat.ble n 1000000000) (bcond (Nat.beq n 0) (match x.ev e with | .nilp => .val (.str 0 0) σ | .ptr _ _ => .val (.str 0 0) σ | _ => .bad)
    ((x.ev e).ptrK .bad fun b off => Option.rec .bad (fun p => bcond (Nat.beq p.1 ty) (Option.rec .bad (fun l => Option.rec .bad (fun m => .val (.str n m) (σ.kill b)) (bytesStr l 0)) (σ.loadN b off n)) .bad) (σ.cells b))) .bad
noncomputable def defer (f : Opd) (args : List Opd) (_ : Cf) (e : Env) (σ : St) : OR := match f.ev e with | .fn g x y => .dfr (.fn g x y) (evL args e) σ | _ => .bad
noncomputable def panic (x : Opd) (_ : Cf) (e : Env) (σ : St) : OR := match x.ev e with | .ifc t w => .pan (.ifc t w) σ | _ => .bad
noncomputable def ext (name : Nat) (args : List Opd) (_ : Cf) (e : Env) (σ : St) : OR := OR.ofV (extV name (evL args e)) σ
noncomputable def bad (_ : Cf) (_ : Env) (_ : St) : OR := .bad
end A

noncomputable def opV (o : IOp) : Cf → Env → St → OR :=
  IOp.casesOn (motive := fun _ => Cf → Env → St → OR) o
    A.mov A.pick A.alloc A.box A.build A.buildS A.load A.loadN A.store A.nilchk A.bin A.un A.cint A.cid A.cI2s A.cS2b A.cB2s A.cP2u A.cU2p A.mkIfc A.mkFn
    A.mkMap A.mkS A.sliS A.sli A.sliA A.fldA A.fld A.fldN A.ixA A.ixAA A.ix A.ixS A.look A.mapUp A.range A.rangeS A.next A.nextS A.entry A.tasT A.extr
    A.call A.callW A.len A.lenA A.cap A.append A.appendZ A.copy A.clear A.delete A.min A.min3 A.max A.bad A.uSliceData A.uString A.defer A.panic A.ext A.bad

/-! ## code -/
inductive Want | yes | no | bad
noncomputable def wantV (g : Option (Key × Bool)) (e : Env) : Want :=
  Option.rec .yes (fun p => Option.rec .bad (fun v => match v with
    | .bool c => Bool.rec (bcond p.2 .no .yes) (bcond p.2 .yes .no) c
    | .tup [] => .no
    | _ => .bad) (e.get p.1)) g
noncomputable def putD (e : Env) (d : Option Key) (v : AV) : Env := Option.rec e (fun k => e.set (some v) k) d

def IOp.pans : IOp → Bool
  | .call .. | .callV .. | .panic .. => true
  | _ => false
def IOp.dfrs : IOp → Bool
  | .defer .. => true
  | _ => false
noncomputable def stepO (cf : Cf) (o : OpI) (ih : Env → List Dfr → St → Res) (e : Env) (d : List Dfr) (σ : St) : Res :=
  Want.rec (OR.rec .bad (fun v σ => ih (putD e o.dst v) d σ) (fun f a σ => bcond o.op.dfrs (ih (putD e o.dst (.tup [])) ((f, a) :: d) σ) .bad) (fun v σ => bcond o.op.pans (.mk (.pan v) e d σ) .bad) (opV o.op cf e σ))
    (ih (putD e o.dst (.tup [])) d σ) .bad (wantV o.guard e)
noncomputable def evOps (cf : Cf) (l : List OpI) : Env → List Dfr → St → Res :=
  List.rec (motive := fun _ => Env → List Dfr → St → Res) (fun e d σ => .mk .norm e d σ) (fun o _ ih => stepO cf o ih) l

noncomputable def capEq (a b : Cap) : Bool := match a, b with | .ex x, .ex y => Nat.beq x y | .op x, .op y => Nat.beq x y | _, _ => false
mutual
noncomputable def AV.beq : AV → AV → Bool
  | .any, .any => true
  | .top, .top => true
  | .sym a, .sym b => Nat.beq a b
  | .ne, .ne => true
  | .bool a, .bool b => bcond a b (bcond b false true)
  | .int k a, .int l b => bcond (kindEq k l) (eqI a b) false
  | .str a b, .str c d => bcond (Nat.beq a c) (Nat.beq b d) false
  | .nilp, .nilp | .nils, .nils | .esl, .esl | .nilm, .nilm | .nilf, .nilf | .nili, .nili => true
  | .ptr a b, .ptr c d => bcond (Key.beq a c) (Nat.beq b d) false
  | .sli a b c d, .sli e f g h => bcond (Key.beq a e) (bcond (Nat.beq b f) (bcond (Nat.beq c g) (capEq d h) false) false) false
  | .map a, .map b => Key.beq a b
  | .fn f a b, .fn g c d => bcond (Nat.beq f g) (bcond (AV.beqL a c) (AV.beqL b d) false) false
  | .ifc t a, .ifc u b => bcond (Nat.beq t u) (AV.beq a b) false
  | .agg a, .agg b => AV.beqL a b
  | .tup a, .tup b => AV.beqL a b
  | .yld a, .yld b => Key.beq a b
  | .glob a, .glob b => Nat.beq a b
  | _, _ => false
noncomputable def AV.beqL : List AV → List AV → Bool
  | [], [] => true
  | a :: x, b :: y => bcond (AV.beq a b) (AV.beqL x y) false
  | _, _ => false
end

/-- the op gives the same at the n last heaps -/
noncomputable def recheck (cf : Cf) (o : IOp) (e : Env) (v : AV) (n : Nat) : List St → Bool :=
  Nat.rec (motive := fun _ => List St → Bool) (fun _ => true)
    (fun _ ih l => List.rec false (fun σ l _ => OR.rec false (fun w _ => bcond (AV.beq v w) (ih l) false) (fun _ _ _ => false) (fun _ _ => false) (opV o cf e σ)) l) n
/-- a drawn region under way, in its canonical order: the temporaries, the heap, the next key that is set aside, how many turners there were, the heaps before them -/
structure DT where
  e : Env
  σ : St
  res : Key
  stage : Nat
  snaps : List St
noncomputable def DK.chg (k : DK) : Bool := DK.rec true false false true k
noncomputable def dstep (cf : Cf) (o : DOp) (t : DT) : Option DT :=
  Want.rec
    (DK.rec
      (OR.rec none (fun v σ => some ⟨putD t.e o.o.dst v, σ, t.res, Nat.add t.stage 1, t.σ :: t.snaps⟩) (fun _ _ _ => none) (fun _ _ => none) (opV o.o.op cf t.e t.σ))
      (OR.rec none (fun v _ => bcond (recheck cf o.o.op t.e v (Nat.sub t.stage o.lo) t.snaps) (some ⟨putD t.e o.o.dst v, t.σ, t.res, t.stage, t.snaps⟩) none) (fun _ _ _ => none) (fun _ _ => none) (opV o.o.op cf t.e t.σ))
      (OR.rec none (fun v _ => some ⟨putD t.e o.o.dst v, t.σ, t.res, t.stage, t.snaps⟩) (fun _ _ _ => none) (fun _ _ => none) (opV o.o.op cf t.e t.σ))
      (OR.rec none (fun v σ => some ⟨putD t.e o.o.dst v, ⟨σ.heap, t.σ.next⟩, t.res.succ, Nat.add t.stage 1, t.σ :: t.snaps⟩) (fun _ _ _ => none) (fun _ _ => none) (opV o.o.op cf t.e ⟨t.σ.heap, t.res⟩))
      o.k)
    (some ⟨putD t.e o.o.dst (.tup []), t.σ, t.res, bcond o.k.chg (Nat.add t.stage 1) t.stage, bcond o.k.chg (t.σ :: t.snaps) t.snaps⟩)
    none (wantV o.o.guard t.e)
noncomputable def evD (cf : Cf) (l : List DOp) : DT → Option DT :=
  List.rec (motive := fun _ => DT → Option DT) (fun t => some t) (fun o _ ih t => obind (dstep cf o t) ih) l
noncomputable def evDOps (cf : Cf) (na : Nat) (l : List DOp) (e : Env) (d : List Dfr) (σ : St) : Res :=
  Option.rec .bad (fun t => .mk .norm t.e d t.σ) (evD cf l ⟨e, ⟨σ.heap, Nat.rec σ.next (fun _ k => k.succ) na⟩, σ.next, 0, []⟩)

noncomputable def loopN (f : Env → List Dfr → St → Res) (n : Nat) : Env → List Dfr → St → Res :=
  Nat.rec (motive := fun _ => Env → List Dfr → St → Res) (fun _ _ _ => .bad)
    (fun _ ih e d σ => Res.rec .bad (fun x e d σ => Ex.rec (ih e d σ) (fun i => .mk (.exit i) e d σ) (.mk .ret e d σ) (fun v => .mk (.pan v) e d σ) x) (f e d σ)) n

namespace C
noncomputable def skip (e : Env) (d : List Dfr) (σ : St) : Res := .mk .norm e d σ
noncomputable def seq (f g : Env → List Dfr → St → Res) (e : Env) (d : List Dfr) (σ : St) : Res :=
  Res.rec .bad (fun x e d σ => Ex.rec (g e d σ) (fun i => .mk (.exit i) e d σ) (.mk .ret e d σ) (fun v => .mk (.pan v) e d σ) x) (f e d σ)
noncomputable def cond (c : Opd) (f g : Env → List Dfr → St → Res) (e : Env) (d : List Dfr) (σ : St) : Res :=
  (c.ev e).boolV .bad fun b => Bool.rec (g e d σ) (f e d σ) b
noncomputable def block (id : Nat) (f : Env → List Dfr → St → Res) (e : Env) (d : List Dfr) (σ : St) : Res :=
  Res.rec .bad (fun x e d σ => Ex.rec (.mk .norm e d σ) (fun i => bcond (Nat.beq i id) (.mk .norm e d σ) (.mk (.exit i) e d σ)) (.mk .ret e d σ) (fun v => .mk (.pan v) e d σ) x) (f e d σ)
noncomputable def exit (id : Nat) (e : Env) (d : List Dfr) (σ : St) : Res := .mk (.exit id) e d σ
noncomputable def ret (e : Env) (d : List Dfr) (σ : St) : Res := .mk .ret e d σ
noncomputable def bad (_ : Env) (_ : List Dfr) (_ : St) : Res := .bad
/-- the statement 'for .. range f' -/
noncomputable def rangeF (cf : Cf) (f : Opd) (ps : List Key) (as b : IC) (e : Env) (d : List Dfr) (σ : St) : Res :=
  let l := σ.next
  let σ := σ.new (.loop 0 .skip e ps as b)
  CR.rec .bad (fun _ σ => Option.rec .bad (fun x => match x with
      | .loop st pend _ _ _ _ => bcond (Nat.beq st 1) .bad
          (let σ := σ.kill l
           match pend with
           | .skip => .mk .norm e d σ
           | .ret => .mk .ret e d σ
           | .exit i => .mk (.exit i) e d σ
           | _ => .bad)
      | _ => .bad) (σ.heap.get l))
    (fun _ _ => .bad)
    (match f.ev e with | .fn g first cap => cf.call g (appL first (.yld l :: cap)) σ | _ => .bad)
end C

/-! a range over a map: every round is evaluated from the same start; at most one leaves the loop; the others leave nothing behind that is spoken of -/
noncomputable def keepE (ks : List Key) (e : Env) : Env := List.rec .lf (fun k _ ih => Tr.set (e.get k) k ih) ks
noncomputable def sameE (ks : List Key) (e e' : Env) : Bool :=
  List.rec true (fun k _ ih => Option.rec ih (fun v => Option.rec false (fun v' => bcond (AV.beq v v') ih false) (e'.get k)) (e.get k)) ks
noncomputable def bornsOk (since : Nat) (es : List (AV × AV × Nat)) : Nat → Bool :=
  List.rec (motive := fun _ => Nat → Bool) (fun lb => Nat.ble lb since) (fun p _ ih lb => bcond (Nat.ble lb p.2.2) (ih (Nat.add p.2.2 1)) false) es
noncomputable def normR (keep : List Key) (e0 : Env) (r : Res) : Bool :=
  Res.rec false (fun x e' d' _ => List.rec (Ex.rec (sameE keep e0 e') (fun _ => false) false (fun _ => false) x) (fun _ _ _ => false) d') r
noncomputable def outR (r : Res) : Bool := Res.rec false (fun x _ _ _ => Ex.rec false (fun _ => true) true (fun _ => true) x) r
noncomputable def mEnv (tn tx te : Key) (e0 : Env) (p : AV × AV × Nat) : Env :=
  ((e0.set (some (.tup [.bool true, p.1, p.2.1])) tn).set (some (.bool true)) tx).set (some (.tup [p.1, p.2.1])) te
noncomputable def mrounds (f : Env → List Dfr → St → Res) (keep : List Key) (tn tx te : Key) (e0 : Env) (σ : St) (es : List (AV × AV × Nat)) : Option Res → Option (Option Res) :=
  List.rec (motive := fun _ => Option Res → Option (Option Res)) (fun r => some r)
    (fun p _ ih r => bcond (normR keep e0 (f (mEnv tn tx te e0 p) [] ⟨.lf, σ.next⟩)) (ih r)
      (Option.rec (bcond (outR (f (mEnv tn tx te e0 p) [] σ)) (ih (some (f (mEnv tn tx te e0 p) [] σ))) none) (fun _ => none) r)) es
noncomputable def mloopAt (f : Env → List Dfr → St → Res) (keep : List Key) (tn tx te : Key) (id : Nat) (e0 : Env) (σ : St) (k : Key) : Res :=
  Option.rec .bad (fun b => match b with
    | .mIter (some m) since => Option.rec .bad (fun p => bcond (Nat.beq p.2 since) (bcond (bornsOk since p.1 0)
        (Option.rec .bad (fun r => Option.rec (.mk (.exit id) ((e0.set (some (.tup [.bool false])) tn).set (some (.bool false)) tx) [] (σ.kill k)) (fun r => r) r) (mrounds f keep tn tx te e0 (σ.kill k) p.1 none)) .bad) .bad) (σ.map m)
    | _ => .bad) (σ.heap.get k)
noncomputable def C.mloop (it tn tx te : Key) (keep : List Key) (id : Nat) (f : Env → List Dfr → St → Res) (e : Env) (d : List Dfr) (σ : St) : Res :=
  List.rec (Option.rec .bad (fun v => v.ptrK .bad fun k off => bcond (Nat.beq off 0) (mloopAt f keep tn tx te id (keepE keep e) σ k) .bad) ((keepE keep e).get it)) (fun _ _ _ => .bad) d

noncomputable def evCode (cf : Cf) (fuel : Nat) (c : IC) : Env → List Dfr → St → Res :=
  IC.rec (motive := fun _ => Env → List Dfr → St → Res)
    C.skip (fun ops => evOps cf ops) (fun na ops => evDOps cf na ops) (fun _ _ f g => C.seq f g) (fun c _ _ f g => C.cond c f g)
    (fun id _ f => C.block id f) (fun _ f => loopN f fuel) (fun it tn tx te keep id _ f => C.mloop it tn tx te keep id f) (fun f ps as b _ _ => C.rangeF cf f ps as b) C.exit (fun _ f => f) C.ret C.bad c

noncomputable def bindP (ks : List Key) : List AV → Env → Option Env :=
  List.rec (motive := fun _ => List AV → Env → Option Env) (fun vs e => List.rec (some e) (fun _ _ _ => none) vs)
    (fun k _ ih vs e => List.rec none (fun v vs _ => ih vs (e.set (some v) k)) vs) ks
noncomputable def resV (r : IRes) (e : Env) (σ : St) : Option AV :=
  match r with
  | .tmp k => e.get k
  | .cell k => obind (e.get k) fun v => v.ptrK none fun b off => σ.load b off
  | .cellN k n => obind (e.get k) fun v => v.ptrK none fun b off => obind (σ.loadN b off n) fun l => some (.agg l)
noncomputable def resL (rs : List IRes) (e : Env) (σ : St) : Option (List AV) :=
  List.rec (some []) (fun r _ ih => obind (resV r e σ) fun v => obind ih fun l => some (v :: l)) rs
noncomputable def resAll (rs : List IRes) (e : Env) (σ : St) : Option AV :=
  obind (resL rs e σ) fun l => match l with | [v] => some v | l => some (.tup l)

/-! deferred calls: recover answers what is under way -/
inductive RR
  | bad
  | mk (x : Ex) (e : Env) (σ : St) (p : Option AV)
def IOp.plain : IOp → Bool
  | .call .. | .callV .. | .recover | .defer .. | .panic .. => false
  | _ => true
noncomputable def IOp.isRec (o : IOp) : Bool := match o with | .recover => true | _ => false
noncomputable def stepR (cf : Cf) (o : OpI) (ih : Env → St → Option AV → RR) (e : Env) (σ : St) (p : Option AV) : RR :=
  Want.rec
    (bcond o.op.isRec (Option.rec (ih (putD e o.dst .nili) σ none) (fun v => ih (putD e o.dst v) σ none) p)
     (bcond o.op.plain (OR.rec .bad (fun v σ => ih (putD e o.dst v) σ p) (fun _ _ _ => .bad) (fun _ _ => .bad) (opV o.op cf e σ)) .bad))
    (ih (putD e o.dst (.tup [])) σ p) .bad (wantV o.guard e)
noncomputable def evOpsR (cf : Cf) (l : List OpI) : Env → St → Option AV → RR :=
  List.rec (motive := fun _ => Env → St → Option AV → RR) (fun e σ p => .mk .norm e σ p) (fun o _ ih => stepR cf o ih) l
noncomputable def hasRec (l : List OpI) : Bool := List.rec false (fun o _ ih => bcond o.op.isRec true ih) l
noncomputable def plainR (f : Env → List Dfr → St → Res) (e : Env) (σ : St) (p : Option AV) : RR :=
  Res.rec .bad (fun x e d σ => List.rec (.mk x e σ p) (fun _ _ _ => .bad) d) (f e [] σ)
noncomputable def seqR (f g : Env → St → Option AV → RR) (e : Env) (σ : St) (p : Option AV) : RR :=
  RR.rec .bad (fun x e σ p => Ex.rec (g e σ p) (fun i => .mk (.exit i) e σ p) (.mk .ret e σ p) (fun v => .mk (.pan v) e σ p) x) (f e σ p)
noncomputable def condR (c : Opd) (f g : Env → St → Option AV → RR) (e : Env) (σ : St) (p : Option AV) : RR :=
  (c.ev e).boolV .bad fun b => Bool.rec (g e σ p) (f e σ p) b
noncomputable def badR (_ : Env) (_ : St) (_ : Option AV) : RR := .bad
noncomputable def evRec (cf : Cf) (fuel : Nat) (c : IC) : Env → St → Option AV → RR :=
  IC.rec (motive := fun _ => Env → St → Option AV → RR)
    (plainR C.skip) (fun ops => bcond (hasRec ops) (evOpsR cf ops) (plainR (evOps cf ops))) (fun na ops => plainR (evDOps cf na ops)) (fun _ _ f g => seqR f g) (fun c _ _ f g => condR c f g)
    (fun id b _ => plainR (evCode cf fuel (.block id b))) (fun b _ => plainR (evCode cf fuel (.loop b))) (fun it tn tx te keep id b _ => plainR (evCode cf fuel (.mloop it tn tx te keep id b))) (fun _ _ _ _ _ _ => badR)
    (fun i => plainR (C.exit i)) (fun b _ => plainR (evCode cf fuel (.scope b))) (plainR C.ret) badR c

inductive DR | bad | mk (p : Option AV) (σ : St)
/-- one deferred call -/
noncomputable def dfrStep (tbl : Nat → Option IF) (cf : Cf) (fuel : Nat) (f : Nat) (args : List AV) (ih : Option AV → St → DR) (p : Option AV) (σ : St) : DR :=
  Option.rec .bad (fun fn => bcond fn.nd (Option.rec .bad (fun e =>
    RR.rec .bad (fun y e1 σ q => Ex.rec (Option.rec .bad (fun _ => ih q σ) (resAll fn.results e1 σ)) (fun _ => .bad) (Option.rec .bad (fun _ => ih q σ) (resAll fn.results e1 σ)) (fun v => Option.rec (ih (some v) σ) (fun _ => .bad) p) y) (evRec cf fuel fn.body e σ p))
    (bindP fn.params args .lf)) .bad) (tbl f)
noncomputable def evDfr (tbl : Nat → Option IF) (cf : Cf) (fuel : Nat) (ds : List Dfr) : Option AV → St → DR :=
  List.rec (motive := fun _ => Option AV → St → DR) (fun p σ => .mk p σ)
    (fun x _ ih p σ => match x.1 with
      | .fn f first cap => dfrStep tbl cf fuel f (appL first (appL x.2 cap)) ih p σ
      | _ => .bad) ds
noncomputable def leave (tbl : Nat → Option IF) (cf : Cf) (fuel : Nat) (fn : IF) (e : Env) (ds : List Dfr) (p : Option AV) (σ : St) : CR :=
  DR.rec .bad (fun p σ => Option.rec (Option.rec .bad (fun v => .val v σ) (resAll fn.results e σ)) (fun v => .pan v σ) p) (evDfr tbl cf fuel ds p σ)
noncomputable def evCallF (tbl : Nat → Option IF) (cf : Cf) (fuel : Nat) (f : Nat) (args : List AV) (σ : St) : CR :=
  Option.rec .bad (fun fn => Option.rec .bad (fun e =>
    Res.rec .bad (fun x e ds σ => Ex.rec (leave tbl cf fuel fn e ds none σ) (fun _ => .bad) (leave tbl cf fuel fn e ds none σ) (fun v => leave tbl cf fuel fn e ds (some v) σ) x)
      (evCode cf fuel fn.body e [] σ)) (bindP fn.params args .lf)) (tbl f)
noncomputable def evYld (cf : Cf) (fuel : Nat) (l : Key) (args : List AV) (σ : St) : CR :=
  Option.rec .bad (fun x => match x with
    | .loop 0 _ e ps as b => Option.rec .bad (fun e' =>
        Res.rec .bad (fun y e1 d1 σ1 => match y with
          | .norm => Option.rec .bad (fun x1 => match x1 with
              | .loop 0 pd e2 ps2 as2 b2 =>
                Res.rec .bad (fun y _ d σ => List.rec (Option.rec .bad (fun x2 => match x2 with
                  | .loop _ _ e ps as b => (match y with
                    | .norm => .val (.bool true) (σ.put l (.loop 0 .skip e ps as b))
                    | .ret => .val (.bool false) (σ.put l (.loop 2 .ret e ps as b))
                    | .exit i => .val (.bool false) (σ.put l (.loop 2 (.exit i) e ps as b))
                    | _ => .bad)
                  | _ => .bad) (σ.heap.get l)) (fun _ _ _ => .bad) d)
                  (evCode cf fuel b e1 d1 (σ1.put l (.loop 1 pd e2 ps2 as2 b2)))
              | _ => .bad) (σ1.heap.get l)
          | _ => .bad) (evCode cf fuel as e' [] σ))
        (bindP ps args e)
    | _ => .bad) (σ.heap.get l)
noncomputable def evAll (base : Cf) (tbl : Nat → Option IF) (sum : Nat → List AV → St → CR) (fuel : Nat) (n : Nat) : Cf :=
  Nat.rec { base with call := fun _ _ _ => .bad, yld := fun _ _ _ => .bad }
    (fun _ ih => { base with
      call := fun f args σ => CR.rec (evCallF tbl ih fuel f args σ) (fun v σ => .val v σ) (fun v σ => .pan v σ) (sum f args σ),
      yld := fun l args σ => evYld ih fuel l args σ }) n
end Go.Ev
namespace Go.Ev

def Key.s : Key → Key | .xH => .xO .xH | .xO p => .xI p | .xI p => .xO p.s
def Key.ofNat : Nat → Key
  | 0 => .xH
  | n + 1 => (Key.ofNat n).s

def strNat : List UInt8 → Nat → Nat
  | [], a => a
  | b :: l, a => strNat l (a * 256 + b.toNat)
def optL {α β : Type} (f : α → Option β) : List α → Option (List β)
  | [] => some []
  | a :: l => match f a, optL f l with
    | some b, some r => some (b :: r)
    | _, _ => none

def ofValN : Nat → Value → Option AV
  | 0, _ => none
  | n + 1, v => match v with
    | .bool b => some (.bool b)
    | .int k m => some (.int k m)
    | .string s => some (.str s.data.toList.length (strNat s.data.toList 0))
    | .pointer none => some .nilp
    | .slice none 0 0 => some .nils
    | .map none => some .nilm
    | .nilFunc => some .nilf
    | .nilIface => some .nili
    | .agg cs => match optL (ofValN n) cs.toList with | some l => if l.all AV.one then some (.agg l) else none | none => none
    | .tuple cs => match optL (ofValN n) cs.toList with | some l => some (.tup l) | none => none
    | .func (.func f) a b => match optL (ofValN n) a.toList, optL (ofValN n) b.toList with | some x, some y => some (.fn f x y) | _, _ => none
    | .iface t w => match ofValN n w with | some x => some (.ifc t x) | none => none
    | _ => none
def ofVal (v : Value) : Option AV := ofValN 8 v

section low
variable (p : Program)
def lOpd : Operand → Option Opd
  | .tmp t => some (.t (Key.ofNat t))
  | .const v => match ofVal v with | some a => some (.c a) | none => none
  | .func f => some (.c (.fn f [] []))
  | .global g => if g < p.globals.size then some (.c (.glob g)) else none
def isAggT (t : TypeId) : Bool := match p.underlying t with | some (.struct _) | some (.array _ _) => true | _ => false
def sizeT (t : TypeId) : Option Nat := match p.info? t with | some i => some i.size | none => none
def bytesT (t : TypeId) : Option Nat := match p.info? t with | some i => some i.bytes | none => none
def zeroT (t : TypeId) : Option AV := match p.info? t with | some i => (match i.zero with | some v => ofVal v | none => none) | none => none
def primT (t : TypeId) : Option PK := match p.underlying t with | some .bool => some .b | some (.int _) => some .i | some .string => some .s | _ => none
def catL {α : Type} : List (List α) → List α
  | [] => []
  | a :: l => a ++ catL l
/-- what is compared of each cell; the fields lie one behind the other -/
def maskF (f : TypeId → Option (List (Option PK))) : List Field → Nat → Option (List (Option PK))
  | [], _ => some []
  | x :: l, off =>
    if x.offset == off then
      match (if x.name == "_" then (match sizeT p x.type with | some s => some (List.replicate s none) | none => none) else f x.type) with
      | some m => match maskF f l (off + m.length) with
        | some r => some (m ++ r)
        | none => none
      | none => none
    else none
def maskK (f : TypeId → Option (List (Option PK))) (t : TypeId) : Option (List (Option PK)) :=
  match p.underlying t with
  | some .bool => some [some .b]
  | some (.int _) => some [some .i]
  | some .string => some [some .s]
  | some (.struct fs) => if p.stoodInHeld t then none else maskF p f fs.toList 0
  | some (.array k e) => match f e with
    | some m => some (catL (List.replicate k m))
    | none => none
  | _ => none
def maskT : Nat → TypeId → Option (List (Option PK))
  | 0, _ => none
  | n + 1, t => match maskK p (maskT n) t with
    | some m => if sizeT p t == some m.length then some m else none
    | none => none
def eqsT (t : TypeId) : EqS :=
  match p.underlying t with
  | some .bool => .prim .b
  | some (.int _) => .prim .i
  | some .string => .prim .s
  | some (.pointer e) => (match sizeT p e with | some (_ + 1) => .ptr | _ => .none)
  | some (.slice _) => .slice
  | some (.map _ _) => .map
  | some (.func _ _ _) => .func
  | some (.interface ms) => .iface ms.isEmpty
  | some (.struct _) | some (.array _ _) => if p.eqGuardType p.depth t then .none else match maskT p 8 t with | some m => .cells m | none => .none
  | _ => .none
def isC : Operand → Bool | .const _ => true | _ => false
/-- two nil values of an interface type with methods may be compared only where one is the literal nil -/
def eqsB (t : TypeId) (x y : Operand) : EqS := match eqsT p t with | .iface b => .iface (b || isC x || isC y) | e => e
def lPart (place : Nat → Option (Nat × Nat)) (x : Nat × Operand) : Option (Nat × Nat × Opd) :=
  match place x.1, lOpd p x.2 with
  | some q, some y => some (q.1, q.2, y)
  | _, _ => none
def lOpt (x : Option Operand) : Option (Option Opd) := match x with | none => some none | some y => (match lOpd p y with | some z => some (some z) | none => none)
def extNo (n : String) : Nat :=
  if n == "internal/abi.NoEscape" then 0 else if n == "internal/bytealg.IndexByteString" then 1 else if n == "internal/bytealg.CountString" then 2 else 99

def lCall (c : Call) (args : List Opd) : Option IOp :=
  match c.callee, args with
  | .value (.func f), _ => match p.funcs[f]? with
    | some fn => if fn.name == "runtime.NumGoroutine" then none else if fn.body.isSome then some (.call f args) else if fn.origin == "" then some (.ext (extNo fn.name) args) else none
    | none => none
  | .value g, _ => do some (.callV (← lOpd p g) args)
  | .builtin .len, [x] => do
    match ← p.underlying (← c.argTypes[0]?) with
    | .slice _ => some (.len .sl x)
    | .string => some (.len .st x)
    | .map _ _ => some (.len .mp x)
    | _ => none
  | .builtin .append, [x, y] => do
    match ← p.underlying (← c.argTypes[0]?) with
    | .slice e =>
      match ← p.underlying (← c.argTypes[1]?) with
      | .int _ => none
      | _ => do
        let s ← sizeT p e
        let z ← (← zeroT p e).cells
        let b ← bytesT p e
        if s == 0 || z.length != s then none else some (.append e s b x y)
    | _ => none
  | .builtin .copy, [x, y] => do
    match ← p.underlying (← c.argTypes[0]?) with
    | .slice e => do some (.copy (← sizeT p e) x y)
    | _ => none
  | .builtin .clear, [x] => do
    match ← p.underlying (← c.argTypes[0]?) with
    | .slice e => do
      let s ← sizeT p e
      let z ← (← zeroT p e).cells
      if z.length != s then none else some (.clear z x)
    | _ => none
  | .builtin .min, [x, y] => some (.min x y)
  | .builtin .min, [x, y, z] => some (.min3 x y z)
  | .builtin .max, [x, y] => some (.max x y)
  | .builtin .recover, [] => some .recover
  | .builtin .unsafeSliceData, [x] => some (.uSliceData x)
  | .builtin .unsafeString, [x, y] => do
    match ← p.underlying (← c.argTypes[0]?) with
    | .pointer e => if sizeT p e == some 1 then some (.uString e x y) else none
    | _ => none
  | _, _ => none

def lOp (o : Op) : Option IOp :=
  match o with
  | .move x | .assign x => do some (.mov (← lOpd p x))
  | .pick c a b => do some (.pick (← lOpd p c) (← lOpd p a) (← lOpd p b))
  | .alloc e => do some (.alloc e (← (← zeroT p e).cells))
  | .box e x => do some (.box e (← lOpd p x))
  | .build t parts => do
    let z ← zeroT p t
    match ← p.underlying t with
    | .struct fs => do
      let pl ← optL (fun f => do some (f.offset, ← sizeT p f.type)) fs.toList
      some (.build (← z.cells) (← optL (lPart p (fun i => pl[i]?)) parts.toList))
    | .array _ e => do
      let s ← sizeT p e
      some (.build (← z.cells) (← optL (lPart p (fun i => some (i * s, s))) parts.toList))
    | _ => none
  | .buildSlice t len parts => do
    match ← p.underlying t with
    | .slice e => do
      let s ← sizeT p e
      let z ← zeroT p e
      if len * s > 100000 || (← z.cells).length != s then none else
      some (.buildS e s len (catL (List.replicate len (← z.cells))) (← optL (lPart p (fun i => some (i * s, s))) parts.toList))
    | _ => none
  | .load t a => do
    let n ← sizeT p t
    let _ ← p.underlying t
    let a ← lOpd p a
    some (if isAggT p t then .loadN n a else .load a)
  | .store t a x => do some (.store (← sizeT p t) (← lOpd p a) (← lOpd p x))
  | .nilCheck x => do some (.nilchk (← lOpd p x))
  | .binOp op t x y _ => do some (.bin op (eqsB p t x y) (← lOpd p x) (← lOpd p y))
  | .unOp op _ x => do some (.un op (← lOpd p x))
  | .convert src dst x => do
    let x ← lOpd p x
    match ← p.underlying src, ← p.underlying dst with
    | .int _, .int k => some (.cint k x)
    | .string, .slice e => match p.underlying e with | some (.int .u8) => some (.cS2b e x) | _ => none
    | .slice e, .string => match p.underlying e with | some (.int .u8) => some (.cB2s x) | _ => none
    | .pointer t, .unsafePointer => do
      let n ← sizeT p t
      if n == 0 then none else some (.cP2u n x)
    | .unsafePointer, .pointer t => do
      let n ← sizeT p t
      if n == 0 then none else some (.cU2p t n x)
    | _, _ => none
  | .makeInterface t x => do
    match ← p.underlying t with
    | .interface _ => none
    | _ => do some (.mkIfc t (← lOpd p x))
  | .makeFunc (.func f) a b => do some (.mkFn f (← optL (lOpd p) a.toList) (← optL (lOpd p) b.toList))
  | .makeMap _ none => some .mkMap
  | .makeMap t (some (.const (.int _ _))) => match p.underlying t with | some (.map _ _) => some .mkMap | _ => none
  | .makeSlice t l c => do
    match ← p.underlying t with
    | .slice e => do
      let s ← sizeT p e
      let b ← bytesT p e
      let z ← (← zeroT p e).cells
      let l ← lOpd p l
      let c ← lOpd p c
      if z.length != s then none else some (.mkS e s b z l c)
    | _ => none
  | .slice t x lo hi mx => do
    let x ← lOpd p x
    let lo ← lOpt p lo
    let hi ← lOpt p hi
    let mx ← lOpt p mx
    if mx.isSome && !hi.isSome then none else
    match ← p.underlying t with
    | .string => match mx with | none => some (.sliS x lo hi) | some _ => none
    | .slice e => do
      let s ← sizeT p e
      if s == 0 then none else some (.sli s x lo hi mx)
    | .array n e => do some (.sliA n (← sizeT p e) x lo hi mx)
    | _ => none
  | .fieldAddr s x f => do
    match ← p.underlying s with
    | .struct fs => do
      let f ← fs[f]?
      let z ← sizeT p f.type
      let x ← lOpd p x
      if z == 0 then none else some (.fldA f.offset x)
    | _ => none
  | .indexAddr t x i => do
    match ← p.underlying t with
    | .slice e => do some (.ixA (← sizeT p e) (← lOpd p x) (← lOpd p i))
    | .array n e => do some (.ixAA n (← sizeT p e) (← lOpd p x) (← lOpd p i))
    | _ => none
  | .index t x i => do
    match ← p.underlying t with
    | .array n e => do
      let _ ← p.underlying e
      some (.ix n (← sizeT p e) (isAggT p e) (← lOpd p x) (← lOpd p i))
    | .string => do some (.ixS (← lOpd p x) (← lOpd p i))
    | _ => none
  | .lookup t m k ok => do
    match ← p.underlying t with
    | .map kt e => do
      let z ← zeroT p e
      let m ← lOpd p m
      let k ← lOpd p k
      match primT p kt with | some pk => some (.look pk z m k ok) | none => none
    | _ => none
  | .mapUpdate t m k v | .insert t m k v => do
    match ← p.underlying t with
    | .map kt _ => do
      let m ← lOpd p m
      let k ← lOpd p k
      let v ← lOpd p v
      match primT p kt with | some pk => some (.mapUp pk m k v) | none => none
    | _ => none
  | .range t x => do
    match ← p.underlying t with
    | .string => do some (.rangeS (← lOpd p x))
    | .map _ _ => do some (.range (← lOpd p x))
    | _ => none
  | .next x s => do
    let x ← lOpd p x
    some (if s then .nextS x else .next x)
  | .typeAssert x _ t ok => do
    match ← p.underlying t with
    | .interface _ => none
    | _ => do some (.tasT (← lOpd p x) t (← zeroT p t) ok)
  | .extract x i => do some (.extr (← lOpd p x) i)
  | .call c => do lCall p c (← optL (lOpd p) c.args.toList)
  | .defer c => do
    let args ← optL (lOpd p) c.args.toList
    match c.callee with
    | .value g => do some (.defer (← lOpd p g) args)
    | _ => none
  | .panic x => do some (.panic (← lOpd p x))
  | _ => none

def lGuard (ops : Array Oper) (g : Option (Nat × Bool)) : Option (Option (Key × Bool)) :=
  match g with
  | none => some none
  | some (j, b) => match (ops[j]?).bind (·.dst) with
    | some d => some (some (Key.ofNat d, b))
    | none => none
def lOper (nt : Nat) (ops : Array Oper) (o : Oper) : OpI :=
  match lOp p o.op, lGuard ops o.guard with
  | some op, some g => if (match o.dst with | none => true | some d => decide (d < nt)) then { dst := o.dst.map Key.ofNat, op, guard := g } else { dst := none, op := .bad, guard := none }
  | _, _ => { dst := none, op := .bad, guard := none }

/-- what an operation does in a drawn region -/
def dkOf : IOp → DK
  | .alloc .. | .box .. | .buildS .. | .mkS .. => .alloc
  | .load .. | .loadN .. | .look .. | .cB2s .. | .cP2u .. | .cU2p .. | .sli .. => .read
  | .len k _ => match k with | .mp => .read | _ => .pure
  | .mov .. | .pick .. | .build .. | .nilchk .. | .bin .. | .un .. | .cint .. | .cid .. | .cI2s .. | .mkIfc .. | .mkFn .. | .sliS .. | .sliA .. | .fldA .. | .fld .. | .fldN ..
  | .ixA .. | .ixAA .. | .ix .. | .ixS .. | .tasT .. | .extr .. | .lenA .. | .min .. | .min3 .. | .max .. | .ext .. => .pure
  | _ => .eff

def dOrdGo (b : Nat → Nat → Bool) : List Nat → List Nat → List Nat
  | [], todo => todo
  | e :: es, todo => todo.filter (fun i => b i e) ++ e :: dOrdGo b es (todo.filter fun i => !b i e && i != e)
/-- the canonical order: what must stand before an effect, then the effect -/
def dOrd (nt : Nat) (ops : Array Oper) (bs : Array Nat) : List Nat :=
  let effs := (List.range ops.size).filter fun i => dkOf (lOper p nt ops (ops.getD i default)).op == .eff
  dOrdGo (fun i j => (bs.getD j 0).testBit i) effs (List.range ops.size)
def chg (k : DK) : Bool := match k with | .eff | .alloc => true | _ => false
/-- how many of the first operations turn the heap, as long as all are among those of the set s -/
def dLo (kind : Nat → DK) (s : Nat) : List Nat → Nat
  | [] => 0
  | i :: l => if s.testBit i then (if chg (kind i) then 1 else 0) + dLo kind s l else 0
def mkD (nt : Nat) (ops : Array Oper) (bs : Array Nat) (ord : List Nat) (i : Nat) : DOp :=
  let o := lOper p nt ops (ops.getD i default)
  { o, k := dkOf o.op, lo := dLo (fun i => dkOf (lOper p nt ops (ops.getD i default)).op) (bs.getD i 0) ord }
def nodupB : List Nat → Bool
  | [] => true
  | a :: l => !l.contains a && nodupB l
/-- what an operation reads -/
def _root_.Go.Ev.IOp.opds : IOp → List Opd
  | .mov x | .box _ x | .load x | .loadN _ x | .nilchk x | .un _ x | .cint _ x | .cid x | .cI2s x | .cS2b _ x | .cB2s x | .cP2u _ x | .cU2p _ _ x | .mkIfc _ x | .fldA _ x | .fld _ x | .fldN _ _ x
  | .range x | .rangeS x | .next x | .nextS x | .entry x | .tasT x _ _ _ | .extr x _ | .len _ x | .cap x | .clear _ x | .uSliceData x | .panic x => [x]
  | .pick a b c | .min3 a b c | .mapUp _ a b c => [a, b, c]
  | .store _ a b | .bin _ _ a b | .mkS _ _ _ _ a b | .ixA _ a b | .ixAA _ _ a b | .ix _ _ _ a b | .ixS a b | .look _ _ a b _ | .append _ _ _ a b | .appendZ _ _ _ _ a b | .copy _ a b | .delete _ a b
  | .min a b | .max a b | .uString _ a b => [a, b]
  | .build _ ps | .buildS _ _ _ _ ps => ps.map fun p => p.2.2
  | .mkFn _ a b => a ++ b
  | .call _ a | .ext _ a => a
  | .callV g a | .defer g a => g :: a
  | .sliS x a b => x :: (a.toList ++ b.toList)
  | .sli _ x a b c | .sliA _ _ x a b c => x :: (a.toList ++ b.toList ++ c.toList)
  | .alloc .. | .mkMap | .lenA _ | .recover | .bad => []
def _root_.Go.Ev.Key.eqb : Key → Key → Bool
  | .xH, .xH => true
  | .xO a, .xO b => a.eqb b
  | .xI a, .xI b => a.eqb b
  | _, _ => false
def keysO (l : List Opd) : List Key := l.filterMap fun | .t k => some k | .c _ => none
/-- the temporaries that an operation names: its own, its operands, its guard's -/
def dNames (o : OpI) : List Key :=
  o.dst.toList ++ keysO o.op.opds ++ (match o.guard with | some p => [p.1] | none => [])
/-- every earlier one is in the set s -/
def allIn (s : Nat) (l : List Nat) : Bool := l.all fun i => s.testBit i
/-- effects stand behind all that the order sets before them; every operation behind those that it waits for -/
def dPre (kind : Nat → DK) (ops : Array Oper) (bs : Array Nat) : List Nat → List Nat → Bool
  | _, [] => true
  | pre, i :: l => (match kind i with | .eff => allIn (bs.getD i 0) pre | _ => true) &&
      ((ops.getD i default).after.toList.all fun e => !Region.binds .any e || pre.contains e.on) && dPre kind ops bs (i :: pre) l
def dOk (nt : Nat) (ops : Array Oper) (bs : Array Nat) (ord : List Nat) : Bool :=
  let kind := fun i => dkOf (lOper p nt ops (ops.getD i default)).op
  let rg := List.range ops.size
  nodupB ord && rg.all (fun i => ord.contains i) && ord.all (fun i => decide (i < ops.size)) &&
  rg.all (fun j => let o := ops.getD j default
    (o.after.toList.all fun e => !Region.binds .any e || decide (e.on < j)) &&
    rg.all fun i => !(bs.getD j 0).testBit i || o.after.toList.any fun e => Region.binds .any e && (e.on == i || (bs.getD e.on 0).testBit i)) &&
  dPre kind ops bs [] ord &&
  rg.all (fun i => match (lOper p nt ops (ops.getD i default)).dst with
    | none => true
    | some t => rg.all fun j => i == j || !(dNames (lOper p nt ops (ops.getD j default))).any (fun k => t.eqb k) || (bs.getD j 0).testBit i || (bs.getD i 0).testBit j)
def lDreg (nt : Nat) (ops : Array Oper) : IC :=
  let bs := Region.before ops
  let ord := dOrd p nt ops bs
  if dOk p nt ops bs ord then .dreg (ord.filter fun i => dkOf (lOper p nt ops (ops.getD i default)).op == .alloc).length (ord.map (mkD p nt ops bs ord)) else .bad

/-- nothing is deferred; no function is ranged over -/
def ndC : Code → Bool
  | .region _ ops _ => ops.toList.all fun o => match o.op with | .defer _ => false | _ => true
  | .seq a b => ndC a && ndC b
  | .cond _ a b => ndC a && ndC b
  | .block _ b => ndC b
  | .loop b => ndC b
  | .scope b => ndC b
  | .rangeFunc _ _ _ _ => false
  | _ => true

/-- the temporaries that code writes -/
def dstsC : Code → List Nat
  | .region _ ops _ => ops.toList.filterMap (·.dst)
  | .seq a b => dstsC a ++ dstsC b
  | .cond _ a b => dstsC a ++ dstsC b
  | .block _ b => dstsC b
  | .loop b => dstsC b
  | .scope b => dstsC b
  | .rangeFunc _ ps a b => ps.toList ++ (dstsC a ++ dstsC b)
  | _ => []
structure ML where
  it : Nat
  tn : Nat
  tx : Nat
  te : Nat
  id : Nat
  b1 : Nat
  o3 : Array Oper
  rest : Code
def isMLop (nt : Nat) (p q x : Oper) (c : Nat) : Option (Nat × Nat × Nat × Nat) :=
  match p.dst, p.op, p.guard, q.dst, q.op, q.guard with
  | some tn, .next (.tmp it) false, none, some tx, .extract (.tmp tn') 0, none =>
    (match x.dst, x.op, x.guard with
    | some te, .entry (.tmp it'), none =>
      if tn' = tn ∧ it' = it ∧ c = tx ∧ tn < nt ∧ tx < nt ∧ te < nt ∧ tn ≠ it ∧ tx ≠ it then some (it, tn, tx, te) else none
    | _, _, _ => none)
  | _, _, _, _, _, _ => none
/-- the shape of a range over a map -/
def isML (nt : Nat) : Code → Option ML
  | .seq (.region _ o2 false) (.seq (.cond (.tmp c) .skip (.exit id)) (.block b1 (.seq (.region _ o3 false) rest))) =>
    (match o2.toList, o3.toList with
    | [p, q], x :: _ => (match isMLop nt p q x c with
      | some t => some { it := t.1, tn := t.2.1, tx := t.2.2.1, te := t.2.2.2, id, b1, o3, rest }
      | none => none)
    | _, _ => none)
  | _ => none
/-- code without a range over a map or a function -/
def lCode0 (nt : Nat) : Code → IC
  | .skip | .label _ => .skip
  | .region _ ops false => .reg (ops.toList.map (lOper p nt ops))
  | .region _ ops true => lDreg p nt ops
  | .seq a b => .seq (lCode0 nt a) (lCode0 nt b)
  | .cond c a b => match lOpd p c with | some c => .cond c (lCode0 nt a) (lCode0 nt b) | none => .bad
  | .block id b => .block id (lCode0 nt b)
  | .loop b => .loop (lCode0 nt b)
  | .scope b => .scope (lCode0 nt b)
  | .exit id => .exit id
  | .ret => .ret
  | .rangeFunc _ _ _ _ | .goto _ | .refuse _ => .bad
def lCode (nt : Nat) : Code → IC
  | .skip | .label _ => .skip
  | .region _ ops false => .reg (ops.toList.map (lOper p nt ops))
  | .region _ ops true => lDreg p nt ops
  | .seq a b => .seq (lCode nt a) (lCode nt b)
  | .cond c a b => match lOpd p c with | some c => .cond c (lCode nt a) (lCode nt b) | none => .bad
  | .block id b => .block id (lCode nt b)
  | .loop b => match isML nt b with
    | none => .loop (lCode nt b)
    | some m => if ndC (.seq (.region 0 m.o3 false) m.rest) then
        .mloop (Key.ofNat m.it) (Key.ofNat m.tn) (Key.ofNat m.tx) (Key.ofNat m.te) (((List.range nt).filter fun t => !(dstsC b).contains t).map Key.ofNat) m.id
          (.block m.b1 (.seq (.reg ((m.o3.toList.drop 1).map (lOper p nt m.o3))) (lCode0 p nt m.rest)))
      else .bad
  | .rangeFunc f ps a b => match lOpd p f with | some f => if ps.toList.all (fun t => decide (t < nt)) && ndC a && ndC b then .rangeF f (ps.toList.map Key.ofNat) (lCode nt a) (lCode nt b) else .bad | none => .bad
  | .exit id => .exit id
  | .ret => .ret
  | .scope b => .scope (lCode nt b)
  | .goto _ | .refuse _ => .bad

def lRes : ResultVar → Option IRes
  | .tmp t => some (.tmp (Key.ofNat t))
  | .cell a t => match p.underlying t, sizeT p t with
    | some _, some n => some (if isAggT p t then .cellN (Key.ofNat a) n else .cell (Key.ofNat a))
    | _, _ => none
def lFunc (f : Func) : Option IF :=
  match f.body, optL (lRes p) f.results.toList with
  | some c, some rs => some { params := (List.range (f.params.size + f.nfree)).map Key.ofNat, results := rs, body := lCode p f.ntmps c, nd := ndC c }
  | _, _ => none
end low
end Go.Ev
