/- The abstract evaluator of the program's own code, and its soundness: part 1. -/
import Derived.Calls
import Derived.Laws.Cells
import Derived.Laws.Entries
import Derived.Laws.Append
import Derived.ChangeKeysEq
import Derived.Laws.Small
import Derived.Laws.Strings
namespace Go.AE
def ifB {R : Type} (c : Bool) (a b : Option R) : Option R := if c = true then a else b
def bindO {A R : Type} (m : Option A) (f : A → Option R) : Option R := m.bind f
def pAdd (k : IntKind) (a b : Int) : Int := k.wrap (a + b)
def pSub (k : IntKind) (a b : Int) : Int := k.wrap (a - b)
def pMul (k : IntKind) (a b : Int) : Int := k.wrap (a * b)
def pQuo (k : IntKind) (a b : Int) : Int := k.wrap (a.tdiv b)
def pRem (a b : Int) : Int := a.tmod b
def pShl (k : IntKind) (a b : Int) : Int := k.wrap (a * 2 ^ (min b.toNat k.bits))
def pShr (k : IntKind) (a b : Int) : Int := a.fdiv (2 ^ (min b.toNat k.bits))
def pAnd (k : IntKind) (a b : Int) : Int := k.wrap (BitVec.ofInt k.bits a &&& BitVec.ofInt k.bits b).toNat
def pOr (k : IntKind) (a b : Int) : Int := k.wrap (BitVec.ofInt k.bits a ||| BitVec.ofInt k.bits b).toNat
def pXor (k : IntKind) (a b : Int) : Int := k.wrap (BitVec.ofInt k.bits a ^^^ BitVec.ofInt k.bits b).toNat
def pConv (k : IntKind) (a : Int) : Int := k.wrap a
def pEq (a b : Int) : Bool := a == b
def pNe (a b : Int) : Bool := a != b
def pLt (a b : Int) : Bool := decide (a < b)
def pLe (a b : Int) : Bool := decide (a ≤ b)
def pGt (a b : Int) : Bool := decide (a > b)
def pGe (a b : Int) : Bool := decide (a ≥ b)
def pMin (x y : Int) : Int := if y < x then y else x
def pMax (x y : Int) : Int := if x < y then y else x
def pNot (b : Bool) : Bool := !b
def pBeq (a b : Bool) : Bool := a == b
def pLen {A : Type} (xs : List A) : Int := (xs.length : Int)
def pSize (s : ByteArray) : Int := (s.size : Int)
def pApp {A : Type} (xs ys : List A) : List A := xs ++ ys
def pSet {A : Type} (xs : List A) (i : Int) (y : A) : List A := xs.set i.toNat y
def pDif (a b : Int) : Int := a - b
def pCopy {A : Type} (xs : List A) (lo n : Int) (ys : List A) : List A := xs.take lo.toNat ++ ys.take n.toNat ++ xs.drop (lo.toNat + n.toNat)
def pRepl {A : Type} (n : Int) (x : A) : List A := List.replicate n.toNat x
def pCat (a b : ByteArray) : ByteArray := a ++ b
def pSEq (a b : ByteArray) : Bool := a.toList == b.toList
def pSLt (a b : ByteArray) : Bool := Op.bytesLess a.toList b.toList
noncomputable def same {R : Type} (a b : Option R) : Option R := @ite _ (a = b) (Classical.propDecidable _) a none
def pOr2 (a b : Bool) : Bool := a || b
def pAnd2 (a b : Bool) : Bool := a && b
def pFit {A : Type} (xs ys : List A) : Bool := decide (xs.length + ys.length ≤ 68719476736)
def pFitS (a b : ByteArray) : Bool := decide (a.size + b.size ≤ 68719476736)
def idx {A : Type} (xs : List A) (i : Int) : Option A := if 0 ≤ i then xs[i.toNat]? else none
def bidx (s : ByteArray) (i : Int) : Option Int := if 0 ≤ i then (s.data[i.toNat]?).map (fun b => (b.toNat : Int)) else none
def sub {A : Type} (xs : List A) (lo hi : Int) : List A := (xs.take hi.toNat).drop lo.toNat
def ssub (s : ByteArray) (lo hi : Int) : ByteArray := s.extract lo.toNat hi.toNat
def bytesOf (xs : List Int) : ByteArray := ⟨(xs.map fun n => UInt8.ofNat n.toNat).toArray⟩
def strInts (s : ByteArray) : List Int := s.data.toList.map fun c => (c.toNat : Int)
def mFind {A : Type} : List (ByteArray × A) → ByteArray → Option A
  | [], _ => none
  | (k, x) :: l, key => bif key == k then some x else mFind l key
def mIns {A : Type} : List (ByteArray × A) → ByteArray → A → List (ByteArray × A)
  | [], key, y => [(key, y)]
  | (k, x) :: l, key, y => bif key == k then (key, y) :: l else (k, x) :: mIns l key y
def mNil {A : Type} : Option (List (ByteArray × A)) := none
def mNew {A : Type} : Option (List (ByteArray × A)) := some []
def mOk {A : Type} (m : Option (List (ByteArray × A))) : Bool := m.isSome
def mHas {A : Type} (m : Option (List (ByteArray × A))) (key : ByteArray) : Bool := (mFind (m.getD []) key).isSome
def mSet {A : Type} (m : Option (List (ByteArray × A))) (key : ByteArray) (x : A) : Option (List (ByteArray × A)) := m.map fun l => mIns l key x
def mGetI (m : Option (List (ByteArray × Int))) (key : ByteArray) : Int := (mFind (m.getD []) key).getD 0
def mGetS (m : Option (List (ByteArray × ByteArray))) (key : ByteArray) : ByteArray := (mFind (m.getD []) key).getD ⟨#[]⟩
def mGetB (m : Option (List (ByteArray × Bool))) (key : ByteArray) : Bool := (mFind (m.getD []) key).getD false
inductive S where
  | int (k : IntKind) | bool | str | unit
  | sl (e : TypeId) (s : S)
  | pair (a b : S)
  | map (v : S)     -- a map from strings
@[reducible] def den : S → Type
  | .int _ => Int | .bool => Bool | .str => ByteArray | .unit => Unit
  | .sl _ s => List (den s)
  | .map v => Option (List (ByteArray × den v))
  | .pair a b => den a × den b
def S.size : S → Nat
  | .int _ => 1 | .bool => 1 | .str => 1 | .unit => 0 | .sl _ _ => 1 | .map _ => 1
  | .pair a b => a.size + b.size
def S.zero : (s : S) → den s
  | .int _ => (0 : Int) | .bool => false | .str => ⟨#[]⟩ | .unit => () | .sl _ _ => [] | .map _ => mNil
  | .pair a b => (a.zero, b.zero)
def bltOf : S → Option (TypeId × TypeId)
  | .pair (.sl t .unit) (.pair (.sl e (.int .u8)) .unit) => some (t, e)
  | _ => none
def notBlt (s : S) : Bool := match bltOf s with | some _ => false | none => true
def S.isAgg : S → Bool
  | .unit => true | .pair _ _ => true | _ => false
def isArrS : S → Bool
  | .pair .unit .unit => true
  | .pair _ b => isArrS b
  | _ => false
def decK : (a b : IntKind) → Decidable (a = b)
  | .i8, .i8 => .isTrue rfl
  | .i8, .i16 | .i8, .i32 | .i8, .i64 | .i8, .u8 | .i8, .u16 | .i8, .u32 | .i8, .u64 => .isFalse (fun x => by cases x)
  | .i16, .i16 => .isTrue rfl
  | .i16, .i8 | .i16, .i32 | .i16, .i64 | .i16, .u8 | .i16, .u16 | .i16, .u32 | .i16, .u64 => .isFalse (fun x => by cases x)
  | .i32, .i32 => .isTrue rfl
  | .i32, .i8 | .i32, .i16 | .i32, .i64 | .i32, .u8 | .i32, .u16 | .i32, .u32 | .i32, .u64 => .isFalse (fun x => by cases x)
  | .i64, .i64 => .isTrue rfl
  | .i64, .i8 | .i64, .i16 | .i64, .i32 | .i64, .u8 | .i64, .u16 | .i64, .u32 | .i64, .u64 => .isFalse (fun x => by cases x)
  | .u8, .u8 => .isTrue rfl
  | .u8, .i8 | .u8, .i16 | .u8, .i32 | .u8, .i64 | .u8, .u16 | .u8, .u32 | .u8, .u64 => .isFalse (fun x => by cases x)
  | .u16, .u16 => .isTrue rfl
  | .u16, .i8 | .u16, .i16 | .u16, .i32 | .u16, .i64 | .u16, .u8 | .u16, .u32 | .u16, .u64 => .isFalse (fun x => by cases x)
  | .u32, .u32 => .isTrue rfl
  | .u32, .i8 | .u32, .i16 | .u32, .i32 | .u32, .i64 | .u32, .u8 | .u32, .u16 | .u32, .u64 => .isFalse (fun x => by cases x)
  | .u64, .u64 => .isTrue rfl
  | .u64, .i8 | .u64, .i16 | .u64, .i32 | .u64, .i64 | .u64, .u8 | .u64, .u16 | .u64, .u32 => .isFalse (fun x => by cases x)
def decS : (a b : S) → Decidable (a = b)
  | .int k, .int l => match decK k l with
    | .isTrue h => .isTrue (by rw [h])
    | .isFalse h => .isFalse (fun e => h (by injection e))
  | .bool, .bool => .isTrue rfl
  | .str, .str => .isTrue rfl
  | .unit, .unit => .isTrue rfl
  | .sl e s, .sl f t => match Nat.decEq e f, decS s t with
    | .isTrue h, .isTrue g => .isTrue (by rw [h, g])
    | .isFalse h, _ => .isFalse (fun x => h (by injection x))
    | _, .isFalse h => .isFalse (fun x => h (by injection x))
  | .map a, .map b => match decS a b with
    | .isTrue h => .isTrue (by rw [h])
    | .isFalse h => .isFalse (fun x => h (by injection x))
  | .pair a b, .pair c d => match decS a c, decS b d with
    | .isTrue h, .isTrue g => .isTrue (by rw [h, g])
    | .isFalse h, _ => .isFalse (fun x => h (by injection x))
    | _, .isFalse h => .isFalse (fun x => h (by injection x))
  | .int _, .bool | .int _, .str | .int _, .unit | .int _, .sl _ _ | .int _, .pair _ _ => .isFalse (fun x => by cases x)
  | .bool, .int _ | .bool, .str | .bool, .unit | .bool, .sl _ _ | .bool, .pair _ _ => .isFalse (fun x => by cases x)
  | .str, .int _ | .str, .bool | .str, .unit | .str, .sl _ _ | .str, .pair _ _ => .isFalse (fun x => by cases x)
  | .unit, .int _ | .unit, .bool | .unit, .str | .unit, .sl _ _ | .unit, .pair _ _ => .isFalse (fun x => by cases x)
  | .sl _ _, .int _ | .sl _ _, .bool | .sl _ _, .str | .sl _ _, .unit | .sl _ _, .pair _ _ => .isFalse (fun x => by cases x)
  | .pair _ _, .int _ | .pair _ _, .bool | .pair _ _, .str | .pair _ _, .unit | .pair _ _, .sl _ _ => .isFalse (fun x => by cases x)
  | .map _, .int _ | .map _, .bool | .map _, .str | .map _, .unit | .map _, .sl _ _ | .map _, .pair _ _ => .isFalse (fun x => by cases x)
  | .int _, .map _ | .bool, .map _ | .str, .map _ | .unit, .map _ | .sl _ _, .map _ | .pair _ _, .map _ => .isFalse (fun x => by cases x)
def cast? {R : Type} (s s' : S) (x : den s) (k : den s' → Option R) : Option R :=
  match decS s s' with
  | .isTrue h => k (h ▸ x)
  | .isFalse _ => none
def castL? {R : Type} (s s' : S) (x : List (den s)) (k : List (den s') → Option R) : Option R :=
  match decS s s' with
  | .isTrue h => k (h ▸ x)
  | .isFalse _ => none
inductive O where
  | imm
  | own (o : O)
  | pr (a b : O)
def O.l : O → O | .pr a _ => a | _ => .imm
def O.r : O → O | .pr _ b => b | _ => .imm
def O.e : O → O | .own o => o | _ => .imm
def O.le : O → O → Bool
  | .imm, _ => true
  | .own a, .own b => a.le b
  | .pr a b, .pr c d => a.le c && b.le d
  | .pr a b, .imm => a.le .imm && b.le .imm
  | _, _ => false
def O.meet : O → O → O
  | .own a, .own b => .own (a.meet b)
  | .pr a b, .pr c d => .pr (a.meet c) (b.meet d)
  | _, _ => .imm
def O.beq : O → O → Bool
  | .imm, .imm => true
  | .own a, .own b => a.beq b
  | .pr a b, .pr c d => a.beq c && b.beq d
  | _, _ => false
def clean : S → O → Bool
  | .sl _ _, .own _ => false
  | .sl _ _, _ => true
  | .map _, .own _ => false
  | .map _, _ => true
  | .pair a b, o => clean a o.l && clean b o.r
  | _, _ => true
inductive Stp where
  | L | R | ix (i : Int)
abbrev Path := List Stp
def hasIx : Path → Bool
  | [] => false
  | .ix _ :: _ => true
  | _ :: p => hasIx p
def fpath : Nat → Path
  | 0 => [.L]
  | n + 1 => .R :: fpath n
def shapeAt : S → Path → Option S
  | s, [] => some s
  | .pair a _, .L :: p => shapeAt a p
  | .pair _ b, .R :: p => shapeAt b p
  | .sl _ s, .ix _ :: p => shapeAt s p
  | _, _ => none
def maskAt : O → Path → O
  | o, [] => o
  | o, .L :: p => maskAt o.l p
  | o, .R :: p => maskAt o.r p
  | o, .ix _ :: p => maskAt o.e p
def ownP : O → Path → Bool
  | _, [] => true
  | o, .L :: p => ownP o.l p
  | o, .R :: p => ownP o.r p
  | .own o, .ix _ :: p => ownP o p
  | _, .ix _ :: _ => false
def getK {R : Type} : (s : S) → den s → Path → ((s' : S) → den s' → Option R) → Option R
  | s, x, [], k => k s x
  | .pair a _, x, .L :: p, k => getK a x.1 p k
  | .pair _ b, x, .R :: p, k => getK b x.2 p k
  | .sl _ s, xs, .ix i :: p, k => bindO (idx xs i) fun x => getK s x p k
  | _, _, _, _ => none
def setK {R : Type} : (s : S) → den s → Path → (s' : S) → den s' → (den s → Option R) → Option R
  | s, _, [], s', v, k => cast? s' s v k
  | .pair a _, x, .L :: p, s', v, k => setK a x.1 p s' v fun y => k (y, x.2)
  | .pair _ b, x, .R :: p, s', v, k => setK b x.2 p s' v fun y => k (x.1, y)
  | .sl _ s, xs, .ix i :: p, s', v, k => bindO (idx xs i) fun x => setK s x p s' v fun y => k (pSet xs i y)
  | _, _, _, _, _, _ => none
def mkPr (a b : O) : O := match a, b with
  | .imm, .imm => .imm
  | a, b => .pr a b
def setMask : O → Path → O → Option O
  | _, [], o' => some o'
  | o, .L :: p, o' => match setMask o.l p o' with | some a => some (mkPr a o.r) | none => none
  | o, .R :: p, o' => match setMask o.r p o' with | some b => some (mkPr o.l b) | none => none
  | .own o, .ix _ :: p, o' => match setMask o p o' with | some a => (bif a.beq o then some (.own o) else none) | none => none
  | _, .ix _ :: _, _ => none
inductive Cap where
  | cp (r : Nat) (p : Path)
  | cr (s : S) (x : den s)
inductive AV where
  | pv (s : S) (x : den s)            -- a value; slices inside are never written again
  | rp (s : S) (x : den s)            -- a pointer to memory that is never written again, and holds x
  | ptr (r : Nat) (p : Path)          -- a pointer to a place of an object
  | ov (r : Nat) (p : Path)           -- the value that stands at a place of an object
  | osub (r : Nat) (p : Path) (lo hi : Int)   -- a part of the owned slice at a place
  | bx (r : Nat) (p : Path)           -- a pointer to a copy, never written again, of what stands at a place of an object
  | app (r : Nat) (p : Path)          -- the slice that is to be stored at a place of an object that waits for it
  | fn (f : FuncId) (caps : List Cap)
  | z (s : S)                         -- the zero value (its slices are nil)
  | dead
inductive SV where
  | one (a : AV)
  | tup (l : List AV)
structure Ob where
  s : S
  o : O
  x : den s
  mem : Bool := false       -- in memory (a variable), or afloat (a value in temporaries)
  fixed : Bool := false     -- afloat, but its own cells belong to the caller: they must stay
  pend : Option Path := none
structure Dy where
  s : S
  o : O
  x : den s
inductive Mode where
  | v      -- a value, read only
  | rd     -- a pointer to what is only read
  | io     -- a pointer to a place that may change
  | iov    -- a value with owned slices whose elements may change
  | tk     -- a value with owned slices that goes over to the function
  | nl     -- the zero value
inductive Par where
  | one
  | fn (f : FuncId) (n : Nat)
def Par.beq : Par → Par → Bool
  | .one, .one => true
  | .fn f n, .fn g m => Nat.beq f g && Nat.beq n m
  | _, _ => false
def parsBeq : List Par → List Par → Bool
  | [], [] => true
  | a :: l, b :: m => a.beq b && parsBeq l m
  | _, _ => false
structure Con where
  modes : List Mode
  ptrs : List Bool
  bl : Option (TypeId × TypeId × Nat) := none   -- a method of strings.Builder: the type, its bytes' type, which one
  fn : {R : Type} → List Dy → (List Dy → List Dy → Option R) → Option R
inductive SkC where
  | cp (r : Nat) (p : Path)
  | cr (s : S)
inductive Sk where
  | dead
  | pv (s : S)
  | rp (s : S)
  | ptr (r : Nat) (p : Path)
  | ov (r : Nat) (p : Path)
  | fn (f : FuncId) (caps : List SkC)
structure SkO where
  r : Nat
  s : S
  o : O
  mem : Bool := false
  fixed : Bool := false
structure Skel where
  env : List Sk
  objs : List SkO
inductive Ex where
  | normal
  | exit (id : Nat)
  | ret
structure XS where
  ex : Ex
  live : List Tmp
  sk : Skel
structure St where
  env : List SV
  objs : List (Nat × Ob)
structure LoopCon where
  run : {R : Type} → St → (Exit → St → Option R) → Option R
structure Cfg where
  ty : List (TypeId × S)
  con : List ((FuncId × List Par) × Con)
  keep : List Tmp := []                 -- calls whose results stay owned
  flt : List Tmp := []                  -- temporaries that, assigned nil, become an owned slice
  elm : List (TypeId × O) := []         -- the masks of new slices' elements
  live : List (Nat × List Tmp) := []    -- what lives at a region
  loops : List (Nat × LoopCon) := []    -- the loops, by their first region
  ord : List (Nat × List Nat) := []     -- in which order a region is gone through
  joins : List (Nat × List XS) := []    -- where ways meet
def look {α : Type} : List (Nat × α) → Nat → Option α
  | [], _ => none
  | (n, a) :: l, m => bif Nat.beq n m then some a else look l m
def hasKey {α : Type} : List (Nat × α) → Nat → Bool
  | [], _ => false
  | (n, _) :: l, m => Nat.beq n m || hasKey l m
def twice {α : Type} : List (Nat × α) → Nat → Bool
  | [], _ => false
  | (n, _) :: l, m => bif Nat.beq n m then hasKey l m else twice l m
def eqS : (s : S) → den s → den s → Option Bool
  | .pair (.int _) b, x, y => match eqS b x.2 y.2 with
    | some v => some (pAnd2 (pEq x.1 y.1) v)
    | none => none
  | .unit, _, _ => some true
  | _, _, _ => none
def lookCon : List ((FuncId × List Par) × Con) → FuncId → List Par → Option Con
  | [], _, _ => none
  | (k, c) :: l, f, ps => bif Nat.beq k.1 f && parsBeq k.2 ps then some c else lookCon l f ps
def lookLoop : List (Nat × LoopCon) → Nat → Option LoopCon
  | [], _ => none
  | (n, a) :: l, m => bif Nat.beq n m then some a else lookLoop l m
def lookJoin : List (Nat × List XS) → Nat → Option (List XS)
  | [], _ => none
  | (n, a) :: l, m => bif Nat.beq n m then some a else lookJoin l m
def Cfg.elmOf (g : Cfg) (e : TypeId) : O := (look g.elm e).getD .imm
def zmask (g : Cfg) : S → O
  | .sl e _ => .own (g.elmOf e)
  | .map _ => .own .imm
  | .pair a b => mkPr (zmask g a) (zmask g b)
  | _ => .imm
def getSlot : List SV → Nat → SV
  | [], _ => .one .dead
  | a :: _, 0 => a
  | _ :: l, n + 1 => getSlot l n
def setSlot : List SV → Nat → SV → List SV
  | [], _, _ => []
  | _ :: l, 0, v => v :: l
  | a :: l, n + 1, v => a :: setSlot l n v
def St.ob (st : St) (r : Nat) : Option Ob := look st.objs r
def dropOb : List (Nat × Ob) → Nat → List (Nat × Ob)
  | [], _ => []
  | (n, a) :: l, m => bif Nat.beq n m then dropOb l m else (n, a) :: dropOb l m
def putOb : List (Nat × Ob) → Nat → Ob → List (Nat × Ob)
  | [], m, b => [(m, b)]
  | (n, a) :: l, m, b => bif Nat.beq n m then (m, b) :: l else bif Nat.ble (m + 1) n then (m, b) :: (n, a) :: l else (n, a) :: putOb l m b
inductive KK where
  | all                 -- the object has gone, or has another head
  | wr (b : Bool)       -- a store (b: behind an index: the object's own cells stay)
  | wp (b : Bool) (p : Path) (o : O)   -- a store at this path, into an object of this mask
  | pd                  -- it waits for a store
structure Eff where
  av : SV
  upd : List (Nat × Option Ob) := []
  kill : List (Nat × KK) := []
def aside : Path → Path → Bool
  | .ix _ :: _, [] => true
  | .L :: p, .L :: q => aside p q
  | .R :: p, .R :: q => aside p q
  | .ix _ :: p, .ix _ :: q => aside p q
  | .L :: _, .R :: _ => true
  | .R :: _, .L :: _ => true
  | _, _ => false
def hitPtr (k : KK) (q : Path) : Bool :=
  match k with
  | .all => true
  | .wr _ => hasIx q
  | .wp _ _ _ => hasIx q
  | .pd => false
def hitOv (k : KK) (q : Path) : Bool :=
  match k with
  | .all => true
  | .wr b => !(b && !hasIx q)
  | .wp b p o => !(b && !hasIx q) && !(aside p q && ownP o q)
  | .pd => true
def hitCap (r : Nat) (k : KK) : Cap → Bool
  | .cp r' p => Nat.beq r r' && hitPtr k p
  | .cr _ _ => false
def anyCap (r : Nat) (k : KK) : List Cap → Bool
  | [] => false
  | c :: l => hitCap r k c || anyCap r k l
def hit (r : Nat) (k : KK) : AV → Bool
  | .ptr r' p => Nat.beq r r' && hitPtr k p
  | .ov r' p => Nat.beq r r' && hitOv k p
  | .bx r' p => Nat.beq r r' && hitOv k p
  | .osub r' _ _ _ => Nat.beq r r'
  | .app r' _ => Nat.beq r r'
  | .fn _ caps => anyCap r k caps
  | _ => false
def anyHit (r : Nat) (k : KK) : List AV → Bool
  | [] => false
  | a :: l => hit r k a || anyHit r k l
def killS (r : Nat) (k : KK) : SV → SV
  | .one a => bif hit r k a then .one .dead else .one a
  | .tup l => bif anyHit r k l then .one .dead else .tup l
def killEnv (r : Nat) (k : KK) : List SV → List SV
  | [] => []
  | a :: l => killS r k a :: killEnv r k l
def kills : List (Nat × KK) → List SV → List SV
  | [], env => env
  | (r, k) :: l, env => kills l (killEnv r k env)
def upds : List (Nat × Option Ob) → List (Nat × Ob) → List (Nat × Ob)
  | [], objs => objs
  | (r, none) :: l, objs => upds l (dropOb objs r)
  | (r, some b) :: l, objs => upds l (putOb objs r b)
def St.apply (st : St) (dst : Option Tmp) (e : Eff) : St :=
  let env := kills e.kill st.env
  { env := match dst with | some d => setSlot env d e.av | none => env, objs := upds e.upd st.objs }
def zeroCells? : (s : S) → List Value → Option (List Value)
  | .int k, .int l n :: r => match decK k l with | .isTrue _ => (match n with | .ofNat 0 => some r | _ => none) | .isFalse _ => none
  | .bool, .bool b :: r => bif b then none else some r
  | .str, .string s :: r => bif Nat.beq s.size 0 then some r else none
  | .unit, r => some r
  | .sl _ _, .slice none 0 0 :: r => some r
  | .map _, .map none :: r => some r
  | .pair a b, l => match zeroCells? a l with
    | some r => zeroCells? b r
    | none => none
  | _, _ => none
def constAV (os : Option S) (v : Value) : AV :=
  match v with
  | .int k n => .pv (.int k) n
  | .bool b => .pv .bool b
  | .string s => .pv .str s
  | .slice none 0 0 => match os with
    | some (.sl e s) => .z (.sl e s)
    | _ => .dead
  | .map none => match os with
    | some (.map v) => .z (.map v)
    | _ => .dead
  | .agg cs => match os with
    | some s => bif s.isAgg then (match zeroCells? s cs.toList with
      | some [] => .z s
      | _ => .dead) else .dead
    | none => .dead
  | _ => .dead
def evalS (st : St) (os : Option S) : Operand → AV
  | .tmp n => match getSlot st.env n with | .one a => a | .tup _ => .dead
  | .const v => constAV os v
  | .global _ => .dead
  | .func f => .fn f []
def evalT (g : Cfg) (st : St) (t : TypeId) (x : Operand) : AV := evalS st (look g.ty t) x
def newId (d : Tmp) : Nat := 100 + d
def asInt? {R : Type} (a : AV) (k : IntKind → Int → Option R) : Option R :=
  match a with | .pv (.int q) n => k q n | _ => none
def asBool? {R : Type} (a : AV) (k : Bool → Option R) : Option R :=
  match a with | .pv .bool b => k b | _ => none
def atPlace {R : Type} (st : St) (r : Nat) (p : Path) (k : (s : S) → O → den s → Option R) : Option R :=
  match st.ob r with
  | some ob => match ob.pend, ownP ob.o p with
    | none, true => getK ob.s ob.x p fun s x => k s (maskAt ob.o p) x
    | _, _ => none
  | none => none
def mkAV (r : Nat) (p : Path) (s : S) (o : O) (x : den s) : AV := bif clean s o then .pv s x else .ov r p
def slOf {R : Type} (st : St) (a : AV) (k : (e : TypeId) → (s : S) → O → List (den s) → Option R) : Option R :=
  match a with
  | .pv (.sl e s) xs => k e s .imm xs
  | .z (.sl e s) => k e s .imm []
  | .ov r p => atPlace st r p fun s o x => match s, x with
    | .sl e s', xs => k e s' o.e xs
    | _, _ => none
  | .osub r p lo hi => atPlace st r p fun s o x => match s, x with
    | .sl e s', xs => k e s' o.e (sub xs lo hi)
    | _, _ => none
  | _ => none
def mapOf {R : Type} (st : St) (a : AV) (k : (v : S) → Option (List (ByteArray × den v)) → Option R) : Option R :=
  match a with
  | .pv (.map v) x => k v x
  | .z (.map v) => k v mNil
  | .ov r p => atPlace st r p fun s _ x => match s, x with
    | .map v, x => k v x
    | _, _ => none
  | _ => none
def mGetV : (v : S) → Option (List (ByteArray × den v)) → ByteArray → den v
  | .int _, m, key => mGetI m key
  | .str, m, key => mGetS m key
  | .bool, m, key => mGetB m key
  | v, _, _ => v.zero
def bin (op : BinOp) (k : IntKind) (a b : Int) : AV :=
  match op with
  | .add => .pv (.int k) (pAdd k a b)
  | .sub => .pv (.int k) (pSub k a b)
  | .mul => .pv (.int k) (pMul k a b)
  | .eql => .pv .bool (pEq a b)
  | .neq => .pv .bool (pNe a b)
  | .lss => .pv .bool (pLt a b)
  | .leq => .pv .bool (pLe a b)
  | .gtr => .pv .bool (pGt a b)
  | .geq => .pv .bool (pGe a b)
  | .and => .pv (.int k) (pAnd k a b)
  | .or => .pv (.int k) (pOr k a b)
  | .xor => .pv (.int k) (pXor k a b)
  | _ => .dead
def setNth {α : Type} : List α → Nat → α → List α
  | [], _, _ => []
  | _ :: l, 0, v => v :: l
  | a :: l, n + 1, v => a :: setNth l n v
end Go.AE
namespace Go.AE
def partOf {R : Type} (g : Cfg) (st : St) (a : AV) (k : (s : S) → O → den s → List Nat → Option R) : Option R :=
  match a with
  | .pv s x => k s .imm x []
  | .z s => k s (zmask g s) s.zero []
  | .ov r p => match st.ob r with
    | some ob => bif ob.fixed then none else atPlace st r p fun s o x => k s o x [r]
    | none => none
  | .osub r [] lo hi => (match st.ob r with
    | some ob => (match ob.mem, ob.fixed with
      | false, false => atPlace st r [] fun s o x => (match s, o, x with
        | .sl e s, .own o, xs => k (.sl e s) (.own o) (sub xs lo hi) [r]
        | _, _, _ => none)
      | _, _ => none)
    | none => none)
  | _ => none
def memNat : Nat → List Nat → Bool
  | _, [] => false
  | a, b :: l => Nat.beq a b || memNat a l
def noDup : List Nat → Bool
  | [] => true
  | a :: l => !memNat a l && noDup l
def goneU : List Nat → List (Nat × Option Ob)
  | [] => []
  | r :: l => (r, none) :: goneU l
def goneK : List Nat → List (Nat × KK)
  | [] => []
  | r :: l => (r, .all) :: goneK l
def effNew (d : Option Tmp) (mem : Bool) (s : S) (o : O) (x : den s) (gone : List Nat) : Eff :=
  let id := newId (d.getD 0)
  { av := .one (bif mem then .ptr id [] else .ov id []), upd := goneU gone ++ [(id, some { s, o, x, mem })], kill := goneK gone ++ [(id, .all)] }
def effMade (d : Option Tmp) (s : S) (o : O) (x : den s) (gone : List Nat) : Eff :=
  bif clean s o then { av := .one (.pv s x) } else effNew d false s o x gone
def disjN : List Nat → List Nat → Bool
  | [], _ => true
  | a :: l, m => !memNat a m && disjN l m
def buildK {R : Type} (g : Cfg) (st : St) (s : S) : List (Nat × Operand) → den s → O → List Nat → (den s → O → List Nat → Option R) → Option R
  | [], x, o, c, k => k x o c
  | (i, op) :: ps, x, o, c, k =>
    match shapeAt s (fpath i) with
    | none => none
    | some sf => partOf g st (evalS st (some sf) op) fun s' o' y c' =>
      bif disjN c' c && Nat.ble 1 sf.size then
      (match decS s' sf, setMask o (fpath i) o' with
      | .isTrue _, some o2 => setK s x (fpath i) s' y fun x2 => buildK g st s ps x2 o2 (c' ++ c) k
      | _, _ => none) else none
def partsK {R : Type} (g : Cfg) (st : St) (s : S) : List (Nat × Operand) → List (den s) → Option O → List Nat → (List (den s) → Option O → List Nat → Option R) → Option R
  | [], xs, o, c, k => k xs o c
  | (i, op) :: ps, xs, o, c, k =>
    match evalS st (some s) op with
    | .z s' => cast? s' s s'.zero fun y => bif Nat.ble (i + 1) xs.length then partsK g st s ps (setNth xs i y) o c k else none
    | a => partOf g st a fun s' o' y c' => cast? s' s y fun y =>
      bif disjN c' c && Nat.ble (i + 1) xs.length && (match o with | none => true | some o => o.beq o') then
      partsK g st s ps (setNth xs i y) (some o') (c' ++ c) k else none
def replic {α : Type} (a : α) : Nat → List α
  | 0 => []
  | n + 1 => a :: replic a n
def pathEqK {R : Type} : Path → Path → Option R → Option R
  | [], [], k => k
  | .L :: p, .L :: q, k => pathEqK p q k
  | .R :: p, .R :: q, k => pathEqK p q k
  | .ix i :: p, .ix j :: q, k => ifB (pEq i j) (pathEqK p q k) none
  | _, _, _ => none
def St.shp (st : St) (r : Nat) (p : Path) : Option S := match st.ob r with | some ob => shapeAt ob.s p | none => none
def cmpK {R : Type} (op : BinOp) (v : Option Bool) (k : Bool → Option R) : Option R :=
  match v with
  | some e => (match op with
    | .eql => k e
    | .neq => k (pNot e)
    | _ => none)
  | none => none
def storeK {R : Type} (g : Cfg) (st : St) (r : Nat) (p : Path) (a : AV) (k : Eff → Option R) : Option R :=
  match st.ob r with
  | none => none
  | some ob =>
    match a with
    | .app r' p' => bif Nat.beq r r' then pathEqK p p' (k { av := .one .dead, upd := [(r, some { ob with pend := none })], kill := [(r, .wr (hasIx p && !ob.mem))] }) else none
    | .osub r' p' lo hi => bif Nat.beq r r' && (match ob.pend with | none => true | _ => false) && ownP ob.o p && (match maskAt ob.o p with | .own _ => true | _ => false) then
        pathEqK p p' (getK ob.s ob.x p fun s x => match s, x with
          | .sl e s, xs => (match setMask ob.o p (maskAt ob.o p) with
            | some o2 => setK ob.s ob.x p (.sl e s) (sub xs lo hi) fun x' =>
              k { av := .one .dead, upd := [(r, some { ob with x := x', o := o2 })], kill := [(r, .wp (hasIx p && !ob.mem) p ob.o)] }
            | none => none)
          | _, _ => none) else none
    | a => match ob.pend, ownP ob.o p with
      | none, true => partOf g st a fun s o y c =>
        bif memNat r c then none else
        let mo := bif hasIx p then maskAt ob.o p else o
        bif mo.le o || (match a with | .z _ => true | _ => false) then
          (match setMask ob.o p mo with
          | some o2 => setK ob.s ob.x p s y fun x' =>
              k { av := .one .dead, upd := goneU c ++ [(r, some { ob with x := x', o := o2 })], kill := goneK c ++ [(r, .wp (hasIx p && !ob.mem) p ob.o)] }
          | none => none)
        else none
      | _, _ => none
def srcK {R : Type} (st : St) (a : AV) (k : (s : S) → O → List (den s) → List Nat → Option R) : Option R :=
  match a with
  | .pv (.sl _ s) xs => k s .imm xs []
  | .z (.sl _ s) => k s .imm [] []
  | .pv .str b => k (.int .u8) .imm (strInts b) []
  | .ov r p => atPlace st r p fun s o x => match s, x with
    | .sl _ s', xs => bif clean s' o.e then k s' .imm xs [] else
        (match p, st.ob r with
        | [], some ob => (match ob.mem, ob.fixed with | false, false => k s' o.e xs [r] | _, _ => none)
        | _, _ => none)
    | _, _ => none
  | .osub r p lo hi => atPlace st r p fun s o x => match s, x with
    | .sl _ s', xs => bif clean s' o.e then k s' .imm (sub xs lo hi) [] else none
    | _, _ => none
  | _ => none
def appOn {R : Type} (r : Nat) (p : Path) (ob : Ob) (e : TypeId) (s0 : S) (zs : List (den s0)) (c : List Nat) (k : Eff → Option R) : Option R :=
  bif ob.mem || hasIx p then
    bif notBlt ob.s then (match setMask ob.o p (maskAt ob.o p) with
    | some o2 => setK ob.s ob.x p (.sl e s0) zs fun x' =>
      k { av := .one (.app r p), upd := goneU c ++ [(r, some { ob with x := x', o := o2, pend := some p })], kill := goneK c ++ [(r, .pd)] }
    | none => none) else none
  else bif ob.fixed then none else
    match p with
    | [] => setK ob.s ob.x [] (.sl e s0) zs fun x' =>
        k { av := .one (.ov r []), upd := goneU c ++ [(r, some { ob with x := x' })], kill := goneK c ++ [(r, .all)] }
    | _ => none
def appendK {R : Type} (g : Cfg) (st : St) (d : Option Tmp) (e : TypeId) (s0 : S) (base src : AV) (k : Eff → Option R) : Option R :=
  srcK st src fun s o ys c => castL? s s0 ys fun ys =>
  match base with
  | .z (.sl _ _) => ifB (pFit [] ys) (k (effNew d false (.sl e s0) (.own ((g.elmOf e).meet o)) ys c)) none
  | .ov r p => match st.ob r with
    | none => none
    | some ob => match ob.pend, ownP ob.o p, maskAt ob.o p with
      | none, true, .own m => bif !memNat r c && m.le o then
          getK ob.s ob.x p fun s1 x1 => (match s1, x1 with
          | .sl e1 s1, xs => castL? s0 s1 ys fun ys => ifB (pFit xs ys) (appOn r p ob e1 s1 (pApp xs ys) c k) none
          | _, _ => none)
        else none
      | _, _, _ => none
  | .osub r p lo hi => match st.ob r with
    | none => none
    | some ob => match ob.pend, ownP ob.o p, maskAt ob.o p with
      | none, true, .own m => bif !memNat r c && m.le o then
          getK ob.s ob.x p fun s1 x1 => (match s1, x1 with
          | .sl e1 s1, xs => castL? s0 s1 ys fun ys => ifB (pFit (sub xs lo hi) ys) (appOn r p ob e1 s1 (pApp (sub xs lo hi) ys) c k) none
          | _, _ => none)
        else none
      | _, _, _ => none
  | _ => none
def appendZ {R : Type} (g : Cfg) (st : St) (d : Option Tmp) (e : TypeId) (s0 : S) (base : AV) (n : Int) (k : Eff → Option R) : Option R :=
  ifB (pLe 0 n) (ifB (pLe n 68719476736)
  (match base with
  | .z (.sl _ _) => k (effNew d false (.sl e s0) (.own (g.elmOf e)) (pRepl n s0.zero) [])
  | .ov r p => match st.ob r with
    | none => none
    | some ob => match ob.pend, ownP ob.o p, maskAt ob.o p with
      | none, true, .own _ => getK ob.s ob.x p fun s1 x1 => (match s1, x1 with
          | .sl e1 s1, xs => (match decS s0 s1 with
            | .isTrue _ => ifB (pFit xs (pRepl n s1.zero)) (appOn r p ob e1 s1 (pApp xs (pRepl n s1.zero)) [] k) none
            | .isFalse _ => none)
          | _, _ => none)
      | _, _, _ => none
  | .osub r p lo hi => match st.ob r with
    | none => none
    | some ob => match ob.pend, ownP ob.o p, maskAt ob.o p with
      | none, true, .own _ => getK ob.s ob.x p fun s1 x1 => (match s1, x1 with
          | .sl e1 s1, xs => (match decS s0 s1 with
            | .isTrue _ => ifB (pFit (sub xs lo hi) (pRepl n s1.zero)) (appOn r p ob e1 s1 (pApp (sub xs lo hi) (pRepl n s1.zero)) [] k) none
            | .isFalse _ => none)
          | _, _ => none)
      | _, _, _ => none
  | _ => none) none) none
def copyOn {R : Type} (st : St) (r : Nat) (lo : Int) (hi : Option Int) (s2 : S) (ys : List (den s2)) (k : Eff → Option R) : Option R :=
  match st.ob r with
  | none => none
  | some ob => bif ob.mem then none else atPlace st r [] fun s1 m1 x1 => (match s1, m1, x1 with
      | .sl e1 s1, .own m, xs => (match decS s2 s1 with
        | .isTrue h => bif clean s1 m && m.le .imm then
            setK ob.s ob.x [] (.sl e1 s1) (pCopy xs lo (pMin (pDif (hi.getD (pLen xs)) lo) (pLen ys)) (h ▸ ys)) fun x' =>
              k { av := .one (.pv (.int .i64) (pMin (pDif (hi.getD (pLen xs)) lo) (pLen ys))), upd := [(r, some { ob with x := x' })], kill := [(r, .wr true)] }
          else none
        | .isFalse _ => none)
      | _, _, _ => none)
def copyK {R : Type} (st : St) (s0 : S) (dst src : AV) (k : Eff → Option R) : Option R :=
  slOf st src fun _ s2 o2 ys => castL? s2 s0 ys fun ys => bif clean s2 o2 then
    (match dst with
    | .osub r [] lo hi => copyOn st r lo (some hi) s0 ys k
    | .ov r [] => copyOn st r 0 none s0 ys k
    | _ => none) else none
def argK {R : Type} (g : Cfg) (st : St) (m : Mode) (a : AV) (k : Dy → Option R) : Option R :=
  match m, a with
  | .v, .pv s x => k ⟨s, .imm, x⟩
  | .v, .z s => k ⟨s, .imm, s.zero⟩
  | .v, .ov r p => atPlace st r p fun s _ x => k ⟨s, .imm, x⟩
  | .v, .osub r p lo hi => atPlace st r p fun s _ x => match s, x with
    | .sl e s, xs => k ⟨.sl e s, .imm, sub xs lo hi⟩
    | _, _ => none
  | .nl, .z s => k ⟨s, .imm, s.zero⟩
  | .rd, .rp s x => k ⟨s, .imm, x⟩
  | .rd, .ptr r p => atPlace st r p fun s _ x => k ⟨s, .imm, x⟩
  | .io, .ptr r p => atPlace st r p fun s o x => k ⟨s, o, x⟩
  | .iov, .ov r p => atPlace st r p fun s o x => k ⟨s, o, x⟩
  | .tk, .pv s x => k ⟨s, .imm, x⟩
  | .tk, .z s => k ⟨s, zmask g s, s.zero⟩
  | .tk, .ov r [] => (match st.ob r with
    | some ob => (match ob.mem, ob.fixed with
      | false, false => atPlace st r [] fun s o x => k ⟨s, o, x⟩
      | _, _ => none)
    | none => none)
  | .tk, .osub r [] lo hi => (match st.ob r with
    | some ob => (match ob.mem, ob.fixed with
      | false, false => atPlace st r [] fun s o x => match s, o, x with
        | .sl e s, .own o, xs => k ⟨.sl e s, .own o, sub xs lo hi⟩
        | _, _, _ => none
      | _, _ => none)
    | none => none)
  | _, _ => none
def argsK {R : Type} (g : Cfg) (st : St) : List Mode → List AV → (List Dy → Option R) → Option R
  | [], [], k => k []
  | m :: ms, a :: as, k => argK g st m a fun d => argsK g st ms as fun ds => k (d :: ds)
  | _, _, _ => none
def ioIds : List Mode → List AV → List Nat
  | .io :: ms, .ptr r _ :: as => r :: ioIds ms as
  | .iov :: ms, .ov r _ :: as => r :: ioIds ms as
  | _ :: ms, _ :: as => ioIds ms as
  | _, _ => []
def rdIds : List Mode → List AV → List Nat
  | .v :: ms, .ov r _ :: as => r :: rdIds ms as
  | .v :: ms, .osub r _ _ _ :: as => r :: rdIds ms as
  | .rd :: ms, .ptr r _ :: as => r :: rdIds ms as
  | _ :: ms, _ :: as => rdIds ms as
  | _, _ => []
def tkIds : List Mode → List AV → List Nat
  | .tk :: ms, .ov r _ :: as => r :: tkIds ms as
  | .tk :: ms, .osub r _ _ _ :: as => r :: tkIds ms as
  | _ :: ms, _ :: as => tkIds ms as
  | _, _ => []
def backK {R : Type} (st : St) : List Mode → List AV → List Dy → (List (Nat × Option Ob) → List (Nat × KK) → Option R) → Option R
  | .io :: ms, .ptr r p :: as, d :: ds, k => match st.ob r with
    | none => none
    | some ob => match setMask ob.o p d.o with
      | some o2 => setK ob.s ob.x p d.s d.x fun x' => backK st ms as ds fun u q => k ((r, some { ob with x := x', o := o2 }) :: u) ((r, .wr (hasIx p && !ob.mem)) :: q)
      | _ => none
  | .iov :: ms, .ov r p :: as, d :: ds, k => match st.ob r with
    | none => none
    | some ob => match setMask ob.o p d.o with
      | some o2 => setK ob.s ob.x p d.s d.x fun x' => backK st ms as ds fun u q => k ((r, some { ob with x := x', o := o2 }) :: u) ((r, .wr (!ob.mem)) :: q)
      | _ => none
  | .v :: ms, _ :: as, ds, k => backK st ms as ds k
  | .rd :: ms, _ :: as, ds, k => backK st ms as ds k
  | .nl :: ms, _ :: as, ds, k => backK st ms as ds k
  | .tk :: ms, _ :: as, ds, k => backK st ms as ds k
  | [], [], [], k => k [] []
  | _, _, _, _ => none
def hasImm : S → O → Bool
  | .sl _ s, .own o => hasImm s o
  | .sl _ _, _ => true
  | .map _, .own _ => false
  | .map _, _ => true
  | .pair a b, o => hasImm a o.l || hasImm b o.r
  | _, _ => false
def anyImm : List Dy → Bool
  | [] => false
  | d :: l => hasImm d.s d.o || anyImm l
def resAV (keep : Bool) (d : Nat) : Nat → List Bool → List Dy → Option (List AV × List (Nat × Option Ob) × List (Nat × KK))
  | _, [], [] => some ([], [], [])
  | i, b :: bs, y :: ys =>
    match resAV keep d (i + 1) bs ys with
    | none => none
    | some (as, us, ks) =>
      let id := newId d + 1000 * i
      bif b then some (.ptr id [] :: as, (id, some { s := y.s, o := y.o, x := y.x, mem := true }) :: us, (id, .all) :: ks)
      else bif keep && !clean y.s y.o then some (.ov id [] :: as, (id, some { s := y.s, o := y.o, x := y.x }) :: us, (id, .all) :: ks)
      else some (.pv y.s y.x :: as, us, ks)
  | _, _, _ => none
def capAV : Cap → AV
  | .cp r p => .ptr r p
  | .cr s x => .rp s x
def capsAV : List Cap → List AV
  | [] => []
  | c :: l => capAV c :: capsAV l
def flat : List AV → List Par × List AV
  | [] => ([], [])
  | .fn f caps :: l => let (ps, as) := flat l; (.fn f caps.length :: ps, capsAV caps ++ as)
  | a :: l => let (ps, as) := flat l; (.one :: ps, a :: as)
def bltS (t e : TypeId) : S := .pair (.sl t .unit) (.pair (.sl e (.int .u8)) .unit)
def bltO : O := .pr .imm (.pr (.own .imm) .imm)
def mkBlt (t e : TypeId) (xs : List Int) : Ob := { s := bltS t e, o := bltO, x := ([], xs, ()), mem := true, fixed := false, pend := some [.L] }
def bltX (ob : Ob) : Option (TypeId × TypeId × List Int) :=
  match ob with
  | ⟨.pair (.sl t .unit) (.pair (.sl e (.int .u8)) .unit), .pr .imm (.pr (.own .imm) .imm), x, true, false, some [.L]⟩ => some (t, e, x.2.1)
  | _ => none
def bltK {R : Type} (st : St) (t e : TypeId) (kd : Nat) (as : List AV) (k : Eff → Option R) : Option R :=
  match as with
  | .ptr r [] :: l => (match st.ob r with
    | some ob => (match bltX ob with
      | some (t', e', xs) => bif Nat.beq t t' && Nat.beq e e' then (match kd, l with
          | 0, [.pv .str s] => ifB (pFit xs (strInts s)) (k { av := .one .dead, upd := [(r, some (mkBlt t e (pApp xs (strInts s))))], kill := [(r, .wr false)] }) none
          | 1, [] => k { av := .one (.pv (.int .i64) (pLen xs)) }
          | 2, [] => k { av := .one (.pv .str (bytesOf xs)), upd := [(r, none)], kill := [(r, .all)] }
          | _, _ => none) else none
      | none => none)
    | none => none)
  | _ => none
def onePars : List Par → Bool
  | [] => true
  | .one :: l => onePars l
  | .fn _ _ :: _ => false
def bltTy (con : List ((FuncId × List Par) × Con)) : List ((FuncId × List Par) × Con) → TypeId → Option TypeId
  | [], _ => none
  | (q, _) :: l, t => match lookCon con q.1 q.2 with
    | some c => (match c.bl with
      | some (t', e, _) => bif Nat.beq t t' then some e else bltTy con l t
      | none => bltTy con l t)
    | none => bltTy con l t
def conK {R : Type} (g : Cfg) (st : St) (d : Option Tmp) (c : Con) (as : List AV) (k : Eff → Option R) : Option R :=
    let io := ioIds c.modes as
    let rd := rdIds c.modes as
    let tk := tkIds c.modes as
    bif noDup io && noDup tk && disjN io rd && disjN tk rd && disjN tk io then
      argsK g st c.modes as fun ds => c.fn ds fun res ios =>
        let gone := bif anyImm res || anyImm ios then rd ++ tk else tk
        backK st c.modes as ios fun u q =>
          match resAV (memNat (d.getD 0) g.keep) (d.getD 0) 0 c.ptrs res with
          | some ([a], us, ks) => k { av := .one a, upd := goneU gone ++ (u ++ us), kill := goneK gone ++ (q ++ ks) }
          | some (l, us, ks) => k { av := .tup l, upd := goneU gone ++ (u ++ us), kill := goneK gone ++ (q ++ ks) }
          | none => none
    else none
def mapCon (v : S) : Con :=
  { modes := [.iov, .v, .v], ptrs := [], fn := fun ds k => match ds with
    | [⟨.map v1, .own o, m⟩, ⟨.str, _, key⟩, ⟨s2, _, x⟩] => (match decS v1 v, decS s2 v1 with
      | .isTrue _, .isTrue h => ifB (mOk m) (k [] [⟨.map v1, .own o, mSet m key (h ▸ x)⟩]) none
      | _, _ => none)
    | _ => none }
def callK {R : Type} (g : Cfg) (st : St) (d : Option Tmp) (f : FuncId) (caps : List Cap) (args : List AV) (k : Eff → Option R) : Option R :=
  let (ps, as0) := flat args
  let as := as0 ++ capsAV caps
  match lookCon g.con f ps with
  | none => none
  | some c => match c.bl with
    | some (t, e, kd) => bif onePars ps then bltK st t e kd as k else none
    | none => conK g st d c as k
def evalArgs (g : Cfg) (st : St) : List TypeId → List Operand → List AV
  | t :: ts, x :: xs => evalT g st t x :: evalArgs g st ts xs
  | [], x :: xs => evalS st none x :: evalArgs g st [] xs
  | _, [] => []
def capsOf (st : St) : List Operand → Option (List Cap)
  | [] => some []
  | x :: xs => match evalS st none x, capsOf st xs with
    | .ptr r p, some l => some (.cp r p :: l)
    | .rp s x, some l => some (.cr s x :: l)
    | _, _ => none
def eff (a : AV) : Eff := { av := .one a }
def boundK {R : Type} (st : St) (x : Option Operand) (dflt : Int) (k : Int → Option R) : Option R :=
  match x with
  | none => k dflt
  | some op => asInt? (evalS st none op) fun _ n => k n
def sndTy (g : Cfg) (ts : List TypeId) : Option S := match ts with | [_, t] => look g.ty t | _ => none
def headTy (g : Cfg) (ts : List TypeId) : Option S := match ts with | t :: _ => look g.ty t | [] => none
def builtinK {R : Type} (g : Cfg) (st : St) (d : Option Tmp) (b : Builtin) (ts : List TypeId) (args : List AV) (k : Eff → Option R) : Option R :=
  match b, headTy g ts, args with
  | .len, some .str, [.pv .str s] => k (eff (.pv (.int .i64) (pSize s)))
  | .cap, some (.sl _ _), [.z (.sl _ _)] => k (eff (.pv (.int .i64) 0))
  | .len, some (.sl _ _), [a] => slOf st a fun _ _ _ xs => k (eff (.pv (.int .i64) (pLen xs)))
  | .append, some (.sl e s0), [base, src] => (match sndTy g ts with
    | some (.sl _ _) => appendK g st d e s0 base src k
    | some .str => appendK g st d e s0 base src k
    | some (.int _) => (match src with
      | .pv (.int _) n => appendZ g st d e s0 base n k
      | _ => none)
    | _ => none)
  | .copy, some (.sl _ s0), [dst, src] => copyK st s0 dst src k
  | .min, _, [.pv (.int q) x, .pv (.int _) y] => k (eff (.pv (.int q) (pMin x y)))
  | .max, _, [.pv (.int q) x, .pv (.int _) y] => k (eff (.pv (.int q) (pMax x y)))
  | _, _, _ => none
def isNilC : Operand → Bool
  | .const (.slice none 0 0) => true
  | _ => false
noncomputable def nilBin {R : Type} (g : Cfg) (st : St) (op : BinOp) (t : TypeId) (x : Operand) (k : Eff → Option R) : Option R :=
  match look g.ty t, op with
  | some (.sl _ _), .eql => slOf st (evalT g st t x) fun _ _ _ xs => ifB (pEq (pLen xs) 0) (same (k (eff (.pv .bool true))) (k (eff (.pv .bool false)))) (k (eff (.pv .bool false)))
  | some (.sl _ _), .neq => slOf st (evalT g st t x) fun _ _ _ xs => ifB (pEq (pLen xs) 0) (same (k (eff (.pv .bool false))) (k (eff (.pv .bool true)))) (k (eff (.pv .bool true)))
  | _, _ => none
def tupOf (st : St) : Operand → Option (List AV)
  | .tmp n => match getSlot st.env n with | .tup l => some l | .one _ => none
  | _ => none
def isConstO : Operand → Bool
  | .const _ => true
  | _ => false
def lookS (g : Cfg) (t : TypeId) : Option S := match look g.ty t with
  | some s => bif isArrS s then none else some s
  | none => none
def litIx : Operand → Option Nat
  | .const (.int _ (.ofNat n)) => some n
  | _ => none
def arrAt {R : Type} (st : St) (s : S) (r : Nat) (p : Path) (n : Nat) (k : Path → Option R) : Option R :=
  match st.shp r p, shapeAt s (fpath n) with
  | some s', some sf => (match decS s' s with
    | .isTrue _ => bif isArrS s && Nat.ble 1 sf.size then k (p ++ fpath n) else none
    | .isFalse _ => none)
  | _, _ => none
def arrLen : S → Nat
  | .pair .unit .unit => 0
  | .pair _ b => arrLen b + 1
  | _ => 0
def arrDynG {R : Type} (st : St) (s : S) (r : Nat) (p : Path) (i : Int) (k : Path → Option R) : Nat → Option R
  | 0 => arrAt st s r p 0 k
  | n + 1 => ifB (pEq i (Int.ofNat (n + 1))) (arrAt st s r p (n + 1) k) (arrDynG st s r p i k n)
def arrDyn {R : Type} (st : St) (s : S) (r : Nat) (p : Path) (i : Int) (k : Path → Option R) (n : Nat) : Option R :=
  ifB (pLe 0 i) (ifB (pLt i (Int.ofNat n)) (arrDynG st s r p i k (n - 1)) none) none
def fixedAt (st : St) (a : AV) : Option (Nat × Path) :=
  match a with
  | .ov r p => match st.ob r with
    | some ob => bif ob.fixed then some (r, p) else none
    | none => none
  | _ => none
def strB (g : Cfg) (src dst : TypeId) (a : AV) : Option (TypeId × ByteArray) :=
  match look g.ty src, look g.ty dst, a with
  | some .str, some (.sl e (.int .u8)), .pv .str b => (match look g.ty e with
    | some (.int .u8) => some (e, b)
    | _ => none)
  | _, _, _ => none
noncomputable def opSem {R : Type} (g : Cfg) (st : St) (o : Oper) (k : Eff → Option R) : Option R :=
  match o.op with
  | .move x => (match tupOf st x with
    | some l => k { av := .tup l }
    | none => match evalT g st o.type x with
      | .dead => none
      | a => k (eff a))
  | .assign x => match evalT g st o.type x with
    | .dead => bif isConstO x then k (eff .dead) else none
    | .z (.sl e s) => bif memNat (o.dst.getD 0) g.flt then k (effNew o.dst false (.sl e s) (.own (g.elmOf e)) [] []) else k (eff (.z (.sl e s)))
    | .osub r p lo hi => (match p, st.ob r with
      | [], some ob => (match ob.mem, ob.fixed, ob.pend, ob.o with
        | false, false, none, .own _ => getK ob.s ob.x [] fun s x => (match s, x with
          | .sl e s', xs => setK ob.s ob.x [] (.sl e s') (sub xs lo hi) fun x' => k { av := .one (.ov r []), upd := [(r, some { ob with x := x' })], kill := [(r, .all)] }
          | _, _ => none)
        | _, _, _, _ => none)
      | _, _ => none)
    | a => k (eff a)
  | .pick c a b => asBool? (evalS st none c) fun t => ifB t (match evalT g st o.type a with | .dead => none | a => k (eff a)) (match evalT g st o.type b with | .dead => none | a => k (eff a))
  | .alloc t => match look g.ty t with
    | some s => k (effNew o.dst true s (bif memNat (o.dst.getD 0) g.flt then .imm else zmask g s) s.zero [])
    | none => (match bltTy g.con g.con t with
      | some e => k { av := .one (.ptr (newId (o.dst.getD 0)) []), upd := [(newId (o.dst.getD 0), some (mkBlt t e []))], kill := [(newId (o.dst.getD 0), .all)] }
      | none => none)
  | .box t x => match look g.ty t with
    | some s => (match fixedAt st (evalS st (some s) x) with
      | some (r, p) => atPlace st r p fun s' _ _ => (match decS s' s with | .isTrue _ => k (eff (.bx r p)) | .isFalse _ => none)
      | none => bif memNat (o.dst.getD 0) g.flt then (match evalS st (some s) x with
          | .pv s' y => cast? s' s y fun y => k (eff (.rp s y))
          | _ => none)
        else partOf g st (evalS st (some s) x) fun s' o' y c => cast? s' s y fun y => k (effNew o.dst true s o' y c))
    | none => none
  | .build t parts => match look g.ty t with
    | some s => bif s.isAgg then buildK g st s parts.toList s.zero (bif memNat (o.dst.getD 0) g.flt then .imm else zmask g s) [] fun x m c => k (effMade o.dst s m x c) else none
    | none => none
  | .buildSlice t n parts => match look g.ty t with
    | some (.sl e s) => bif Nat.ble (n * s.size) 16777216 then
        partsK g st s parts.toList (replic s.zero n) none [] fun xs m c => k (effNew o.dst false (.sl e s) (.own (m.getD (g.elmOf e))) xs c)
      else none
    | _ => none
  | .load t a => match look g.ty t with
    | none => none
    | some s => match evalS st none a with
      | .rp s' x => cast? s' s x fun x => k (eff (.pv s x))
      | .ptr r p => atPlace st r p fun s' m x => (match decS s' s with | .isTrue _ => k (eff (mkAV r p s' m x)) | .isFalse _ => none)
      | .bx r p => atPlace st r p fun s' m x => (match decS s' s with | .isTrue _ => k (eff (mkAV r p s' m x)) | .isFalse _ => none)
      | _ => none
  | .store t a x => match look g.ty t with
    | none => none
    | some s => match evalS st none a with
      | .ptr r p => (match st.shp r p with
        | some s' => (match decS s' s with | .isTrue _ => storeK g st r p (evalS st (some s) x) k | .isFalse _ => none)
        | none => none)
      | _ => none
  | .nilCheck x => match evalS st none x with
    | .ptr r p => k (eff (.ptr r p))
    | .rp s y => k (eff (.rp s y))
    | .fn f c => k (eff (.fn f c))
    | _ => none
  | .binOp op t x y _ => bif isNilC y then nilBin g st op t x k else match evalT g st t x, evalT g st t y with
    | .pv (.int q) a, .pv (.int q') b => (match op with
      | .quo => (match decK q q' with | .isTrue _ => ifB (pEq b 0) none (k (eff (.pv (.int q) (pQuo q a b)))) | .isFalse _ => none)
      | .rem => (match decK q q' with | .isTrue _ => ifB (pEq b 0) none (k (eff (.pv (.int q) (pRem a b)))) | .isFalse _ => none)
      | .shl => ifB (pLt b 0) none (k (eff (.pv (.int q) (pShl q a b))))
      | .shr => ifB (pLt b 0) none (k (eff (.pv (.int q) (pShr q a b))))
      | _ => (match decK q q' with | .isTrue _ => (match bin op q a b with | .dead => none | v => k (eff v)) | .isFalse _ => none))
    | .pv .str a, .pv .str b => (match op with
      | .add => ifB (pFitS a b) (k (eff (.pv .str (pCat a b)))) none
      | .eql => k (eff (.pv .bool (pSEq a b)))
      | .neq => k (eff (.pv .bool (pNot (pSEq a b))))
      | .lss => k (eff (.pv .bool (pSLt a b)))
      | .leq => k (eff (.pv .bool (pOr2 (pSLt a b) (pSEq a b))))
      | .gtr => k (eff (.pv .bool (pNot (pOr2 (pSLt a b) (pSEq a b)))))
      | .geq => k (eff (.pv .bool (pNot (pSLt a b))))
      | _ => none)
    | .pv .bool a, .pv .bool b => (match look g.ty t, op with
      | some .bool, .eql => k (eff (.pv .bool (pBeq a b)))
      | some .bool, .neq => k (eff (.pv .bool (pNot (pBeq a b))))
      | _, _ => none)
    | .pv (.pair a1 b1) a, .pv (.pair a2 b2) b => bif twice g.ty t then (match look g.ty t with
      | some s0 => cast? (.pair a1 b1) s0 a fun a => cast? (.pair a2 b2) s0 b fun b => cmpK op (eqS s0 a b) fun e => k (eff (.pv .bool e))
      | none => none) else none
    | _, _ => none
  | .unOp op _ x => match op, evalS st none x with
    | .not, .pv .bool b => k (eff (.pv .bool (pNot b)))
    | .neg, .pv (.int q) n => k (eff (.pv (.int q) (pSub q 0 n)))
    | _, _ => none
  | .convert src dst x => match strB g src dst (evalT g st src x) with
    | some (e, b) => k (effNew o.dst false (.sl e (.int .u8)) (.own .imm) (strInts b) [])
    | none => match look g.ty src, look g.ty dst, evalT g st src x with
    | some (.int _), some (.int q), .pv (.int _) n => k (eff (.pv (.int q) (pConv q n)))
    | some .str, some .str, .pv .str b => k (eff (.pv .str b))
    | some (.sl e (.int .u8)), some .str, a => (match look g.ty e with
      | some (.int .u8) => slOf st a fun _ s _ xs => castL? s (.int .u8) xs fun xs => k (eff (.pv .str (bytesOf xs)))
      | _ => none)
    | _, _, _ => none
  | .makeFunc fn first caps => match fn, first.toList with
    | .func f, [] => (match capsOf st caps.toList with | some l => k (eff (.fn f l)) | none => none)
    | _, _ => none
  | .makeSlice t l c => match look g.ty t with
    | some (.sl e s) => asInt? (evalS st none l) fun _ n => asInt? (evalS st none c) fun _ m =>
        ifB (pEq n m) (ifB (pLe 0 n) (ifB (pLe n 68719476736) (k (effNew o.dst false (.sl e s) (.own (g.elmOf e)) (pRepl n s.zero) [])) none) none) none
    | _ => none
  | .makeMap t r => match look g.ty t, (match r with | none => true | some x => (match evalS st none x with | .pv (.int _) _ => true | _ => false)) with
    | some (.map v), true => k (effNew o.dst false (.map v) (.own .imm) mNew [])
    | _, _ => none
  | .lookup t x i ok => match look g.ty t, evalS st none i with
    | some (.map v0), .pv .str key => mapOf st (evalT g st t x) fun v m => (match decS v v0 with
      | .isTrue _ => bif ok then k { av := .tup [.pv v (mGetV v m key), .pv .bool (mHas m key)] } else k (eff (.pv v (mGetV v m key)))
      | .isFalse _ => none)
    | _, _ => none
  | .mapUpdate t m key x | .insert t m key x => match look g.ty t, o.dst with
    | some (.map v), none => conK g st none (mapCon v) [evalT g st t m, evalS st none key, evalS st (some v) x] k
    | _, _ => none
  | .slice t x lo hi none => match look g.ty t, evalT g st t x with
    | some .str, .pv .str b => boundK st lo 0 fun l => boundK st hi (pSize b) fun h =>
        ifB (pLe 0 l) (ifB (pLe l h) (ifB (pLe h (pSize b)) (k (eff (.pv .str (ssub b l h)))) none) none) none
    | some (.sl _ s0), .pv (.sl e s) xs => castL? s s0 xs fun xs => boundK st lo 0 fun l => boundK st hi (pLen xs) fun h =>
        ifB (pLe 0 l) (ifB (pLe l h) (ifB (pLe h (pLen xs)) (k (eff (.pv (.sl e s0) (sub xs l h)))) none) none) none
    | some (.sl _ s0), .ov r p => atPlace st r p fun s _ x => (match s, x with
      | .sl _ s1, xs => (match decS s1 s0 with
        | .isTrue _ => boundK st lo 0 fun l => boundK st hi (pLen xs) fun h =>
          ifB (pLe 0 l) (ifB (pLe l h) (ifB (pLe h (pLen xs)) (k (eff (.osub r p l h))) none) none) none
        | .isFalse _ => none)
      | _, _ => none)
    | some (.sl e0 s0), .z (.sl e s) => (match Nat.decEq e0 e, decS s0 s with
      | .isTrue _, .isTrue _ => boundK st lo 0 fun l => boundK st hi 0 fun h => ifB (pEq l 0) (ifB (pEq h 0) (k (eff (.z (.sl e s)))) none) none
      | _, _ => none)
    | _, _ => none
  | .fieldAddr t x f => match lookS g t, evalS st none x with
    | some s, .ptr r p => (match st.shp r p with
      | some s' => (match decS s' s with
        | .isTrue _ => (match shapeAt s (fpath f) with | some _ => k (eff (.ptr r (p ++ fpath f))) | none => none)
        | .isFalse _ => none)
      | none => none)
    | some s, .rp s' y => cast? s' s y fun y => getK s y (fpath f) fun s2 y2 => k (eff (.rp s2 y2))
    | some s, .bx r p => (match st.shp r p with
      | some s' => (match decS s' s with
        | .isTrue _ => (match shapeAt s (fpath f) with | some _ => k (eff (.bx r (p ++ fpath f))) | none => none)
        | .isFalse _ => none)
      | none => none)
    | _, _ => none
  | .field t x f => match lookS g t, evalT g st t x with
    | some s, .pv s' y => cast? s' s y fun y => getK s y (fpath f) fun s2 y2 => k (eff (.pv s2 y2))
    | some s, .ov r p => atPlace st r p fun s' m y => (match decS s' s with
        | .isTrue _ => getK s' y (fpath f) fun s2 y2 => k (eff (mkAV r (p ++ fpath f) s2 (maskAt m (fpath f)) y2))
        | .isFalse _ => none)
    | _, _ => none
  | .indexAddr t x ix => asInt? (evalS st none ix) fun _ i => match look g.ty t, evalT g st t x with
    | some (.sl _ s0), .pv (.sl _ s) xs => castL? s s0 xs fun xs => bindO (idx xs i) fun y => k (eff (.rp s0 y))
    | some (.sl _ s0), .ov r p => atPlace st r p fun s _ y => (match s, y with
      | .sl _ s1, xs => (match decS s1 s0 with
        | .isTrue _ => bindO (idx xs i) fun _ => k (eff (.ptr r (p ++ [.ix i])))
        | .isFalse _ => none)
      | _, _ => none)
    | some s, .ptr r p => (match litIx ix with
      | some n => arrAt st s r p n fun q => k (eff (.ptr r q))
      | none => arrDyn st s r p i (fun q => k (eff (.ptr r q))) (arrLen s))
    | _, _ => none
  | .index t x ix => asInt? (evalS st none ix) fun _ i => match look g.ty t, evalT g st t x with
    | some .str, .pv .str b => bindO (bidx b i) fun n => k (eff (.pv (.int .u8) n))
    | _, _ => none
  | .extract t i => match t with
    | .tmp n => (match getSlot st.env n with
      | .tup l => (match l[i]? with | some .dead => none | some a => k (eff a) | none => none)
      | .one _ => none)
    | _ => none
  | .call c => match c.callee with
    | .builtin b => builtinK g st o.dst b c.argTypes.toList (evalArgs g st c.argTypes.toList c.args.toList) k
    | .value f => (match evalS st none f with
      | .fn f caps => callK g st o.dst f caps (evalArgs g st c.argTypes.toList c.args.toList) k
      | _ => none)
    | .invoke _ _ => none
  | _ => none
def opers (l : List Oper) (i : Nat) : Option Oper := match l, i with
  | [], _ => none
  | o :: _, 0 => some o
  | _ :: l, i + 1 => opers l i
def dstOf (l : List Oper) (i : Nat) : Option Tmp := match opers l i with | some o => o.dst | none => none
def isPick (c : Tmp) (o : Oper) : Bool := match o.op with
  | .pick (.tmp t) _ _ => Nat.beq t c
  | _ => false
def splitPick (c : Tmp) : List Oper → Option (List Oper × Oper × List Oper)
  | [] => none
  | o :: l => bif isPick c o then some ([], o, l) else
    match splitPick c l with
    | some (a, p, r) => some (o :: a, p, r)
    | none => none
def fresh (st : St) (e : Eff) : Bool :=
  go e.upd
where
  go : List (Nat × Option Ob) → Bool
    | [] => true
    | (_, none) :: _ => false
    | (r, some _) :: l => (match st.ob r with | none => true | some _ => false) && go l
def deadAll : List Oper → List SV → List SV
  | [], env => env
  | o :: l, env => deadAll l (match o.dst with | some d => setSlot env d (.one .dead) | none => env)
def dstsOf : List Oper → List Tmp
  | [] => []
  | o :: l => match o.dst with | some d => d :: dstsOf l | none => dstsOf l
def skips (all : List Oper) (c : Tmp) (pol : Bool) : List Tmp → List Oper → Bool
  | _, [] => true
  | ds, o :: l => match o.guard with
    | none => false
    | some (j, q) => match dstOf all j with
      | none => false
      | some c' => ((Nat.beq c' c && (bif pol then q else !q)) || memNat c' ds) && skips all c pol (match o.dst with | some d => d :: ds | none => ds) l
def runs (all : List Oper) (st : St) (ds : List Tmp) (o : Oper) : Bool :=
  match o.guard with
  | none => true
  | some (j, q) => match dstOf all j with
    | none => false
    | some c' => match getSlot st.env c' with
      | .one (.pv .bool v) => !memNat c' ds && (bif q then v else !v)
      | _ => false
def stB (st : St) (c : Tmp) (v : Bool) : St := { st with env := setSlot st.env c (.one (.pv .bool v)) }
def stSkip (st : St) (d : Option Tmp) : St := match d with | some d => { st with env := setSlot st.env d (.tup []) } | none => st
def stMerge (st : St) (seg : List Oper) (d : Tmp) (r : Bool) : St := { st with env := setSlot (deadAll seg st.env) d (.one (.pv .bool r)) }
def modesImp : List Mode → Bool
  | [] => false
  | .io :: _ | .iov :: _ | .tk :: _ => true
  | _ :: l => modesImp l
def conImp : List ((FuncId × List Par) × Con) → FuncId → Bool
  | [], _ => false
  | (k, c) :: l, f => (Nat.beq k.1 f && modesImp c.modes) || conImp l f
def segImp (g : Cfg) (st : St) : List Oper → Bool
  | [] => false
  | o :: l => (match o.op with
    | .call c => (match c.callee with
      | .value f => (match evalS st none f with
        | .fn f _ => conImp g.con f
        | _ => false)
      | _ => false)
    | _ => false) || segImp g st l
noncomputable def evalOps (g : Cfg) (all : List Oper) : Nat → {R : Type} → Bool → List Oper → St → (St → Option R) → Option R
  | 0, _, _, _, _, _ => none
  | _ + 1, _, _, [], st, k => k st
  | n + 1, R, pu, o :: rest, st, k =>
    let run (st : St) : Option R := opSem g st o fun e => bif !pu || fresh st e then evalOps g all n pu rest (st.apply o.dst e) k else none
    match o.guard with
    | none => run st
    | some (i, pol) =>
      match dstOf all i with
      | none => none
      | some c => match getSlot st.env c with
        | .one (.pv .bool b) =>
          let plain : Option R := ifB b
            (bif pol then run (stB st c true) else evalOps g all n pu rest (stSkip (stB st c true) o.dst) k)
            (bif pol then evalOps g all n pu rest (stSkip (stB st c false) o.dst) k else run (stB st c false))
          match splitPick c (o :: rest) with
          | some (seg, pk, rest') =>
            (match pk.op, pk.dst with
            | .pick _ x y, some d =>
              bif (runs all st (dstsOf seg) pk && skips all c pol [] seg && !memNat c (dstsOf seg)) && !segImp g st seg then
                bindO (ifB b
                  (bif pol then evalOps g all n true seg (stB st c true) fun st' => asBool? (evalT g st' pk.type x) some else asBool? (evalT g { st with env := deadAll seg st.env } pk.type x) some)
                  (bif pol then asBool? (evalT g { st with env := deadAll seg st.env } pk.type y) some else evalOps g all n true seg (stB st c false) fun st' => asBool? (evalT g st' pk.type y) some))
                fun r => evalOps g all n pu rest' (stMerge st seg d r) k
              else plain
            | _, _ => plain)
          | none => plain
        | _ => none
def firstRegion : Code → Option Nat
  | .region id _ _ => some id
  | .seq a b => match firstRegion a with | some n => some n | none => firstRegion b
  | .block _ c => firstRegion c
  | .loop c => firstRegion c
  | .cond _ a b => match firstRegion a with | some n => some n | none => firstRegion b
  | .scope c => firstRegion c
  | _ => none
def loopKey : Code → Option Nat
  | .region id _ _ => some id
  | .seq a b => match loopKey a with | some n => some n | none => loopKey b
  | .block _ c => loopKey c
  | .loop c => match loopKey c with | some n => some (n + 1000000) | none => none
  | .cond _ a b => match loopKey a with | some n => some n | none => loopKey b
  | .scope c => loopKey c
  | _ => none
def keepSlots (live : List Tmp) : Nat → List SV → List SV
  | _, [] => []
  | i, a :: l => (bif memNat i live then a else .one .dead) :: keepSlots live (i + 1) l
def refsAV : AV → List Nat
  | .ptr r _ | .ov r _ | .osub r _ _ _ | .app r _ | .bx r _ => [r]
  | .fn _ caps => refsCaps caps
  | _ => []
where
  refsCaps : List Cap → List Nat
    | [] => []
    | .cp r _ :: l => r :: refsCaps l
    | .cr _ _ :: l => refsCaps l
def refsL : List AV → List Nat
  | [] => []
  | a :: l => refsAV a ++ refsL l
def refsSV : SV → List Nat
  | .one a => refsAV a
  | .tup l => refsL l
def refsEnv : List SV → List Nat
  | [] => []
  | .one a :: l => refsAV a ++ refsEnv l
  | .tup as :: l => refsL as ++ refsEnv l
def uniq : List Nat → List Nat → List Nat
  | [], acc => acc
  | a :: l, acc => bif Nat.ble 50 a && !memNat a acc then uniq l (acc ++ [a]) else uniq l acc
def posOf : List Nat → Nat → Nat → Option Nat
  | [], _, _ => none
  | a :: l, n, i => bif Nat.beq a n then some i else posOf l n (i + 1)
def renN (u : List Nat) (r : Nat) : Nat := bif Nat.ble 50 r then (match posOf u r 50 with | some i => i | none => r) else r
def renCap (u : List Nat) : Cap → Cap
  | .cp r p => .cp (renN u r) p
  | .cr s x => .cr s x
def renCaps (u : List Nat) : List Cap → List Cap
  | [] => []
  | c :: l => renCap u c :: renCaps u l
def renAV (u : List Nat) : AV → AV
  | .ptr r p => .ptr (renN u r) p
  | .ov r p => .ov (renN u r) p
  | .osub r p lo hi => .osub (renN u r) p lo hi
  | .app r p => .app (renN u r) p
  | .bx r p => .bx (renN u r) p
  | .fn f caps => .fn f (renCaps u caps)
  | a => a
def renL (u : List Nat) : List AV → List AV
  | [] => []
  | a :: l => renAV u a :: renL u l
def renEnv (u : List Nat) : List SV → List SV
  | [] => []
  | .one a :: l => .one (renAV u a) :: renEnv u l
  | .tup as :: l => .tup (renL u as) :: renEnv u l
def permObs : List (Nat × Ob) → List (Nat × Ob)
  | [] => []
  | (n, b) :: l => bif Nat.ble 50 n then permObs l else (n, b) :: permObs l
def pickObs (objs : List (Nat × Ob)) : List Nat → Nat → List (Nat × Ob)
  | [], _ => []
  | r :: l, i => match look objs r with
    | some b => (i, b) :: pickObs objs l (i + 1)
    | none => pickObs objs l (i + 1)
def norm (live : List Tmp) (st : St) : St :=
  let env := keepSlots live 0 st.env
  let u := uniq (refsEnv env) []
  bif noDup u then { env := renEnv u env, objs := permObs st.objs ++ pickObs st.objs u 50 } else st
def headCond : Code → Bool
  | .cond _ _ _ => true
  | .seq a _ => headCond a
  | .block _ c => headCond c
  | .scope c => headCond c
  | _ => false
def normAt (g : Cfg) (c : Code) (st : St) : St :=
  bif headCond c then st else
  match firstRegion c with
  | some id => match look g.live id with
    | some live => norm live st
    | none => st
  | none => st
@[reducible] def capsD : List SkC → Type → Type
  | [], T => T
  | .cp _ _ :: l, T => capsD l T
  | .cr s :: l, T => den s × capsD l T
@[reducible] def envD : List Sk → Type → Type
  | [], T => T
  | .pv s :: l, T => den s × envD l T
  | .rp s :: l, T => den s × envD l T
  | .fn _ caps :: l, T => capsD caps (envD l T)
  | .dead :: l, T => envD l T
  | .ptr _ _ :: l, T => envD l T
  | .ov _ _ :: l, T => envD l T
@[reducible] def obsD : List SkO → Type
  | [] => Unit
  | b :: l => den b.s × obsD l
@[reducible] def Skel.D (k : Skel) : Type := envD k.env (obsD k.objs)
def mkCaps : (l : List SkC) → {T : Type} → capsD l T → List Cap × T
  | [], _, t => ([], t)
  | .cp r p :: l, _, t => let q := mkCaps l t; (.cp r p :: q.1, q.2)
  | .cr s :: l, _, t => let q := mkCaps l t.2; (.cr s t.1 :: q.1, q.2)
def mkEnv : (l : List Sk) → {T : Type} → envD l T → List SV × T
  | [], _, t => ([], t)
  | .dead :: l, _, t => let q := mkEnv l t; (.one .dead :: q.1, q.2)
  | .pv s :: l, _, t => let q := mkEnv l t.2; (.one (.pv s t.1) :: q.1, q.2)
  | .rp s :: l, _, t => let q := mkEnv l t.2; (.one (.rp s t.1) :: q.1, q.2)
  | .ptr r p :: l, _, t => let q := mkEnv l t; (.one (.ptr r p) :: q.1, q.2)
  | .ov r p :: l, _, t => let q := mkEnv l t; (.one (.ov r p) :: q.1, q.2)
  | .fn f caps :: l, _, t => let c := mkCaps caps t; let q := mkEnv l c.2; (.one (.fn f c.1) :: q.1, q.2)
def pendOf (s : S) : Option Path := bif notBlt s then none else some [.L]
def pendIs (s : S) : Option Path → Bool
  | none => notBlt s
  | some [.L] => !notBlt s
  | _ => false
def mkObs : (l : List SkO) → obsD l → List (Nat × Ob)
  | [], _ => []
  | b :: l, t => (b.r, { s := b.s, o := b.o, x := t.1, mem := b.mem, fixed := b.fixed, pend := pendOf b.s }) :: mkObs l t.2
def Skel.mk' (k : Skel) (d : k.D) : St := { env := (mkEnv k.env d).1, objs := mkObs k.objs (mkEnv k.env d).2 }
def stpEq : Stp → Stp → Bool
  | .L, .L => true
  | .R, .R => true
  | _, _ => false
def pathEq : Path → Path → Bool
  | [], [] => true
  | a :: p, b :: q => stpEq a b && pathEq p q
  | _, _ => false
def fitCaps : (l : List SkC) → List Cap → {T : Type} → Option (T → capsD l T)
  | [], [], _ => some fun t => t
  | .cp r p :: l, .cp r' p' :: cs, T => bif Nat.beq r r' && pathEq p p' then (match fitCaps l cs (T := T) with | some f => some f | none => none) else none
  | .cr s :: l, .cr s' x :: cs, T => match decS s' s, fitCaps l cs (T := T) with
    | .isTrue h, some f => some fun t => (h ▸ x, f t)
    | _, _ => none
  | _, _, _ => none
def fitEnv : (l : List Sk) → List SV → {T : Type} → Option (T → envD l T)
  | [], [], _ => some fun t => t
  | .dead :: l, _ :: env, T => match fitEnv l env (T := T) with | some f => some f | none => none
  | .pv s :: l, .one (.pv s' x) :: env, T => (match decS s' s, fitEnv l env (T := T) with
    | .isTrue h, some f => some fun t => (h ▸ x, f t)
    | _, _ => none)
  | .pv s :: l, .one (.z s') :: env, T => (match decS s' s, fitEnv l env (T := T) with
    | .isTrue _, some f => some fun t => (s.zero, f t)
    | _, _ => none)
  | .rp s :: l, .one (.rp s' x) :: env, T => (match decS s' s, fitEnv l env (T := T) with
    | .isTrue h, some f => some fun t => (h ▸ x, f t)
    | _, _ => none)
  | .ptr r p :: l, .one (.ptr r' p') :: env, T => bif Nat.beq r r' && pathEq p p' then (match fitEnv l env (T := T) with | some f => some f | none => none) else none
  | .ov r p :: l, .one (.ov r' p') :: env, T => bif Nat.beq r r' && pathEq p p' then (match fitEnv l env (T := T) with | some f => some f | none => none) else none
  | .fn f caps :: l, .one (.fn f' cs) :: env, T => bif Nat.beq f f' then (match fitCaps caps cs (T := envD l T), fitEnv l env (T := T) with
    | some g, some h => some fun t => g (h t)
    | _, _ => none) else none
  | _, _, _ => none
def fitObs : (l : List SkO) → List (Nat × Ob) → Option (obsD l)
  | [], [] => some ()
  | b :: l, (r, ob) :: obs => match decS ob.s b.s, pendIs b.s ob.pend, fitObs l obs with
    | .isTrue h, true, some t => bif Nat.beq b.r r && b.o.beq ob.o && (bif b.mem then ob.mem else !ob.mem) && (bif b.fixed then ob.fixed else !ob.fixed) then some (h ▸ ob.x, t) else none
    | _, _, _ => none
  | _, _ => none
def fitK {R : Type} (k : Skel) (st : St) (c : k.D → Option R) : Option R :=
  match fitEnv k.env st.env (T := obsD k.objs), fitObs k.objs st.objs with
  | some f, some t => c (f t)
  | _, _ => none
def Ex.is : Ex → Exit → Bool
  | .normal, .normal => true
  | .exit i, .exit j => Nat.beq i j
  | .ret, .ret => true
  | _, _ => false
def Ex.to : Ex → Exit
  | .normal => .normal
  | .exit i => .exit i
  | .ret => .ret
@[reducible] def XD : List XS → Type
  | [] => Empty
  | [x] => x.sk.D
  | x :: xs => x.sk.D ⊕ XD xs
def onSum {A B R : Type} (f : A → Option R) (g : B → Option R) (x : A ⊕ B) : Option R := match x with | .inl a => f a | .inr b => g b
def exOut {R : Type} : (l : List XS) → Exit → St → (XD l → Option R) → Option R
  | [], _, _, _ => none
  | [x], ex, st, k => bif x.ex.is ex then fitK x.sk (norm x.live st) k else none
  | x :: y :: xs, ex, st, k => bif x.ex.is ex then fitK x.sk (norm x.live st) fun d => k (.inl d) else exOut (y :: xs) ex st fun d => k (.inr d)
def exK {R : Type} (k : Exit → St → Option R) : (l : List XS) → XD l → Option R
  | [], _ => none
  | [x], d => k x.ex.to (x.sk.mk' d)
  | x :: y :: xs, e => onSum (fun d => k x.ex.to (x.sk.mk' d)) (fun d => exK k (y :: xs) d) e
def loopP {D E R : Type} (step : D → (D → Option R) → (E → Option R) → Option R) : Nat → D → (E → Option R) → Option R
  | 0, _, _ => none
  | n + 1, d, k => step d (fun d' => loopP step n d' k) k
def stCond (st : St) (c : Operand) (v : Bool) : St := match c with | .tmp n => stB st n v | _ => st
def predsIn : List Edge → List Nat
  | [] => []
  | e :: l => match e.ground with
    | .textOnly _ => predsIn l
    | .gcOnly _ => predsIn l
    | _ => e.on :: predsIn l
def cloMask (acc : List (Nat × Nat)) : List Nat → Nat
  | [] => 0
  | p :: ps => (1 <<< p) ||| ((match look acc p with | some m => m | none => 0) ||| cloMask acc ps)
def isNilBin (o : Oper) : Bool := match o.op with | .binOp _ _ _ y _ => isNilC y | _ => false
def needsMem (o : Oper) : Bool :=
  match o.op with
  | .move _ | .extract .. | .unOp .. => false
  | .binOp _ _ _ y _ => isNilC y
  | _ => true
def opndsOf : List Operand → List Tmp
  | [] => []
  | .tmp t :: l => t :: opndsOf l
  | _ :: l => opndsOf l
def opOpnds (o : Op) : List Operand :=
  match o with
  | .move x | .nilCheck x | .fieldAddr _ x _ | .field _ x _ | .load _ x | .unOp _ _ x | .extract x _ | .convert _ _ x | .assign x | .box _ x => [x]
  | .makeSlice _ x y | .store _ x y => [x, y]
  | .indexAddr _ x y | .index _ x y | .binOp _ _ x y _ => [x, y]
  | .pick c x y => [c, x, y]
  | .makeFunc _ _ caps => caps.toList
  | .makeMap _ r => (match r with | some x => [x] | none => [])
  | .lookup _ x i _ => [x, i]
  | .mapUpdate _ m k x | .insert _ m k x => [m, k, x]
  | .slice _ x lo hi _ => x :: ((match lo with | some a => [a] | none => []) ++ (match hi with | some a => [a] | none => []))
  | .build _ ps => ps.toList.map (·.2)
  | .buildSlice _ _ ps => ps.toList.map (·.2)
  | .call c => (match c.callee with | .value f => [f] | _ => []) ++ c.args.toList
  | _ => []
def looksB (all : List Oper) (o : Oper) : List Tmp :=
  (match o.guard with | some (i, _) => (match dstOf all i with | some c => [c] | none => []) | none => []) ++ opndsOf (opOpnds o.op)
def isDst (o : Oper) (l : List Tmp) : Bool := match o.dst with | some d => memNat d l | none => false
def apartB (all : List Oper) (x y : Oper) : Bool :=
  !isDst x (looksB all y) && !isDst y (looksB all x) &&
  (match x.dst, y.dst with | some d, some e => !Nat.beq d e | _, _ => true)
abbrev DIt := Nat × Nat × Bool × Oper
structure LogE where
  i : Nat
  mem : Bool
  vals : List SV
  e : Eff
def doneHas : List (Nat × Oper) → Nat → Bool
  | [], _ => false
  | (i, _) :: l, j => Nat.beq i j || doneHas l j
def allDone (done : List (Nat × Oper)) : List Nat → Bool
  | [] => true
  | p :: ps => doneHas done p && allDone done ps
def okWith (all : List Oper) (m : Nat) (o : Oper) : List (Nat × Oper) → Bool
  | [] => true
  | (i, x) :: l => (m.testBit i || (apartB all x o && !isNilBin x)) && okWith all m o l
def anyFree (m : Nat) : List (Nat × Oper) → Bool
  | [] => false
  | (i, _) :: l => !m.testBit i || anyFree m l
def drawPlan (all : List Oper) : List Nat → List (Nat × Oper) → List (Nat × Nat) → Option (List DIt)
  | [], _, _ => some []
  | j :: rest, done, acc =>
    match opers all j with
    | none => none
    | some o =>
      let ps := predsIn o.after.toList
      let m := cloMask acc ps
      bif allDone done ps && !doneHas done j && okWith all m o done then
        match drawPlan all rest ((j, o) :: done) ((j, m) :: acc) with
        | some l => some ((j, m, anyFree m done, o) :: l)
        | none => none
      else none
def keysU (ids : List Nat) : List (Nat × Option Ob) → Bool
  | [] => true
  | (r, _) :: l => !memNat r ids && keysU ids l
def keysOf : List (Nat × Option Ob) → List Nat
  | [] => []
  | (r, _) :: l => r :: keysOf l
def hitSV (r : Nat) (k : KK) : SV → Bool
  | .one a => hit r k a
  | .tup l => anyHit r k l
def hitsK (v : SV) : List (Nat × KK) → Bool
  | [] => false
  | (r, k) :: l => hitSV r k v || hitsK v l
def getSlots (env : List SV) : List Tmp → List SV
  | [] => []
  | n :: l => getSlot env n :: getSlots env l
def valsOf (st : St) (o : Oper) : List SV := getSlots st.env (opndsOf (opOpnds o.op))
def isDeadSV : SV → Bool
  | .one .dead => true
  | _ => false
def noDead : List SV → Bool
  | [] => true
  | v :: l => !isDeadSV v && noDead l
def offV (e : Eff) (mem : Bool) : List SV → Bool
  | [] => true
  | v :: l => !hitsK v e.kill && (bif mem then keysU (refsSV v) e.upd else true) && offV e mem l
def offU (e : Eff) (mem : Bool) : List SV → Bool
  | [] => true
  | v :: l => (bif mem then keysU (refsSV v) e.upd else true) && offU e mem l
def commB (x : LogE) (mem : Bool) (vals : List SV) (e : Eff) : Bool :=
  keysU (keysOf x.e.upd) e.upd && !hitsK x.e.av e.kill && !hitsK e.av x.e.kill && offV e x.mem x.vals && offU x.e mem vals
def chkAll (m : Nat) (mem : Bool) (vals : List SV) (e : Eff) : List LogE → Bool
  | [] => true
  | x :: L => (m.testBit x.i || commB x mem vals e) && chkAll m mem vals e L
def chkL (fr : Bool) (m : Nat) (L : List LogE) (mem : Bool) (vals : List SV) (e : Eff) : Bool :=
  bif fr then noDead vals && chkAll m mem vals e L else true
noncomputable def evalDraw (g : Cfg) (all : List Oper) : {R : Type} → List DIt → List LogE → St → (St → Option R) → Option R
  | _, [], _, st, k => k st
  | R, (j, m, fr, o) :: l, L, st, k =>
    let run (st : St) : Option R := opSem g st o fun e => bif chkL fr m L (needsMem o) (valsOf st o) e then
      evalDraw g all l ({ i := j, mem := needsMem o, vals := valsOf st o, e } :: L) (st.apply o.dst e) k else none
    match o.guard with
    | none => run st
    | some (i, pol) => match dstOf all i with
      | none => none
      | some c => match getSlot st.env c with
        | .one (.pv .bool b) => ifB b
            (bif pol then run (stB st c true) else evalDraw g all l L (stSkip (stB st c true) o.dst) k)
            (bif pol then evalDraw g all l L (stSkip (stB st c false) o.dst) k else run (stB st c false))
        | .tup [] => evalDraw g all l L (stSkip st o.dst) k
        | _ => none
def allGt (n : Nat) : List (Nat × Ob) → Bool
  | [] => true
  | (m, _) :: l => Nat.ble (n + 1) m && allGt n l
def sortedK : List (Nat × Ob) → Bool
  | [] => true
  | (n, _) :: l => allGt n l && sortedK l
def upTo : Nat → Nat → List Nat
  | _, 0 => []
  | i, n + 1 => i :: upTo (i + 1) n
def ordOf (g : Cfg) (id : Nat) (n : Nat) : List Nat := match look g.ord id with | some l => l | none => upTo 0 n
def coverN (l : List Nat) : Nat → Bool
  | 0 => true
  | n + 1 => memNat n l && coverN l n
def joinAt (g : Cfg) (b : Code) : Option (List XS) := match firstRegion b with | some id => lookJoin g.joins id | none => none
noncomputable def code (g : Cfg) (N : Nat) : Code → {R : Type} → St → (Exit → St → Option R) → Option R
  | .skip, _, st, k => k .normal st
  | .region id ops draw, _, st, k => bif draw then
      (bif Nat.beq (ordOf g id ops.toList.length).length ops.toList.length && coverN (ordOf g id ops.toList.length) ops.toList.length && sortedK st.objs then
        match drawPlan ops.toList (ordOf g id ops.toList.length) [] [] with
        | some l => evalDraw g ops.toList l [] st fun st' => k .normal st'
        | none => none
      else none)
    else evalOps g ops.toList (ops.toList.length + 1) false ops.toList st fun st' => k .normal st'
  | .seq a b, _, st, k => match joinAt g b with
    | none => code g N a st fun ex st' => match ex with
      | .normal => code g N b (normAt g b st') k
      | ex => k ex st'
    | some xs => bindO (code g N a st fun ex st' => exOut xs ex st' some) fun e => exK (fun ex st' => match ex with
      | .normal => code g N b (normAt g b st') k
      | ex => k ex st') xs e
  | .cond c a b, _, st, k => asBool? (evalS st none c) fun t =>
      ifB t (code g N a (stCond st c true) k) (code g N b (stCond st c false) k)
  | .block id c, _, st, k => code g N c st fun ex st' => match ex with
    | .exit id' => bif Nat.beq id' id then k .normal st' else k (.exit id') st'
    | ex => k ex st'
  | .loop c, _, st, k => match loopKey c with
    | some id => (match lookLoop g.loops id with
      | some L => L.run (normAt g c st) k
      | none => none)
    | none => none
  | .exit id, _, st, k => k (.exit id) st
  | .scope c, _, st, k => code g N c st fun ex st' => match ex with
    | .goto _ => none
    | ex => k ex st'
  | .ret, _, st, k => k .ret st
  | _, _, _, _ => none
noncomputable def roundK {R : Type} (g : Cfg) (N : Nat) (c : Code) (sk : Skel) (xs : List XS) (d : sk.D) (kn : sk.D → Option R) (kx : XD xs → Option R) : Option R :=
  code g N c (sk.mk' d) fun ex st => match ex with
    | .normal => fitK sk (normAt g c st) kn
    | ex => exOut xs ex st kx
def loopCon (N : Nat) (sk : Skel) (xs : List XS) (step : {R : Type} → sk.D → (sk.D → Option R) → (XD xs → Option R) → Option R) : LoopCon :=
  { run := fun st k => fitK sk st fun d => loopP step N d fun e => exK k xs e }
def resultK {R : Type} (st : St) (isPtr : Bool) (m : O) (a : AV) (k : Dy → St → Option R) : Option R :=
  match isPtr, a with
  | false, .pv s x => bif m.le .imm then k ⟨s, m, x⟩ st else none
  | false, .z s => k ⟨s, m, s.zero⟩ st
  | false, .ov r p => match st.ob r with
    | some ob => match ob.fixed, ob.pend, ownP ob.o p with
      | false, none, true => getK ob.s ob.x p fun s x => bif m.le (maskAt ob.o p) && !hasIx p && (!ob.mem || Nat.ble 50 r) then k ⟨s, m, x⟩ { st with objs := dropOb st.objs r, env := killEnv r .all st.env } else none
      | _, _, _ => none
    | none => none
  | true, .ptr r [] => match st.ob r with
    | some ob => match ob.mem, ob.pend, Nat.ble 50 r with
      | true, none, true => bif m.le ob.o then k ⟨ob.s, m, ob.x⟩ { st with objs := dropOb st.objs r, env := killEnv r .all st.env } else none
      | _, _, _ => none
    | none => none
  | _, _ => none
def resultCellK {R : Type} (g : Cfg) (st : St) (m : O) (a : Tmp) (t : TypeId) (k : Dy → St → Option R) : Option R :=
  match evalS st none (.tmp a) with
  | .ptr r [] => match st.ob r, look g.ty t with
    | some ob, some s => (match decS ob.s s, ob.pend, ob.mem && Nat.ble 50 r with
      | .isTrue _, none, true => bif m.le ob.o then k ⟨ob.s, m, ob.x⟩ { st with objs := dropOb st.objs r, env := killEnv r .all st.env } else none
      | _, _, _ => none)
    | _, _ => none
  | _ => none
def resultsK {R : Type} (g : Cfg) : List (Bool × O) → List ResultVar → St → (List Dy → St → Option R) → Option R
  | [], [], st, k => k [] st
  | (b, m) :: bs, .tmp t :: vs, st, k => resultK st b m (evalS st none (.tmp t)) fun d st' => resultsK g bs vs st' fun ds st'' => k (d :: ds) st''
  | (b, m) :: bs, .cell a t :: vs, st, k => bif b then none else resultCellK g st m a t fun d st' => resultsK g bs vs st' fun ds st'' => k (d :: ds) st''
  | _, _, _, _ => none
def ioBack {R : Type} (st : St) : List (Nat × S) → (List Dy → Option R) → Option R
  | [], k => k []
  | (r, s) :: l, k => match st.ob r with
    | some ob => (match ob.pend, decS ob.s s, (ob.mem || ob.fixed) && Nat.ble (r + 1) 50 with
      | none, .isTrue _, true => ioBack st l fun ds => k (⟨ob.s, ob.o, ob.x⟩ :: ds)
      | _, _, _ => none)
    | none => none
def enterArgs : Nat → List Mode → List Dy → List AV × List (Nat × Ob)
  | i, .v :: ms, d :: ds => let (as, os) := enterArgs (i + 1) ms ds; (.pv d.s d.x :: as, os)
  | i, .rd :: ms, d :: ds => let (as, os) := enterArgs (i + 1) ms ds; (.rp d.s d.x :: as, os)
  | i, .nl :: ms, d :: ds => let (as, os) := enterArgs (i + 1) ms ds; (.z d.s :: as, os)
  | i, .io :: ms, d :: ds => let (as, os) := enterArgs (i + 1) ms ds; (.ptr i [] :: as, (i, { s := d.s, o := d.o, x := d.x, mem := true }) :: os)
  | i, .iov :: ms, d :: ds => let (as, os) := enterArgs (i + 1) ms ds; (.ov i [] :: as, (i, { s := d.s, o := d.o, x := d.x, fixed := true }) :: os)
  | i, .tk :: ms, d :: ds => let (as, os) := enterArgs (i + 1) ms ds; (.ov i [] :: as, (i, { s := d.s, o := d.o, x := d.x }) :: os)
  | _, _, _ => ([], [])
def takeCaps : Nat → List AV → Option (List Cap × List AV)
  | 0, l => some ([], l)
  | n + 1, .ptr r p :: l => match takeCaps n l with | some (c, r') => some (.cp r p :: c, r') | none => none
  | n + 1, .rp s x :: l => match takeCaps n l with | some (c, r') => some (.cr s x :: c, r') | none => none
  | _, _ => none
def dropN {α : Type} : Nat → List α → List α
  | 0, l => l
  | _ + 1, [] => []
  | n + 1, _ :: l => dropN n l
def pars : List Par → List AV → List SV
  | [], l => l.map .one
  | .one :: ps, a :: l => .one a :: pars ps l
  | .one :: ps, [] => pars ps []
  | .fn f n :: ps, l => match takeCaps n l with
    | some (c, r) => .one (.fn f c) :: pars ps r
    | none => .one .dead :: pars ps (dropN n l)
def ioNums : Nat → List Mode → List Dy → List (Nat × S)
  | i, .io :: ms, d :: ds => (i, d.s) :: ioNums (i + 1) ms ds
  | i, .iov :: ms, d :: ds => (i, d.s) :: ioNums (i + 1) ms ds
  | i, _ :: ms, _ :: ds => ioNums (i + 1) ms ds
  | _, _, _ => []
def padTo (n : Nat) (l : List SV) : List SV := l ++ replic (.one .dead) (n - l.length)
noncomputable def body {R : Type} (g : Cfg) (N : Nat) (fn : Func) (ps : List Par) (modes : List Mode) (res : List (Bool × O)) (ds : List Dy)
    (k : List Dy → List Dy → Option R) : Option R :=
  match fn.body with
  | none => none
  | some c =>
    let (as, os) := enterArgs 0 modes ds
    code g N c { env := padTo fn.ntmps (pars ps as), objs := os } fun ex st => match ex with
      | .ret => resultsK g res fn.results.toList st fun rs st' => ioBack st' (ioNums 0 modes ds) fun ios => k rs ios
      | .normal => resultsK g res fn.results.toList st fun rs st' => ioBack st' (ioNums 0 modes ds) fun ios => k rs ios
      | _ => none
def castD {R : Type} (s : S) (d : Dy) (k : den s → Option R) : Option R := match decS d.s s with | .isTrue h => k (h ▸ d.x) | .isFalse _ => none
def castDm {R : Type} (s : S) (o : O) (d : Dy) (k : den s → Option R) : Option R := bif d.o.beq o then castD s d k else none
end Go.AE
namespace Go.AE
def NF (w : World) (b : Nat) : Prop := ∀ o e n, w.shape? b = some (e, n) → o < n → w.frozen? ⟨b, o, none⟩ = false
theorem shape_of_cell {w : World} {b o : Nat} {v : Value} (h : w.cell? ⟨b, o, none⟩ = some v) : ∃ e n, w.shape? b = some (e, n) ∧ o < n := by
  unfold World.cell? at h
  unfold World.shape?
  cases e9 : w.heap[b]? with
  | none => rw [e9] at h; cases h
  | some ob =>
    rw [e9] at h
    cases ob with
    | cells cs el fr =>
      refine ⟨el, cs.size, rfl, ?_⟩
      simp only [Option.isSome_none, Bool.false_eq_true, if_false] at h
      rcases Nat.lt_or_ge o cs.size with z | z
      · exact z
      · rw [Array.getElem?_eq_none z] at h; cases h
    | _ => cases h
theorem NF.at {w : World} {b o : Nat} {v : Value} (n : NF w b) (h : w.cell? ⟨b, o, none⟩ = some v) : w.frozen? ⟨b, o, none⟩ = false :=
  let ⟨e, k, h1, h2⟩ := shape_of_cell h
  n o e k h1 h2
theorem NF.same {w w' : World} {b : Nat} (n : NF w b) (hf : ∀ o, w'.frozen? ⟨b, o, none⟩ = w.frozen? ⟨b, o, none⟩) (hs : w'.shape? b = w.shape? b) : NF w' b :=
  fun o e k h1 h2 => by rw [hf]; rw [hs] at h1; exact n o e k h1 h2
inductive Cel where
  | v (x : Value)
  | m (es : List (Value × Value))
def Cel.val : Cel → Option Value | .v x => some x | .m _ => none
def mapCel (es : Array MapEntry) : Cel := .m (es.toList.map fun e => (e.key, e.val))
def hat (w : World) (b o : Nat) : Option Cel := match w.heap[b]? with
  | some (.map es _) => if o = 0 then some (mapCel es) else none
  | _ => (w.cell? ⟨b, o, none⟩).map .v
theorem hat_v {w : World} {b o : Nat} {u : Value} : hat w b o = some (.v u) ↔ w.cell? ⟨b, o, none⟩ = some u := by
  unfold hat
  split
  · rename_i es cl h
    have : w.cell? ⟨b, o, none⟩ = none := by unfold World.cell?; rw [h]
    rw [this]
    split <;> simp [mapCel]
  · cases w.cell? ⟨b, o, none⟩ <;> simp
theorem hat_m {w : World} {b o : Nat} {l : List (Value × Value)} : hat w b o = some (.m l) ↔ o = 0 ∧ ∃ es cl, w.heap[b]? = some (.map es cl) ∧ l = es.toList.map fun e => (e.key, e.val) := by
  unfold hat
  split
  · rename_i es cl h
    by_cases ho : o = 0
    · rw [if_pos ho]
      constructor
      · intro q; simp only [mapCel, Option.some.injEq, Cel.m.injEq] at q; exact ⟨ho, es, cl, h, q.symm⟩
      · rintro ⟨_, es', cl', h', q⟩
        rw [h] at h'; simp only [Option.some.injEq, Obj.map.injEq] at h'
        obtain ⟨rfl, rfl⟩ := h'
        rw [q]; rfl
    · rw [if_neg ho]; simp [ho]
  · rename_i hne
    constructor
    · intro q; cases e : w.cell? ⟨b, o, none⟩ <;> rw [e] at q <;> simp at q
    · rintro ⟨_, es, cl, h, _⟩; exact absurd h (by intro h; exact hne _ _ h)
theorem hat_of_heap {w w' : World} {b o : Nat} (h : w'.heap[b]? = w.heap[b]?) : hat w' b o = hat w b o := by
  unfold hat World.cell?; rw [h]
theorem hat_lt {w : World} {b o : Nat} {v : Cel} (h : hat w b o = some v) : b < w.heap.size := by
  rcases Nat.lt_or_ge b w.heap.size with q | q
  · exact q
  · simp [hat, World.cell?, Array.getElem?_eq_none q] at h
theorem hat_nomap {w : World} {b o : Nat} (h : ∀ es cl, w.heap[b]? ≠ some (.map es cl)) : hat w b o = (w.cell? ⟨b, o, none⟩).map .v := by
  unfold hat
  split
  · rename_i es cl q; exact absurd q (h es cl)
  · rfl
theorem hat_ext {w w' : World} {b o : Nat} (hm : ∀ es cl, w.heap[b]? = some (.map es cl) ↔ w'.heap[b]? = some (.map es cl)) (hc : w'.cell? ⟨b, o, none⟩ = w.cell? ⟨b, o, none⟩) : hat w' b o = hat w b o := by
  by_cases hq : ∃ es cl, w.heap[b]? = some (.map es cl)
  · obtain ⟨es, cl, q⟩ := hq
    have q' := (hm es cl).1 q
    simp only [hat, q, q']
  · rw [hat_nomap fun es cl q => hq ⟨es, cl, q⟩, hat_nomap fun es cl q => hq ⟨es, cl, (hm es cl).2 q⟩, hc]
theorem hat_shape {w : World} {b o n : Nat} {u : Cel} {e : TypeId} (h : hat w b o = some u) (hs : w.shape? b = some (e, n)) : o < n := by
  rw [hat_nomap (fun es cl q => by unfold World.shape? at hs; rw [q] at hs; cases hs)] at h
  obtain ⟨x, h1, _⟩ := Option.map_eq_some_iff.1 h
  obtain ⟨e', n', h3, h4⟩ := shape_of_cell h1
  rw [hs] at h3
  simp only [Option.some.injEq, Prod.mk.injEq] at h3
  omega
abbrev Hp := Nat → Nat → Option Cel
def Hp.e : Hp := fun _ _ => none
def Sp (h h1 h2 : Hp) : Prop := ∀ b o, (h1 b o = none ∨ h2 b o = none) ∧ h b o = (h1 b o).or (h2 b o)
def Le (h k : Hp) : Prop := ∀ b o v, h b o = some v → k b o = some v
def Dj (h k : Hp) : Prop := ∀ b o, h b o = none ∨ k b o = none
def Un (h k : Hp) : Hp := fun b o => (h b o).or (k b o)
def blk (b off : Nat) (cs : List Value) : Hp := fun b' o' => if b' = b ∧ off ≤ o' then (cs[o' - off]?).map .v else none
def mblk (b : Nat) (es : List (Value × Value)) : Hp := fun b' o' => if b' = b ∧ o' = 0 then some (.m es) else none
theorem Le.refl (h : Hp) : Le h h := fun _ _ _ h => h
theorem Le.trans {a b c : Hp} (h : Le a b) (k : Le b c) : Le a c := fun _ _ _ x => k _ _ _ (h _ _ _ x)
theorem Le.e (h : Hp) : Le Hp.e h := fun _ _ _ x => by cases x
theorem Dj.symm {h k : Hp} (d : Dj h k) : Dj k h := fun b o => (d b o).symm
theorem Dj.e (h : Hp) : Dj h Hp.e := fun _ _ => .inr rfl
theorem Un.le_left (h k : Hp) : Le h (Un h k) := fun b o v x => by simp [Un, x]
theorem Un.le_right {h k : Hp} (d : Dj h k) : Le k (Un h k) := fun b o v x => by
  rcases d b o with e | e
  · simp [Un, e, x]
  · rw [e] at x; cases x
theorem Un.sp {h k : Hp} (d : Dj h k) : Sp (Un h k) h k := fun b o => ⟨d b o, rfl⟩
theorem Sp.dj {h a b : Hp} (s : Sp h a b) : Dj a b := fun x y => (s x y).1
theorem Sp.left {h a b : Hp} (s : Sp h a b) : Le a h := fun x y v e => by rw [(s x y).2, e]; rfl
theorem Sp.symm {h a b : Hp} (s : Sp h a b) : Sp h b a := fun x y => by
  obtain ⟨d, e⟩ := s x y
  refine ⟨d.symm, ?_⟩
  rw [e]; rcases d with d | d <;> simp [d]
theorem Sp.right {h a b : Hp} (s : Sp h a b) : Le b h := s.symm.left
theorem Sp.e_left (h : Hp) : Sp h Hp.e h := fun _ _ => ⟨.inl rfl, rfl⟩
theorem Sp.e_right (h : Hp) : Sp h h Hp.e := (Sp.e_left h).symm
theorem Sp.eq_right {h k : Hp} (s : Sp h Hp.e k) : h = k := funext fun b => funext fun o => by rw [(s b o).2]; rfl
theorem Sp.eq_left {h k : Hp} (s : Sp h k Hp.e) : h = k := s.symm.eq_right
theorem Sp.uniq {h h' a b : Hp} (s : Sp h a b) (t : Sp h' a b) : h = h' := funext fun x => funext fun y => by rw [(s x y).2, (t x y).2]
theorem Sp.none {h a b : Hp} (s : Sp h a b) {x y : Nat} (e : h x y = none) : a x y = none ∧ b x y = none := by
  obtain ⟨_, g⟩ := s x y
  rw [g] at e
  cases ha : a x y <;> simp [ha] at e ⊢
  exact e
theorem Sp.some {h a b : Hp} (s : Sp h a b) {x y : Nat} {v : Cel} (e : h x y = some v) : a x y = some v ∨ b x y = some v := by
  obtain ⟨_, g⟩ := s x y
  rw [g] at e
  cases ha : a x y with
  | none => rw [ha] at e; exact .inr (by simpa using e)
  | some u => rw [ha] at e; exact .inl (by simpa using e)
theorem Sp.assoc {h a b c d : Hp} (s : Sp h a b) (t : Sp a c d) : Sp h c (Un d b) ∧ Sp (Un d b) d b := by
  refine ⟨fun x y => ?_, fun x y => ⟨?_, rfl⟩⟩
  · obtain ⟨d1, e1⟩ := s x y
    obtain ⟨d2, e2⟩ := t x y
    rw [e1, e2]
    refine ⟨?_, ?_⟩
    · cases hc : c x y with
      | none => exact .inl rfl
      | some v =>
        right
        have : d x y = Option.none := by rcases d2 with q | q; · rw [hc] at q; cases q
                                         · exact q
        have hb : b x y = Option.none := by
          rcases d1 with q | q
          · rw [e2, hc] at q; simp at q
          · exact q
        simp [Un, this, hb]
    · simp [Un, Option.or_assoc]
  · obtain ⟨d1, e1⟩ := s x y
    obtain ⟨d2, e2⟩ := t x y
    rcases d1 with q | q
    · left
      rw [e2] at q
      cases hd : d x y with
      | none => rfl
      | some v => rw [hd] at q; cases hc : c x y <;> simp [hc] at q
    · exact .inr q
theorem Sp.assoc' {h a b c d : Hp} (s : Sp h a b) (t : Sp b c d) : Sp h (Un a c) d ∧ Sp (Un a c) a c := by
  obtain ⟨p, q⟩ := Sp.assoc s.symm t.symm
  have e : Un c a = Un a c := funext fun x => funext fun y => by
    rcases q.dj x y with g | g <;> simp [Un, g]
  rw [e] at p q
  exact ⟨p.symm, q.symm⟩
theorem blk_nil (b off : Nat) : blk b off [] = Hp.e := by
  funext b' o'; simp [blk, Hp.e]
theorem blk_at {b off : Nat} {cs : List Value} {j : Nat} : blk b off cs b (off + j) = (cs[j]?).map .v := by
  simp [blk]
theorem blk_v {b off : Nat} {cs : List Value} {j : Nat} {v : Value} (h : cs[j]? = some v) : blk b off cs b (off + j) = some (.v v) := by
  rw [blk_at, h]; rfl
theorem blk_append (b off : Nat) (c d : List Value) : Sp (blk b off (c ++ d)) (blk b off c) (blk b (off + c.length) d) := by
  intro x y
  by_cases hx : x = b
  · subst hx
    by_cases h1 : off ≤ y
    · by_cases h2 : off + c.length ≤ y
      · have : c[y - off]? = Option.none := by rw [List.getElem?_eq_none_iff]; omega
        refine ⟨.inl ?_, ?_⟩
        · simp only [blk, h1, and_self, if_true, this, Option.map_none]
        · simp only [blk, h1, h2, and_self, if_true, this, Option.map_none, Option.none_or, true_and]
          rw [List.getElem?_append_right (by omega)]
          rw [show y - off - c.length = y - (off + c.length) by omega]
      · refine ⟨.inr ?_, ?_⟩
        · simp [blk, h2]
        · simp only [blk, h1, h2, and_self, and_false, if_true, if_false, true_and, Option.or_none]
          rw [List.getElem?_append_left (by omega)]
    · have h2 : ¬ off + c.length ≤ y := by omega
      simp [blk, h1, h2]
  · simp [blk, hx]
theorem blk_some {b off : Nat} {cs : List Value} {x y : Nat} {v : Cel} (h : blk b off cs x y = some v) : x = b ∧ off ≤ y ∧ ∃ u, v = .v u ∧ cs[y - off]? = some u := by
  unfold blk at h
  split at h
  · rename_i g
    obtain ⟨u, h1, h2⟩ := Option.map_eq_some_iff.1 h
    exact ⟨g.1, g.2, u, h2.symm, h1⟩
  · cases h
def RepL {A : Type} (R : Hp → List Value → A → Prop) : Hp → List Value → List A → Prop
  | h, c, [] => h = Hp.e ∧ c = []
  | h, c, x :: xs => ∃ h1 h2 c1 c2, Sp h h1 h2 ∧ c = c1 ++ c2 ∧ R h1 c1 x ∧ RepL R h2 c2 xs
def Cov (m : Hp) (b off : Nat) (r : List Value) : Prop := ∀ (j : Nat) v, r[j]? = some v → m b (off + j) = some (.v v)
def mv : (v : S) → den v → Value
  | .int k, x => .int k x
  | .bool, x => .bool x
  | .str, x => .string x
  | _, _ => undef
def mes {v : S} (l : List (ByteArray × den v)) : List (Value × Value) := l.map fun p => (.string p.1, mv v p.2)
theorem mblk_some {b : Nat} {es : List (Value × Value)} {x y : Nat} {v : Cel} (h : mblk b es x y = some v) : x = b ∧ y = 0 ∧ v = .m es := by
  unfold mblk at h
  split at h
  · rename_i g; exact ⟨g.1, g.2, by injection h with h; exact h.symm⟩
  · cases h
theorem mblk_at {b : Nat} {es : List (Value × Value)} : mblk b es b 0 = some (.m es) := by simp [mblk]
def Rep (m : Hp) : (s : S) → O → Hp → List Value → den s → Prop
  | .int k, _, h, c, x => h = Hp.e ∧ c = [.int k x]
  | .bool, _, h, c, x => h = Hp.e ∧ c = [.bool x]
  | .str, _, h, c, x => h = Hp.e ∧ c = [.string x]
  | .unit, _, h, c, _ => h = Hp.e ∧ c = []
  | .pair a b, o, h, c, x => ∃ h1 h2 c1 c2, Sp h h1 h2 ∧ c = c1 ++ c2 ∧ Rep m a o.l h1 c1 x.1 ∧ Rep m b o.r h2 c2 x.2
  | .sl _ s, .own o, h, c, xs =>
    (xs = [] ∧ c = [.slice none 0 0] ∧ h = Hp.e) ∨
    ∃ b off cap r1 r2 h2, c = [.slice (some ⟨b, off, none⟩) xs.length cap] ∧ xs.length ≤ cap ∧ (r1 ++ r2).length = cap * s.size ∧
      Sp h (blk b off (r1 ++ r2)) h2 ∧ RepL (Rep m s o) h2 r1 xs
  | .sl _ s, _, h, c, xs => h = Hp.e ∧ ∃ a cap, c = [.slice a xs.length cap] ∧ xs.length ≤ cap ∧
      (xs ≠ [] → ∃ b off r, a = some ⟨b, off, none⟩ ∧ Cov m b off r ∧ RepL (Rep m s .imm) Hp.e r xs)
  | .map v, .own _, h, c, x => (x = none ∧ c = [.map none] ∧ h = Hp.e) ∨ ∃ b l, x = some l ∧ c = [.map (some b)] ∧ h = mblk b (mes l)
  | .map v, _, h, c, x => h = Hp.e ∧ ((x = none ∧ c = [.map none]) ∨ ∃ b l, x = some l ∧ c = [.map (some b)] ∧ m b 0 = some (.m (mes l)))
theorem RepL_len {A : Type} {R : Hp → List Value → A → Prop} {n : Nat} (hR : ∀ h c x, R h c x → c.length = n) : ∀ {xs : List A} {h c}, RepL R h c xs → c.length = xs.length * n
  | [], _, _, ⟨_, e⟩ => by simp [e]
  | x :: xs, _, _, ⟨h1, h2, c1, c2, _, e, r, rl⟩ => by
    rw [e, List.length_append, hR _ _ _ r, RepL_len hR rl]; simp [Nat.succ_mul, Nat.add_comm]
theorem Rep_len (m : Hp) : ∀ (s : S) (o : O) (h : Hp) (c : List Value) (x : den s), Rep m s o h c x → c.length = s.size
  | .int _, _, _, _, _, ⟨_, e⟩ => by simp [e, S.size]
  | .bool, _, _, _, _, ⟨_, e⟩ => by simp [e, S.size]
  | .str, _, _, _, _, ⟨_, e⟩ => by simp [e, S.size]
  | .unit, _, _, _, _, ⟨_, e⟩ => by simp [e, S.size]
  | .pair a b, o, h, c, x, ⟨h1, h2, c1, c2, _, e, r1, r2⟩ => by
    rw [e, List.length_append, Rep_len m a _ _ _ _ r1, Rep_len m b _ _ _ _ r2]; rfl
  | .sl _ s, .own o, h, c, xs, r => by
    rcases r with ⟨_, e, _⟩ | ⟨b, off, cap, r1, r2, h2, e, _⟩ <;> simp [e, S.size]
  | .sl _ s, .imm, h, c, xs, ⟨_, a, cap, e, _⟩ => by simp [e, S.size]
  | .sl _ s, .pr _ _, h, c, xs, ⟨_, a, cap, e, _⟩ => by simp [e, S.size]
  | .map v, .own o, h, c, x, r => by
    rcases r with ⟨_, e, _⟩ | ⟨b, l, _, e, _⟩ <;> simp [e, S.size]
  | .map v, .imm, h, c, x, ⟨_, r⟩ => by
    rcases r with ⟨_, e⟩ | ⟨b, l, _, e, _⟩ <;> simp [e, S.size]
  | .map v, .pr _ _, h, c, x, ⟨_, r⟩ => by
    rcases r with ⟨_, e⟩ | ⟨b, l, _, e, _⟩ <;> simp [e, S.size]
theorem RepL_imp {A : Type} {R R' : Hp → List Value → A → Prop} (hR : ∀ h c x, R h c x → R' h c x) : ∀ {xs : List A} {h c}, RepL R h c xs → RepL R' h c xs
  | [], _, _, r => r
  | _ :: _, _, _, ⟨h1, h2, c1, c2, s, e, r, rl⟩ => ⟨h1, h2, c1, c2, s, e, hR _ _ _ r, RepL_imp hR rl⟩
theorem Cov.mono {m m' : Hp} (hm : Le m m') {b off : Nat} {r : List Value} (c : Cov m b off r) : Cov m' b off r := fun j v e => hm _ _ _ (c j v e)
theorem Rep_mono {m m' : Hp} (hm : Le m m') : ∀ (s : S) (o : O) (h : Hp) (c : List Value) (x : den s), Rep m s o h c x → Rep m' s o h c x
  | .int _, _, _, _, _, r => r
  | .bool, _, _, _, _, r => r
  | .str, _, _, _, _, r => r
  | .unit, _, _, _, _, r => r
  | .pair a b, o, h, c, x, ⟨h1, h2, c1, c2, s, e, r1, r2⟩ => ⟨h1, h2, c1, c2, s, e, Rep_mono hm a _ _ _ _ r1, Rep_mono hm b _ _ _ _ r2⟩
  | .sl _ s, .own o, h, c, xs, r => by
    rcases r with r | ⟨b, off, cap, r1, r2, h2, e, g, l, sp, rl⟩
    · exact .inl r
    · exact .inr ⟨b, off, cap, r1, r2, h2, e, g, l, sp, RepL_imp (Rep_mono hm s o) rl⟩
  | .sl _ s, .imm, h, c, xs, ⟨e, a, cap, e2, g, r⟩ => ⟨e, a, cap, e2, g, fun hx => by
      obtain ⟨b, off, r', e3, cv, rl⟩ := r hx
      exact ⟨b, off, r', e3, cv.mono hm, RepL_imp (Rep_mono hm s .imm) rl⟩⟩
  | .sl _ s, .pr _ _, h, c, xs, ⟨e, a, cap, e2, g, r⟩ => ⟨e, a, cap, e2, g, fun hx => by
      obtain ⟨b, off, r', e3, cv, rl⟩ := r hx
      exact ⟨b, off, r', e3, cv.mono hm, RepL_imp (Rep_mono hm s .imm) rl⟩⟩
  | .map v, .own o, h, c, x, r => r
  | .map v, .imm, h, c, x, ⟨e, r⟩ => ⟨e, r.imp id fun ⟨b, l, e1, e2, e3⟩ => ⟨b, l, e1, e2, hm _ _ _ e3⟩⟩
  | .map v, .pr _ _, h, c, x, ⟨e, r⟩ => ⟨e, r.imp id fun ⟨b, l, e1, e2, e3⟩ => ⟨b, l, e1, e2, hm _ _ _ e3⟩⟩
def S.zcells : S → List Value
  | .int k => [.int k 0] | .bool => [.bool false] | .str => [.string ⟨#[]⟩] | .unit => [] | .sl _ _ => [.slice none 0 0] | .map _ => [.map none]
  | .pair a b => a.zcells ++ b.zcells
theorem Rep_zero (m : Hp) : ∀ (s : S) (o : O), Rep m s o Hp.e s.zcells s.zero
  | .int _, _ => ⟨rfl, rfl⟩
  | .bool, _ => ⟨rfl, rfl⟩
  | .str, _ => ⟨rfl, rfl⟩
  | .unit, _ => ⟨rfl, rfl⟩
  | .pair a b, o => ⟨Hp.e, Hp.e, _, _, Sp.e_left _, rfl, Rep_zero m a o.l, Rep_zero m b o.r⟩
  | .sl _ s, .own o => .inl ⟨rfl, rfl, rfl⟩
  | .sl _ s, .imm => ⟨rfl, none, 0, rfl, Nat.le_refl _, fun h => absurd rfl h⟩
  | .sl _ s, .pr _ _ => ⟨rfl, none, 0, rfl, Nat.le_refl _, fun h => absurd rfl h⟩
  | .map v, .own o => .inl ⟨rfl, rfl, rfl⟩
  | .map v, .imm => ⟨rfl, .inl ⟨rfl, rfl⟩⟩
  | .map v, .pr _ _ => ⟨rfl, .inl ⟨rfl, rfl⟩⟩
theorem Rep_map_imm {m : Hp} {s : S} {o : O} (ho : ∀ o', o ≠ .own o') {h : Hp} {c : List Value} {x : den (.map s)} :
    Rep m (.map s) o h c x ↔ Rep m (.map s) .imm h c x := by
  cases o with
  | own o' => exact absurd rfl (ho o')
  | imm => exact Iff.rfl
  | pr a b => exact Iff.rfl
theorem Rep_sl_imm {m : Hp} {e : TypeId} {s : S} {o : O} (ho : ∀ o', o ≠ .own o') {h : Hp} {c : List Value} {xs : List (den s)} :
    Rep m (.sl e s) o h c xs ↔ Rep m (.sl e s) .imm h c xs := by
  cases o with
  | own o' => exact absurd rfl (ho o')
  | imm => exact Iff.rfl
  | pr a b => exact Iff.rfl
theorem clean_imm (s : S) : clean s .imm = true := by
  induction s with
  | pair a b ha hb => simp [clean, O.l, O.r, ha, hb]
  | _ => rfl
theorem Rep_clean {m : Hp} : ∀ (s : S) (o : O) (h : Hp) (c : List Value) (x : den s), clean s o = true → Rep m s o h c x → h = Hp.e ∧ Rep m s .imm Hp.e c x
  | .int _, _, _, _, _, _, ⟨e, r⟩ => ⟨e, rfl, r⟩
  | .bool, _, _, _, _, _, ⟨e, r⟩ => ⟨e, rfl, r⟩
  | .str, _, _, _, _, _, ⟨e, r⟩ => ⟨e, rfl, r⟩
  | .unit, _, _, _, _, _, ⟨e, r⟩ => ⟨e, rfl, r⟩
  | .pair a b, o, h, c, x, hc, ⟨h1, h2, c1, c2, s, e, r1, r2⟩ => by
    simp only [clean, Bool.and_eq_true] at hc
    obtain ⟨e1, q1⟩ := Rep_clean a o.l h1 c1 x.1 hc.1 r1
    obtain ⟨e2, q2⟩ := Rep_clean b o.r h2 c2 x.2 hc.2 r2
    subst e1 e2
    have := s.eq_right
    subst this
    exact ⟨rfl, Hp.e, Hp.e, c1, c2, Sp.e_left _, e, q1, q2⟩
  | .sl _ s, .own o, h, c, xs, hc, r => by simp [clean] at hc
  | .sl _ s, .imm, h, c, xs, hc, r => ⟨r.1, rfl, r.2⟩
  | .sl _ s, .pr _ _, h, c, xs, hc, r => ⟨r.1, rfl, r.2⟩
  | .map v, .own o, h, c, xs, hc, r => by simp [clean] at hc
  | .map v, .imm, h, c, xs, hc, r => ⟨r.1, rfl, r.2⟩
  | .map v, .pr _ _, h, c, xs, hc, r => ⟨r.1, rfl, r.2⟩
theorem RepL_get {A : Type} {R : Hp → List Value → A → Prop} {n : Nat} (hR : ∀ h c x, R h c x → c.length = n) :
    ∀ {xs : List A} {h c} (i : Nat) {x : A}, RepL R h c xs → xs[i]? = some x →
      ∃ hx hr ca cx cb, Sp h hx hr ∧ c = ca ++ cx ++ cb ∧ ca.length = i * n ∧ R hx cx x ∧
        (∀ (R' : Hp → List Value → A → Prop), (∀ h c x, R h c x → R' h c x) → ∀ hx' h' cx' x', Sp h' hx' hr → R' hx' cx' x' → RepL R' h' (ca ++ cx' ++ cb) (xs.set i x')) ∧
        ∀ (j : Nat) (z : A), j ≠ i → xs[j]? = some z → ∃ hz hq da cz db, Sp hr hz hq ∧ c = da ++ cz ++ db ∧ da.length = j * n ∧ R hz cz z
  | [], _, _, i, x, _, e => by simp at e
  | y :: ys, h, c, 0, x, ⟨h1, h2, c1, c2, s, e, r, rl⟩, ex => by
    simp at ex; subst ex
    refine ⟨h1, h2, [], c1, c2, s, by simpa using e, by simp, r, ?_, ?_⟩
    · intro R' hRR hx' h' cx' x' sp r'
      exact ⟨hx', h2, cx', c2, sp, by simp, r', RepL_imp hRR rl⟩
    · intro j z hj hz
      cases j with
      | zero => exact absurd rfl hj
      | succ j =>
        simp only [List.getElem?_cons_succ] at hz
        obtain ⟨hx, hr, ca, cx, cb, sp, ec, el, rx, _, _⟩ := RepL_get hR j rl hz
        exact ⟨hx, hr, c1 ++ ca, cx, cb, sp, by rw [e, ec]; simp, by rw [List.length_append, hR _ _ _ r, el, Nat.succ_mul, Nat.add_comm], rx⟩
  | y :: ys, h, c, i + 1, x, ⟨h1, h2, c1, c2, s, e, r, rl⟩, ex => by
    simp only [List.getElem?_cons_succ] at ex
    obtain ⟨hx, hr, ca, cx, cb, sp, ec, el, rx, back, other⟩ := RepL_get hR i rl ex
    obtain ⟨p, q⟩ := s.symm.assoc sp
    refine ⟨hx, Un hr h1, c1 ++ ca, cx, cb, p, by rw [e, ec]; simp, by rw [List.length_append, hR _ _ _ r, el, Nat.succ_mul, Nat.add_comm], rx, ?_, ?_⟩
    · intro R' hRR hx' h' cx' x' sp' r'
      obtain ⟨p', q'⟩ := sp'.assoc' q
      refine ⟨h1, Un hx' hr, c1, ca ++ cx' ++ cb, p'.symm, by simp, hRR _ _ _ r, ?_⟩
      exact back R' hRR hx' _ cx' x' q' r'
    · intro j z hj hz
      cases j with
      | zero =>
        simp at hz; subst hz
        exact ⟨h1, hr, [], c1, c2, q.symm, by simpa using e, by simp, r⟩
      | succ j =>
        simp only [List.getElem?_cons_succ] at hz
        obtain ⟨hz', hq, da, cz, db, sp2, ec2, el2, rz⟩ := other j z (fun h => hj (by rw [h])) hz
        obtain ⟨p2, q2⟩ := q.assoc sp2
        exact ⟨hz', Un hq h1, c1 ++ da, cz, db, p2, by rw [e, ec2]; simp, by rw [List.length_append, hR _ _ _ r, el2, Nat.succ_mul, Nat.add_comm], rz⟩
end Go.AE
namespace Go.AE
theorem O.le_l {a b : O} (h : a.le b = true) : a.l.le b.l = true := by
  cases a <;> cases b <;> simp_all [O.le, O.l]
theorem O.le_r {a b : O} (h : a.le b = true) : a.r.le b.r = true := by
  cases a <;> cases b <;> simp_all [O.le, O.r]
theorem O.le_imm {a : O} : ∀ {o}, a.le .imm = true → ¬ a = .own o := by
  intro o h e; subst e; simp [O.le] at h
theorem Sp.four {h h1 h2 a b c d : Hp} (s : Sp h h1 h2) (s1 : Sp h1 a b) (s2 : Sp h2 c d) :
    Sp h (Un a c) (Un b d) ∧ Sp (Un a c) a c ∧ Sp (Un b d) b d := by
  have ac : Dj a c := fun x y => by
    rcases (s x y).1 with q | q
    · exact .inl (s1.none q).1
    · exact .inr (s2.none q).1
  have bd : Dj b d := fun x y => by
    rcases (s x y).1 with q | q
    · exact .inl (s1.none q).2
    · exact .inr (s2.none q).2
  refine ⟨fun x y => ⟨?_, ?_⟩, Un.sp ac, Un.sp bd⟩
  · rcases (s x y).1 with q | q
    · obtain ⟨qa, qb⟩ := s1.none q
      rcases (s2 x y).1 with r | r
      · left; simp [Un, qa, r]
      · right; simp [Un, qb, r]
    · obtain ⟨qc, qd⟩ := s2.none q
      rcases (s1 x y).1 with r | r
      · left; simp [Un, qc, r]
      · right; simp [Un, qd, r]
  · rw [(s x y).2, (s1 x y).2, (s2 x y).2]
    simp only [Un]
    rcases ac x y with q | q
    · rw [q]
      simp only [Option.none_or]
      rcases (s x y).1 with r | r
      · rw [(s1.none r).2]; simp
      · rw [(s2.none r).1, (s2.none r).2]; simp
    · rw [q]; simp [Option.or_assoc]
theorem Dj.le {a b a' b' : Hp} (d : Dj a b) (ha : Le a' a) (hb : Le b' b) : Dj a' b' := fun x y => by
  rcases d x y with q | q
  · left
    cases e : a' x y with
    | none => rfl
    | some v => rw [ha _ _ _ e] at q; cases q
  · right
    cases e : b' x y with
    | none => rfl
    | some v => rw [hb _ _ _ e] at q; cases q
theorem Un.le_of {m a h : Hp} (ha : Le a h) (d : Dj m h) : Le (Un m a) (Un m h) := fun x y v e => by
  simp only [Un] at *
  cases hm : m x y with
  | some u => rw [hm] at e; simpa using e
  | none => rw [hm] at e; simp only [Option.none_or] at *; exact ha _ _ _ e
theorem RepL_weaken {A : Type} {R R' : Hp → Hp → List Value → A → Prop} (mono : ∀ m m' h c x, Le m m' → R' m h c x → R' m' h c x)
    (hR : ∀ m h c x, Dj m h → R m h c x → ∃ hm h', Sp h hm h' ∧ R' (Un m hm) h' c x) {m : Hp} :
    ∀ {xs : List A} {h c}, Dj m h → RepL (R m) h c xs → ∃ hm h', Sp h hm h' ∧ RepL (R' (Un m hm)) h' c xs
  | [], h, c, _, ⟨e, ec⟩ => ⟨Hp.e, Hp.e, by rw [e]; exact Sp.e_left _, rfl, ec⟩
  | x :: xs, h, c, d, ⟨h1, h2, c1, c2, s, e, r, rl⟩ => by
    obtain ⟨a1, b1, s1, r1⟩ := hR m h1 c1 x (d.le (Le.refl _) s.left) r
    obtain ⟨a2, b2, s2, r2⟩ := RepL_weaken mono hR (d.le (Le.refl _) s.right) rl
    obtain ⟨p, pa, pb⟩ := s.four s1 s2
    have da : Dj m (Un a1 a2) := d.le (Le.refl _) p.left
    refine ⟨_, _, p, b1, b2, c1, c2, pb, e, mono _ _ _ _ _ (Un.le_of pa.left da) r1, ?_⟩
    exact RepL_imp (fun h c x => mono _ _ _ _ _ (Un.le_of pa.right da)) r2
theorem Rep_weaken : ∀ (s : S) (o' o : O) (m h : Hp) (c : List Value) (x : den s), o'.le o = true → Dj m h → Rep m s o h c x →
    ∃ hm h', Sp h hm h' ∧ Rep (Un m hm) s o' h' c x
  | .int _, _, _, _, _, _, _, _, _, ⟨e, r⟩ => ⟨Hp.e, Hp.e, by rw [e]; exact Sp.e_left _, rfl, r⟩
  | .bool, _, _, _, _, _, _, _, _, ⟨e, r⟩ => ⟨Hp.e, Hp.e, by rw [e]; exact Sp.e_left _, rfl, r⟩
  | .str, _, _, _, _, _, _, _, _, ⟨e, r⟩ => ⟨Hp.e, Hp.e, by rw [e]; exact Sp.e_left _, rfl, r⟩
  | .unit, _, _, _, _, _, _, _, _, ⟨e, r⟩ => ⟨Hp.e, Hp.e, by rw [e]; exact Sp.e_left _, rfl, r⟩
  | .pair a b, o', o, m, h, c, x, ho, d, ⟨h1, h2, c1, c2, s, e, r1, r2⟩ => by
    obtain ⟨a1, b1, s1, q1⟩ := Rep_weaken a o'.l o.l m h1 c1 x.1 (O.le_l ho) (d.le (Le.refl _) s.left) r1
    obtain ⟨a2, b2, s2, q2⟩ := Rep_weaken b o'.r o.r m h2 c2 x.2 (O.le_r ho) (d.le (Le.refl _) s.right) r2
    obtain ⟨p, pa, pb⟩ := s.four s1 s2
    have da : Dj m (Un a1 a2) := d.le (Le.refl _) p.left
    exact ⟨_, _, p, b1, b2, c1, c2, pb, e, Rep_mono (Un.le_of pa.left da) _ _ _ _ _ q1, Rep_mono (Un.le_of pa.right da) _ _ _ _ _ q2⟩
  | .map v, o', .imm, m, h, c, xs, ho, d, r => by
    refine ⟨Hp.e, Hp.e, by rw [r.1]; exact Sp.e_left _, ?_⟩
    have e : Un m Hp.e = m := funext fun x => funext fun y => by simp [Un, Hp.e]
    rw [e, Rep_map_imm (fun _ => O.le_imm ho)]
    exact ⟨rfl, r.2⟩
  | .map v, o', .pr a b, m, h, c, xs, ho, d, r => by
    refine ⟨Hp.e, Hp.e, by rw [r.1]; exact Sp.e_left _, ?_⟩
    have e : Un m Hp.e = m := funext fun x => funext fun y => by simp [Un, Hp.e]
    rw [e, Rep_map_imm (o := o') (fun o q => by subst q; simp [O.le] at ho)]
    exact ⟨rfl, r.2⟩
  | .map v, o', .own o, m, h, c, x, ho, d, r => by
    cases o' with
    | own o2 => exact ⟨Hp.e, h, Sp.e_left _, r⟩
    | pr a b => simp [O.le] at ho
    | imm =>
      rcases r with ⟨e1, e2, e3⟩ | ⟨b, l, e1, e2, e3⟩
      · subst e1 e2 e3
        exact ⟨Hp.e, Hp.e, Sp.e_left _, rfl, .inl ⟨rfl, rfl⟩⟩
      · refine ⟨h, Hp.e, Sp.e_right _, rfl, .inr ⟨b, l, e1, e2, ?_⟩⟩
        exact Un.le_right d _ _ _ (by rw [e3]; exact mblk_at)
  | .sl t s, o', .imm, m, h, c, xs, ho, d, r => by
    refine ⟨Hp.e, Hp.e, by rw [r.1]; exact Sp.e_left _, ?_⟩
    have e : Un m Hp.e = m := funext fun x => funext fun y => by simp [Un, Hp.e]
    rw [e, Rep_sl_imm (fun _ => O.le_imm ho)]
    exact ⟨rfl, r.2⟩
  | .sl t s, o', .pr a b, m, h, c, xs, ho, d, r => by
    refine ⟨Hp.e, Hp.e, by rw [r.1]; exact Sp.e_left _, ?_⟩
    have e : Un m Hp.e = m := funext fun x => funext fun y => by simp [Un, Hp.e]
    rw [e, Rep_sl_imm (o := o') (fun o q => by subst q; simp [O.le] at ho)]
    exact ⟨rfl, r.2⟩
  | .sl t s, o', .own o, m, h, c, xs, ho, d, r => by
    rcases r with ⟨e1, e2, e3⟩ | ⟨b, off, cap, r1, r2, h2, e, g, l, sp, rl⟩
    · subst e1 e2 e3
      refine ⟨Hp.e, Hp.e, Sp.e_left _, ?_⟩
      exact Rep_zero _ (.sl t s) o'
    · have dj2 : Dj m h2 := d.le (Le.refl _) sp.right
      cases o' with
      | own o2 =>
        obtain ⟨hm, h', s2, q⟩ := RepL_weaken (R := fun m => Rep m s o) (R' := fun m => Rep m s o2) (fun _ _ _ _ _ hm => Rep_mono hm _ _ _ _ _)
          (fun m h c x d r => Rep_weaken s o2 o m h c x (by simpa [O.le] using ho) d r) dj2 rl
        obtain ⟨p, p2⟩ := Sp.assoc sp.symm s2
        refine ⟨hm, _, p, .inr ⟨b, off, cap, r1, r2, h', e, g, l, p2.symm, q⟩⟩
      | pr a b => simp [O.le] at ho
      | imm =>
        obtain ⟨hm, h', s2, q⟩ := RepL_weaken (R := fun m => Rep m s o) (R' := fun m => Rep m s .imm) (fun _ _ _ _ _ hm => Rep_mono hm _ _ _ _ _)
          (fun m h c x d r => Rep_weaken s .imm o m h c x rfl d r) dj2 rl
        refine ⟨h, Hp.e, Sp.e_right _, rfl, some ⟨b, off, none⟩, cap, e, g, fun _ => ⟨b, off, r1, rfl, ?_, ?_⟩⟩
        · intro j v ej
          refine Un.le_right d _ _ _ (sp.left _ _ _ ?_)
          rw [blk_at, List.getElem?_append_left (by
            rcases Nat.lt_or_ge j r1.length with q | q
            · exact q
            · rw [List.getElem?_eq_none q] at ej; cases ej), ej]
          rfl
        · have hle : Le (Un m hm) (Un m h) := Un.le_of (fun x y v e => sp.right _ _ _ (s2.left _ _ _ e)) d
          have q2 : ∀ {xs : List (den s)} {h' c}, RepL (Rep (Un m hm) s .imm) h' c xs → RepL (Rep (Un m h) s .imm) Hp.e c xs := by
            intro xs
            induction xs with
            | nil => intro h' c r; exact ⟨rfl, r.2⟩
            | cons x xs ih =>
              intro h' c ⟨k1, k2, c1, c2, s', e', r', rl'⟩
              exact ⟨Hp.e, Hp.e, c1, c2, Sp.e_left _, e', Rep_mono hle _ _ _ _ _ (Rep_clean s .imm _ _ _ (clean_imm s) r').2, ih rl'⟩
          exact q2 q
theorem Rep_freeze {s : S} {o : O} {m h : Hp} {c : List Value} {x : den s} (d : Dj m h) (r : Rep m s o h c x) : Rep (Un m h) s .imm Hp.e c x := by
  obtain ⟨hm, h', sp, q⟩ := Rep_weaken s .imm o m h c x rfl d r
  obtain ⟨e, q⟩ := Rep_clean s .imm _ _ _ (clean_imm s) q
  subst e
  rw [sp.eq_left]
  exact q
inductive Top where
  | mem (b off : Nat)
  | flt (c : List Value)
def Top.l (n : Nat) : Top → Top | .mem b off => .mem b off | .flt c => .flt (c.take n)
def Top.r (n : Nat) : Top → Top | .mem b off => .mem b (off + n) | .flt c => .flt (c.drop n)
def Top.head (h : Hp) : Top → Option Value | .mem b off => (h b off).bind Cel.val | .flt c => c.head?
def res (h : Hp) : (s : S) → Top → Path → Option (S × Top)
  | s, t, [] => some (s, t)
  | .pair a _, t, .L :: p => res h a (t.l a.size) p
  | .pair a b, t, .R :: p => res h b (t.r a.size) p
  | .sl _ s, t, .ix i :: p => match t.head h with
    | some (.slice (some ⟨b, off, none⟩) len _) => if 0 ≤ i ∧ i < len then res h s (.mem b (off + i.toNat * s.size)) p else none
    | _ => none
  | _, _, _ => none
theorem head_mem {h : Hp} {b off : Nat} {v : Value} : Top.head h (.mem b off) = some v ↔ h b off = some (.v v) := by
  simp only [Top.head]
  constructor
  · intro e
    obtain ⟨u, h1, h2⟩ := Option.bind_eq_some_iff.1 e
    cases u with
    | v x => simp only [Cel.val, Option.some.injEq] at h2; rw [h1, h2]
    | m _ => cases h2
  · intro e; rw [e]; rfl
theorem Top.head_le {h k : Hp} (hk : Le h k) : ∀ {t : Top} {v : Value}, t.head h = some v → t.head k = some v
  | .mem b off, v, e => by
    simp only [Top.head] at e ⊢
    obtain ⟨u, h1, h2⟩ := Option.bind_eq_some_iff.1 e
    rw [hk _ _ _ h1]; exact h2
  | .flt _, _, e => e
theorem res_le {h k : Hp} (hk : Le h k) : ∀ (s : S) (t : Top) (p : Path) {y}, res h s t p = some y → res k s t p = some y
  | _, _, [], _, e => by simpa only [res] using e
  | .pair a b, t, .L :: p, y, e => res_le hk a _ p e
  | .pair a b, t, .R :: p, y, e => res_le hk b _ p e
  | .sl _ s, t, .ix i :: p, y, e => by
    simp only [res] at e ⊢
    cases hv : t.head h with
    | none => rw [hv] at e; cases e
    | some v =>
      rw [hv] at e
      rw [Top.head_le hk hv]
      split at e
      · rename_i b off len cap hh
        simp only [Option.some.injEq] at hh
        subst hh
        split at e
        · rename_i hi; simp only [hi, and_self, if_true]; exact res_le hk s _ p e
        · cases e
      · cases e
  | .int _, _, _ :: _, _, e => by simp [res] at e
  | .bool, _, _ :: _, _, e => by simp [res] at e
  | .str, _, _ :: _, _, e => by simp [res] at e
  | .unit, _, _ :: _, _, e => by simp [res] at e
  | .map _, _, _ :: _, _, e => by simp [res] at e
  | .pair _ _, _, .ix _ :: _, _, e => by simp [res] at e
  | .sl _ _, _, .L :: _, _, e => by simp [res] at e
  | .sl _ _, _, .R :: _, _, e => by simp [res] at e
def RepT (m : Hp) (s : S) (o : O) (h : Hp) (t : Top) (x : den s) : Prop :=
  match t with
  | .flt c => Rep m s o h c x
  | .mem b off => ∃ c h2, Sp h (blk b off c) h2 ∧ Rep m s o h2 c x
end Go.AE
namespace Go.AE
theorem O.beq_eq : ∀ {a b : O}, a.beq b = true → a = b
  | .imm, .imm, _ => rfl
  | .own a, .own b, h => by rw [O.beq_eq (a := a) (b := b) (by simpa [O.beq] using h)]
  | .pr a b, .pr c d, h => by
    simp only [O.beq, Bool.and_eq_true] at h
    rw [O.beq_eq h.1, O.beq_eq h.2]
  | .imm, .own _, h => by simp [O.beq] at h
  | .imm, .pr _ _, h => by simp [O.beq] at h
  | .own _, .imm, h => by simp [O.beq] at h
  | .own _, .pr _ _, h => by simp [O.beq] at h
  | .pr _ _, .imm, h => by simp [O.beq] at h
  | .pr _ _, .own _, h => by simp [O.beq] at h
theorem cast?_eq {R : Type} {s s' : S} {x : den s} {k : den s' → Option R} {y : R} (h : cast? s s' x k = some y) :
    ∃ e : s = s', k (e ▸ x) = some y := by
  unfold cast? at h
  split at h
  · rename_i e _; exact ⟨e, h⟩
  · cases h
theorem castL?_eq {R : Type} {s s' : S} {x : List (den s)} {k : List (den s') → Option R} {y : R} (h : castL? s s' x k = some y) :
    ∃ e : s = s', k (e ▸ x) = some y := by
  unfold castL? at h
  split at h
  · rename_i e _; exact ⟨e, h⟩
  · cases h
theorem bindO_eq {A R : Type} {m : Option A} {f : A → Option R} {y : R} (h : bindO m f = some y) : ∃ a, m = some a ∧ f a = some y := by
  unfold bindO at h
  cases m with
  | none => cases h
  | some a => exact ⟨a, rfl, h⟩
theorem ifB_eq {R : Type} {c : Bool} {a b : Option R} {y : R} (h : ifB c a b = some y) : (c = true ∧ a = some y) ∨ (c = false ∧ b = some y) := by
  unfold ifB at h
  cases c
  · exact .inr ⟨rfl, by simpa using h⟩
  · exact .inl ⟨rfl, by simpa using h⟩
theorem ifB_true {R : Type} {c : Bool} {a : Option R} {y : R} (h : ifB c a none = some y) : c = true ∧ a = some y := by
  rcases ifB_eq h with h | ⟨_, h⟩
  · exact h
  · cases h
theorem ifB_false {R : Type} {c : Bool} {b : Option R} {y : R} (h : ifB c none b = some y) : c = false ∧ b = some y := by
  rcases ifB_eq h with ⟨_, h⟩ | h
  · cases h
  · exact h
theorem cond_some {R : Type} {c : Bool} {a : Option R} {y : R} (h : (bif c then a else none) = some y) : c = true ∧ a = some y := by
  cases c
  · cases h
  · exact ⟨rfl, h⟩
theorem cond_some' {R : Type} {c : Bool} {a : Option R} {y : R} (h : (bif c then none else a) = some y) : c = false ∧ a = some y := by
  cases c
  · exact ⟨rfl, h⟩
  · cases h
theorem idx_eq {A : Type} {xs : List A} {i : Int} {x : A} (h : idx xs i = some x) : 0 ≤ i ∧ i < xs.length ∧ xs[i.toNat]? = some x := by
  unfold idx at h
  split at h
  · rename_i g
    refine ⟨g, ?_, h⟩
    rcases Nat.lt_or_ge i.toNat xs.length with q | q
    · omega
    · rw [List.getElem?_eq_none q] at h; cases h
  · cases h
theorem RepT_pair {m : Hp} {a b : S} {o : O} {h : Hp} {t : Top} {x : den (.pair a b)} :
    RepT m (.pair a b) o h t x ↔ ∃ h1 h2, Sp h h1 h2 ∧ RepT m a o.l h1 (t.l a.size) x.1 ∧ RepT m b o.r h2 (t.r a.size) x.2 := by
  cases t with
  | mem b0 off =>
    constructor
    · rintro ⟨c, h2, s, k1, k2, c1, c2, s2, e, r1, r2⟩
      subst e
      have l := Rep_len m a _ _ _ _ r1
      have sb := blk_append b0 off c1 c2
      rw [l] at sb
      obtain ⟨p, pa, pb⟩ := s.four sb s2
      exact ⟨_, _, p, ⟨c1, k1, pa, r1⟩, ⟨c2, k2, pb, r2⟩⟩
    · rintro ⟨h1, h2, s, ⟨c1, k1, s1, r1⟩, ⟨c2, k2, s2, r2⟩⟩
      have l := Rep_len m a _ _ _ _ r1
      obtain ⟨p, pa, pb⟩ := s.four s1 s2
      have sb := blk_append b0 off c1 c2
      rw [l] at sb
      have := pa.uniq sb
      rw [this] at p
      exact ⟨c1 ++ c2, _, p, k1, k2, c1, c2, pb, rfl, r1, r2⟩
  | flt c =>
    constructor
    · rintro ⟨k1, k2, c1, c2, s2, e, r1, r2⟩
      subst e
      have l := Rep_len m a _ _ _ _ r1
      refine ⟨k1, k2, s2, ?_, ?_⟩
      · show Rep m a o.l k1 ((c1 ++ c2).take a.size) x.1
        rw [← l, List.take_left']
        · exact r1
        · rfl
      · show Rep m b o.r k2 ((c1 ++ c2).drop a.size) x.2
        rw [← l, List.drop_left']
        · exact r2
        · rfl
    · rintro ⟨h1, h2, s, r1, r2⟩
      exact ⟨h1, h2, c.take a.size, c.drop a.size, s, (List.take_append_drop _ _).symm, r1, r2⟩
theorem RepT_open {m : Hp} {s : S} {o : O} {h : Hp} {t : Top} {x : den s} (r : RepT m s o h t x) :
    ∃ c hT hR, Sp h hT hR ∧ Rep m s o hR c x ∧ (∀ v h', Le hT h' → c.head? = some v → t.head h' = some v) ∧
      ∀ m' o' hR' h' x', Sp h' hT hR' → Rep m' s o' hR' c x' → RepT m' s o' h' t x' := by
  cases t with
  | mem b off =>
    obtain ⟨c, h2, sp, r⟩ := r
    refine ⟨c, blk b off c, h2, sp, r, ?_, fun m' o' hR' h' x' sp' r' => ⟨c, hR', sp', r'⟩⟩
    intro v h' hle e
    have := blk_v (b := b) (off := off) (cs := c) (j := 0) (by rw [← List.head?_eq_getElem?, e])
    rw [Nat.add_zero] at this
    simp only [Top.head, hle _ _ _ this]; rfl
  | flt c =>
    refine ⟨c, Hp.e, h, Sp.e_left _, r, fun v h' _ e => e, fun m' o' hR' h' x' sp' r' => ?_⟩
    have e := sp'.eq_right
    subst e
    exact r'
theorem mkPr_l (a b : O) : (mkPr a b).l = a := by cases a <;> cases b <;> rfl
theorem mkPr_r (a b : O) : (mkPr a b).r = b := by cases a <;> cases b <;> rfl
theorem setMask_ix {o : O} {i : Int} {p : Path} {o' o2 : O} (h : setMask o (.ix i :: p) o' = some o2) :
    ∃ q, o = .own q ∧ o2 = .own q ∧ setMask q p o' = some q := by
  cases o with
  | own q =>
    simp only [setMask] at h
    cases g : setMask q p o' with
    | none => rw [g] at h; cases h
    | some a =>
      rw [g] at h
      obtain ⟨hb, h⟩ := cond_some h
      have e := O.beq_eq hb
      subst e
      exact ⟨a, rfl, by injection h with h; exact h.symm, g⟩
  | imm => simp [setMask] at h
  | pr a b => simp [setMask] at h
def Back (m : Hp) (s : S) (o : O) (hc : Hp) (t : Top) (x : den s) (p : Path) (s' : S) (t' : Top) : Prop :=
  ∀ b off, t' = .mem b off → ∀ m' hs' h' o' o2 (v : den s'), Le m m' → setMask o p o' = some o2 → Sp h' hs' hc → RepT m' s' o' hs' (.mem b off) v →
    ∀ {R : Type} (k : den s → Option R) y, setK s x p s' v k = some y → ∃ x2, k x2 = some y ∧ RepT m' s o2 h' t x2
def cellsAt (h : Hp) (t : Top) (n : Nat) (c : List Value) : Prop :=
  match t with
  | .flt c' => c = c'
  | .mem b off => c.length = n ∧ ∀ (j : Nat) v, c[j]? = some v → h b (off + j) = some (.v v)
theorem cells_uniq {h k : Hp} (hk : Le h k) {t : Top} {n : Nat} {c c' : List Value} (hc : cellsAt h t n c) (hc' : cellsAt k t n c') : c = c' := by
  cases t with
  | flt d => exact hc.trans hc'.symm
  | mem b off =>
    obtain ⟨l, e⟩ := hc
    obtain ⟨l', e'⟩ := hc'
    apply List.ext_getElem?
    intro j
    by_cases hj : j < n
    · have h1 := hk _ _ _ (e j _ (List.getElem?_eq_getElem (l := c) (by omega)))
      have h2 := e' j _ (List.getElem?_eq_getElem (l := c') (by omega))
      rw [h1] at h2
      rw [List.getElem?_eq_getElem (by omega), List.getElem?_eq_getElem (by omega), Cel.v.inj (Option.some.inj h2)]
    · rw [List.getElem?_eq_none (by omega), List.getElem?_eq_none (by omega)]
theorem cells_le {h k : Hp} (hk : Le h k) {t : Top} {n : Nat} {c : List Value} (hc : cellsAt h t n c) : cellsAt k t n c := by
  cases t with
  | flt d => exact hc
  | mem b off => exact ⟨hc.1, fun j v e => hk _ _ _ (hc.2 j v e)⟩
theorem own_down {m : Hp} : ∀ (q : Path) (s : S) (o : O) (h1 h : Hp) (t : Top) (x : den s) (y : S × Top) (c : List Value), RepT m s o h1 t x → Le h1 h → ownP o q = true → res h s t q = some y → cellsAt h y.2 y.1.size c →
    res h1 s t q = some y ∧ cellsAt h1 y.2 y.1.size c
  | [], s, o, h1, h, t, x, y, c, r, hl, _, e, hc => by
    have e' : (s, t) = y := by cases s <;> (simp only [res] at e; injection e)
    subst e'
    refine ⟨by cases s <;> rfl, ?_⟩
    cases t with
    | flt d => exact hc
    | mem b off =>
      obtain ⟨c', h2, sp, rr⟩ := r
      have hc' : cellsAt h1 (.mem b off) s.size c' := ⟨Rep_len m s o _ _ _ rr, fun j v e => sp.left _ _ _ (blk_v e)⟩
      have := cells_uniq hl hc' hc
      rw [← this]; exact hc'
  | .L :: q, .pair a b, o, h1, h, t, x, y, c, r, hl, ho, e, hc => by
    obtain ⟨k1, k2, sp, ra, rb⟩ := RepT_pair.1 r
    obtain ⟨z1, z2⟩ := own_down q a o.l k1 h (t.l a.size) x.1 y c ra (sp.left.trans hl) (by cases o <;> exact ho) e hc
    exact ⟨res_le sp.left _ _ _ z1, cells_le sp.left z2⟩
  | .R :: q, .pair a b, o, h1, h, t, x, y, c, r, hl, ho, e, hc => by
    obtain ⟨k1, k2, sp, ra, rb⟩ := RepT_pair.1 r
    obtain ⟨z1, z2⟩ := own_down q b o.r k2 h (t.r a.size) x.2 y c rb (sp.right.trans hl) (by cases o <;> exact ho) e hc
    exact ⟨res_le sp.right _ _ _ z1, cells_le sp.right z2⟩
  | .ix i :: q, .sl et s, o, h1, h, t, xs, y, c, r, hl, ho, e, hc => by
    cases o with
    | imm => simp [ownP] at ho
    | pr _ _ => simp [ownP] at ho
    | own o =>
      obtain ⟨cc, hT, hR, sp, rr, hhead, _⟩ := RepT_open r
      rcases rr with ⟨e1, e2, _⟩ | ⟨b, off, cap, r1, r2, h2, ec, hcap, hlen, spR, rl⟩
      · have hh := hhead (.slice none 0 0) h (sp.left.trans hl) (by rw [e2]; rfl)
        simp only [res, hh] at e; cases e
      · have hh := hhead (.slice (some ⟨b, off, none⟩) xs.length cap) h (sp.left.trans hl) (by rw [ec]; rfl)
        have hh1 := hhead (.slice (some ⟨b, off, none⟩) xs.length cap) h1 sp.left (by rw [ec]; rfl)
        simp only [res, hh] at e
        split at e
        · rename_i hi
          have hlt : i.toNat < xs.length := by omega
          obtain ⟨hx1, hr, ca, cx, cb, spx, er, ela, rx, _, _⟩ := RepL_get (Rep_len m s o) i.toNat rl (List.getElem?_eq_getElem hlt)
          subst er
          have sA := blk_append b off ca (cx ++ (cb ++ r2))
          have sB := blk_append b (off + ca.length) cx (cb ++ r2)
          have eR : ca ++ cx ++ cb ++ r2 = ca ++ (cx ++ (cb ++ r2)) := by simp
          rw [eR] at spR
          obtain ⟨u1, _⟩ := sA.symm.assoc sB
          obtain ⟨v1, v2, v3⟩ := spR.four u1 spx
          have hE : Le (Un (blk b (off + ca.length) cx) hx1) h1 := v1.left.trans sp.right
          have rE : RepT m s o (Un (blk b (off + ca.length) cx) hx1) (.mem b (off + ca.length)) xs[i.toNat] := ⟨cx, hx1, v2, rx⟩
          rw [← ela] at e
          obtain ⟨z1, z2⟩ := own_down q s o _ h _ _ y c rE (hE.trans hl) ho e hc
          refine ⟨?_, cells_le hE z2⟩
          simp only [res, hh1, hi, and_self, if_true]
          rw [← ela]
          exact res_le hE _ _ _ z1
        · cases e
  | .L :: p, .int _, _, _, _, _, _, _, _, _, _, _, e, _ => by simp [res] at e
  | .L :: p, .bool, _, _, _, _, _, _, _, _, _, _, e, _ => by simp [res] at e
  | .L :: p, .str, _, _, _, _, _, _, _, _, _, _, e, _ => by simp [res] at e
  | .L :: p, .unit, _, _, _, _, _, _, _, _, _, _, e, _ => by simp [res] at e
  | .L :: p, .sl _ _, _, _, _, _, _, _, _, _, _, _, e, _ => by simp [res] at e
  | .L :: p, .map _, _, _, _, _, _, _, _, _, _, _, e, _ => by simp [res] at e
  | .R :: p, .int _, _, _, _, _, _, _, _, _, _, _, e, _ => by simp [res] at e
  | .R :: p, .bool, _, _, _, _, _, _, _, _, _, _, e, _ => by simp [res] at e
  | .R :: p, .str, _, _, _, _, _, _, _, _, _, _, e, _ => by simp [res] at e
  | .R :: p, .unit, _, _, _, _, _, _, _, _, _, _, e, _ => by simp [res] at e
  | .R :: p, .sl _ _, _, _, _, _, _, _, _, _, _, _, e, _ => by simp [res] at e
  | .R :: p, .map _, _, _, _, _, _, _, _, _, _, _, e, _ => by simp [res] at e
  | .ix _ :: p, .int _, _, _, _, _, _, _, _, _, _, _, e, _ => by simp [res] at e
  | .ix _ :: p, .bool, _, _, _, _, _, _, _, _, _, _, e, _ => by simp [res] at e
  | .ix _ :: p, .str, _, _, _, _, _, _, _, _, _, _, e, _ => by simp [res] at e
  | .ix _ :: p, .unit, _, _, _, _, _, _, _, _, _, _, e, _ => by simp [res] at e
  | .ix _ :: p, .pair _ _, _, _, _, _, _, _, _, _, _, _, e, _ => by simp [res] at e
  | .ix _ :: p, .map _, _, _, _, _, _, _, _, _, _, _, e, _ => by simp [res] at e
def Asd (o : O) (h hc : Hp) (s : S) (t : Top) (p : Path) : Prop :=
  ∀ (q : Path) (y : S × Top) (c : List Value), aside p q = true → ownP o q = true → res h s t q = some y → cellsAt h y.2 y.1.size c → res hc s t q = some y ∧ cellsAt hc y.2 y.1.size c
theorem blk_in {b off : Nat} {cs : List Value} {b' o' : Nat} {v : Cel} (h : blk b off cs b' o' = some v) : b' = b ∧ off ≤ o' ∧ o' < off + cs.length := by
  unfold blk at h
  split at h
  · rename_i g
    obtain ⟨u, h, _⟩ := Option.map_eq_some_iff.1 h
    have := (List.getElem?_eq_some_iff.1 h).1
    refine ⟨g.1, g.2, ?_⟩
    have := g.2
    omega
  · cases h
theorem focus {m : Hp} : ∀ (p : Path) (s : S) (o : O) (h : Hp) (t : Top) (x : den s), RepT m s o h t x → ownP o p = true →
    ∀ {R : Type} (k : (s' : S) → den s' → Option R) y, getK s x p k = some y →
    ∃ s' x' hs hc t', k s' x' = some y ∧ shapeAt s p = some s' ∧ (∀ h', Le hc h' → res h' s t p = some (s', t')) ∧ Sp h hs hc ∧ RepT m s' (maskAt o p) hs t' x' ∧ Back m s o hc t x p s' t' ∧ Asd o h hc s t p
  | [], s, o, h, t, x, r, _, R, k, y, e => by
    have e' : k s x = some y := by cases s <;> simpa only [getK] using e
    refine ⟨s, x, h, Hp.e, t, e', by cases s <;> rfl, fun h' _ => by cases s <;> rfl, Sp.e_right _, by cases o <;> exact r, ?_, fun q y c ha => by cases q <;> simp [aside] at ha⟩
    intro b off ht m' hs' h' o' o2 v hm hset sp r' R' k' y' hk
    subst ht
    have eh := sp.eq_left
    subst eh
    have eo : o2 = o' := by cases o <;> (simp only [setMask] at hset; injection hset with q; exact q.symm)
    subst eo
    have hk' : cast? s s v k' = some y' := by cases s <;> simpa only [setK] using hk
    obtain ⟨_, hk'⟩ := cast?_eq hk'
    exact ⟨v, hk', r'⟩
  | .L :: p, .pair a b, o, h, t, x, r, ho, R, k, y, e => by
    obtain ⟨h1, h2, sp, ra, rb⟩ := RepT_pair.1 r
    obtain ⟨s', x', hs, hc, t', hk, hsh, hres, sp1, r1, back, asd⟩ := focus p a o.l h1 (t.l a.size) x.1 ra (by cases o <;> exact ho) k y e
    obtain ⟨q, q2⟩ := sp.assoc sp1
    refine ⟨s', x', hs, Un hc h2, t', hk, hsh, fun h' hle => hres h' ((Un.le_left _ _).trans hle), q, by cases o <;> exact r1, ?_, ?_⟩
    case refine_2 =>
      intro q3 y3 c3 ha ho3 e3 hc3
      cases q3 with
      | nil => simp [aside] at ha
      | cons d q3 =>
        cases d with
        | L =>
          obtain ⟨z1, z2⟩ := own_down q3 a o.l h1 h _ x.1 y3 c3 ra sp.left (by cases o <;> exact ho3) e3 hc3
          obtain ⟨z3, z4⟩ := asd q3 y3 c3 ha (by cases o <;> exact ho3) z1 z2
          exact ⟨res_le (Un.le_left _ _) _ _ _ z3, cells_le (Un.le_left _ _) z4⟩
        | R =>
          obtain ⟨z1, z2⟩ := own_down q3 b o.r h2 h _ x.2 y3 c3 rb sp.right (by cases o <;> exact ho3) e3 hc3
          exact ⟨res_le (Un.le_right q2.dj) _ _ _ z1, cells_le (Un.le_right q2.dj) z2⟩
        | ix i => simp [aside] at ha
    intro b' off ht m' hs' h' o' o2 v hm hset sp' r' R' k' y' hk'
    have hset' : ∃ oa, setMask o.l p o' = some oa ∧ o2 = mkPr oa o.r := by
      cases o <;> (simp only [setMask] at hset; split at hset <;> first | (cases hset; done) | (rename_i oa hoa; exact ⟨oa, hoa, by injection hset with z; exact z.symm⟩))
    obtain ⟨oa, hoa, eo⟩ := hset'
    subst eo
    obtain ⟨w1, w2⟩ := sp'.assoc' q2
    obtain ⟨xa, hka, rxa⟩ := back b' off ht m' hs' (Un hs' hc) o' oa v hm hoa w2 r' (fun ya => k' (ya, x.2)) y' hk'
    refine ⟨(xa, x.2), hka, RepT_pair.2 ⟨Un hs' hc, h2, w1, by rw [mkPr_l]; exact rxa, ?_⟩⟩
    rw [mkPr_r]
    cases hh : t.r a.size with
    | mem _ _ => rw [hh] at rb; obtain ⟨c, k2, z1, z2⟩ := rb; exact ⟨c, k2, z1, Rep_mono hm _ _ _ _ _ z2⟩
    | flt _ => rw [hh] at rb; exact Rep_mono hm _ _ _ _ _ rb
  | .R :: p, .pair a b, o, h, t, x, r, ho, R, k, y, e => by
    obtain ⟨h1, h2, sp, ra, rb⟩ := RepT_pair.1 r
    obtain ⟨s', x', hs, hc, t', hk, hsh, hres, sp1, r1, back, asd⟩ := focus p b o.r h2 (t.r a.size) x.2 rb (by cases o <;> exact ho) k y e
    obtain ⟨q, q2⟩ := sp.symm.assoc sp1
    refine ⟨s', x', hs, Un hc h1, t', hk, hsh, fun h' hle => hres h' ((Un.le_left _ _).trans hle), q, by cases o <;> exact r1, ?_, ?_⟩
    case refine_2 =>
      intro q3 y3 c3 ha ho3 e3 hc3
      cases q3 with
      | nil => simp [aside] at ha
      | cons d q3 =>
        cases d with
        | R =>
          obtain ⟨z1, z2⟩ := own_down q3 b o.r h2 h _ x.2 y3 c3 rb sp.right (by cases o <;> exact ho3) e3 hc3
          obtain ⟨z3, z4⟩ := asd q3 y3 c3 ha (by cases o <;> exact ho3) z1 z2
          exact ⟨res_le (Un.le_left _ _) _ _ _ z3, cells_le (Un.le_left _ _) z4⟩
        | L =>
          obtain ⟨z1, z2⟩ := own_down q3 a o.l h1 h _ x.1 y3 c3 ra sp.left (by cases o <;> exact ho3) e3 hc3
          exact ⟨res_le (Un.le_right q2.dj) _ _ _ z1, cells_le (Un.le_right q2.dj) z2⟩
        | ix i => simp [aside] at ha
    intro b' off ht m' hs' h' o' o2 v hm hset sp' r' R' k' y' hk'
    have hset' : ∃ ob, setMask o.r p o' = some ob ∧ o2 = mkPr o.l ob := by
      cases o <;> (simp only [setMask] at hset; split at hset <;> first | (cases hset; done) | (rename_i ob hob; exact ⟨ob, hob, by injection hset with z; exact z.symm⟩))
    obtain ⟨ob, hob, eo⟩ := hset'
    subst eo
    obtain ⟨w1, w2⟩ := sp'.assoc' q2
    obtain ⟨xb, hkb, rxb⟩ := back b' off ht m' hs' (Un hs' hc) o' ob v hm hob w2 r' (fun yb => k' (x.1, yb)) y' hk'
    refine ⟨(x.1, xb), hkb, RepT_pair.2 ⟨h1, Un hs' hc, w1.symm, ?_, by rw [mkPr_r]; exact rxb⟩⟩
    rw [mkPr_l]
    cases hh : t.l a.size with
    | mem _ _ => rw [hh] at ra; obtain ⟨c, k2, z1, z2⟩ := ra; exact ⟨c, k2, z1, Rep_mono hm _ _ _ _ _ z2⟩
    | flt _ => rw [hh] at ra; exact Rep_mono hm _ _ _ _ _ ra
  | .ix i :: p, .sl et s, o, h, t, xs, r, ho, R, k, y, e => by
    cases o with
    | imm => simp [ownP] at ho
    | pr _ _ => simp [ownP] at ho
    | own o =>
      obtain ⟨x, hx, e⟩ := bindO_eq e
      obtain ⟨hi0, hil, hix⟩ := idx_eq hx
      obtain ⟨cc, hT, hR, sp, rr, hhead, hback⟩ := RepT_open r
      rcases rr with ⟨e1, _, _⟩ | ⟨b, off, cap, r1, r2, h2, ec, hcap, hlen, spR, rl⟩
      · subst e1; simp at hix
      obtain ⟨hx1, hr, ca, cx, cb, spx, er, ela, rx, rback, rother⟩ := RepL_get (Rep_len m s o) i.toNat rl hix
      subst er
      -- the region in three
      have sA := blk_append b off ca (cx ++ (cb ++ r2))
      have sB := blk_append b (off + ca.length) cx (cb ++ r2)
      have eR : ca ++ cx ++ cb ++ r2 = ca ++ (cx ++ (cb ++ r2)) := by simp
      rw [eR] at spR
      -- element: E = cx's cells and hx1; the rest
      obtain ⟨u1, u2⟩ := sA.symm.assoc sB
      -- u1 : Sp (blk all) (blk cx) (Un (blk rest) (blk ca)) ; u2
      obtain ⟨v1, v2, v3⟩ := spR.four u1 spx
      -- v1 : Sp hR (Un (blk cx) hx1) (Un (..) hr)
      obtain ⟨w1, w2⟩ := sp.symm.assoc v1
      -- w1 : Sp h (Un (blk cx) hx1) (Un ctx hT)
      have hlx := Rep_len m s o _ _ _ rx
      have rE : RepT m s o (Un (blk b (off + ca.length) cx) hx1) (.mem b (off + ca.length)) x := ⟨cx, hx1, v2, rx⟩
      obtain ⟨s', x', hs, hc, t', hk, hsh, hres, sp1, rr1, back, asd⟩ := focus p s o _ _ x rE ho k y e
      obtain ⟨q, q2⟩ := w1.assoc sp1
      refine ⟨s', x', hs, _, t', hk, hsh, ?_, q, rr1, ?_, ?_⟩
      case refine_3 =>
        intro q3 y3 c3 ha ho3 e3 hc3
        have hv : cc.head? = some (.slice (some ⟨b, off, none⟩) xs.length cap) := by rw [ec]; rfl
        have hhh := hhead _ h sp.left hv
        have hhc := hhead _ _ (w2.right.trans (Un.le_right q2.dj)) hv
        cases q3 with
        | nil =>
          have e' : (S.sl et s, t) = y3 := by simp only [res] at e3; injection e3
          subst e'
          refine ⟨rfl, ?_⟩
          cases t with
          | flt d => exact hc3
          | mem b0 off0 =>
            obtain ⟨l3, f3⟩ := hc3
            refine ⟨l3, fun j v ev => ?_⟩
            have hj : j = 0 := by
              have : j < c3.length := (List.getElem?_eq_some_iff.1 ev).1
              have : S.size (.sl et s) = 1 := rfl
              simp only at l3
              omega
            subst hj
            have h5 := f3 0 v ev
            have h6 := head_mem.1 hhh
            rw [Nat.add_zero] at h5 ⊢
            rw [h6] at h5
            injection h5 with h5
            injection h5 with h5
            subst h5
            exact head_mem.1 hhc
        | cons d q3 =>
          cases d with
          | L => simp [aside] at ha
          | R => simp [aside] at ha
          | ix j =>
            have ha : aside p q3 = true := ha
            have ho3 : ownP o q3 = true := ho3
            simp only [res, hhh] at e3
            split at e3
            · rename_i hj
              simp only [res, hhc, hj, and_self, if_true]
              by_cases hij : j.toNat = i.toNat
              · rw [hij, ← ela] at e3 ⊢
                obtain ⟨z1, z2⟩ := own_down q3 s o _ h _ x y3 c3 rE w1.left ho3 e3 hc3
                obtain ⟨z3, z4⟩ := asd q3 y3 c3 ha ho3 z1 z2
                exact ⟨res_le (Un.le_left _ _) _ _ _ z3, cells_le (Un.le_left _ _) z4⟩
              · have hlt : j.toNat < xs.length := by omega
                obtain ⟨hz, hq, da, cz, db, sp2, ec2, el2, rz⟩ := rother j.toNat xs[j.toNat] hij (List.getElem?_eq_getElem hlt)
                have hlz := Rep_len m s o _ _ _ rz
                obtain ⟨spz, _⟩ := spx.symm.assoc sp2
                have sA2 := blk_append b off da (cz ++ (db ++ r2))
                have sB2 := blk_append b (off + da.length) cz (db ++ r2)
                have eR2 : ca ++ (cx ++ (cb ++ r2)) = da ++ (cz ++ (db ++ r2)) := by
                  rw [← eR, ec2]; simp
                obtain ⟨g1, _⟩ := sA2.symm.assoc sB2
                have spR2 := spR
                rw [eR2] at spR2
                obtain ⟨f1, f2, f3⟩ := spR2.four g1 spz
                have hE : Le (Un (blk b (off + da.length) cz) hz) h := f1.left.trans sp.right
                have rEj : RepT m s o (Un (blk b (off + da.length) cz) hz) (.mem b (off + da.length)) xs[j.toNat] := ⟨cz, hz, f2, rz⟩
                have hEc : Le (Un (blk b (off + da.length) cz) hz) (Un hc (Un (Un (Un (blk b (off + ca.length + cx.length) (cb ++ r2)) (blk b off ca)) hr) hT)) := by
                  refine Le.trans ?_ (w2.left.trans (Un.le_right q2.dj))
                  intro b' o' v ev
                  rcases f2.some ev with g | g
                  · -- the cells of another element
                    have hin : blk b off (ca ++ (cx ++ (cb ++ r2))) b' o' = some v := by rw [eR2]; exact g1.left _ _ _ g
                    rcases u1.some hin with k1 | k1
                    · exfalso
                      obtain ⟨b1, o1, o2⟩ := blk_in g
                      obtain ⟨_, o3, o4⟩ := blk_in k1
                      rw [el2, hlz] at o2
                      rw [el2] at o1
                      rw [ela] at o3
                      rw [ela, hlx] at o4
                      rcases Nat.lt_or_gt_of_ne hij with hl2 | hl2
                      · have := Nat.mul_le_mul_right s.size (Nat.succ_le_of_lt hl2)
                        rw [Nat.succ_mul] at this
                        omega
                      · have := Nat.mul_le_mul_right s.size (Nat.succ_le_of_lt hl2)
                        rw [Nat.succ_mul] at this
                        omega
                    · exact v3.left _ _ _ k1
                  · exact v3.right _ _ _ (sp2.left _ _ _ g)
                rw [← el2] at e3 ⊢
                obtain ⟨z1, z2⟩ := own_down q3 s o _ h _ _ y3 c3 rEj hE ho3 e3 hc3
                exact ⟨res_le hEc _ _ _ z1, cells_le hEc z2⟩
            · cases e3
      · intro h' hle
        have hh := hhead (.slice (some ⟨b, off, none⟩) xs.length cap) h' ((w2.right.trans (Un.le_right q2.dj)).trans hle) (by rw [ec]; rfl)
        simp only [res, hh, hi0, hil, and_self, if_true]
        rw [ela] at hres
        exact hres h' ((Un.le_left _ _).trans hle)
      · intro b' off' ht m' hs' h' o' o2 v hm hset sp' r' R' k' y' hk'
        obtain ⟨qo, eq1, eq2, hset'⟩ := setMask_ix hset
        injection eq1 with eq1
        subst eq1 eq2
        obtain ⟨z1, z2⟩ := sp'.assoc' q2
        obtain ⟨x0, hx0, hk0⟩ := bindO_eq hk'
        have ex : x0 = x := by rw [hx] at hx0; injection hx0 with q; exact q.symm
        subst ex
        obtain ⟨x2, hk2, rx2⟩ := back b' off' ht m' hs' (Un hs' hc) o' o v hm hset' z2 r' (fun y => k' (pSet xs i y)) y' hk0
        obtain ⟨cx', hx', spE, rxE⟩ := rx2
        have hlx' := Rep_len m' s o _ _ _ rxE
        refine ⟨_, hk2, ?_⟩
        -- put it together again
        obtain ⟨y1, y2⟩ := z1.assoc' w2
        -- y1 : Sp h' (Un (Un hs' hc) ctx) hT
        refine hback m' (.own o) _ h' (pSet xs i x2) y1.symm (.inr ⟨b, off, cap, ca ++ cx' ++ cb, r2, Un hx' hr, ?_, ?_, ?_, ?_, ?_⟩)
        · rw [ec]; simp [pSet]
        · simpa [pSet] using hcap
        · simp only [List.length_append] at hlen ⊢; omega
        · -- the region
          have sA' := blk_append b off ca (cx' ++ (cb ++ r2))
          have sB' := blk_append b (off + ca.length) cx' (cb ++ r2)
          have hl : cx'.length = cx.length := by rw [hlx, hlx']
          rw [hl] at sB'
          obtain ⟨g1, g2⟩ := sA'.symm.assoc sB'
          have eR' : ca ++ cx' ++ cb ++ r2 = ca ++ (cx' ++ (cb ++ r2)) := by simp
          rw [eR']
          obtain ⟨f1, f2, f3⟩ := y2.four spE v3
          have := f2.uniq g1
          rw [this] at f1
          exact f1
        · refine rback (Rep m' s o) (Rep_mono hm s o) hx' _ cx' x2 ?_ rxE
          obtain ⟨f1, f2, f3⟩ := y2.four spE v3
          exact f3
  | .L :: p, .int _, _, _, _, _, _, _, _, _, _, e => by simp [getK] at e
  | .L :: p, .bool, _, _, _, _, _, _, _, _, _, e => by simp [getK] at e
  | .L :: p, .str, _, _, _, _, _, _, _, _, _, e => by simp [getK] at e
  | .L :: p, .unit, _, _, _, _, _, _, _, _, _, e => by simp [getK] at e
  | .L :: p, .sl _ _, _, _, _, _, _, _, _, _, _, e => by simp [getK] at e
  | .L :: p, .map _, _, _, _, _, _, _, _, _, _, e => by simp [getK] at e
  | .R :: p, .int _, _, _, _, _, _, _, _, _, _, e => by simp [getK] at e
  | .R :: p, .bool, _, _, _, _, _, _, _, _, _, e => by simp [getK] at e
  | .R :: p, .str, _, _, _, _, _, _, _, _, _, e => by simp [getK] at e
  | .R :: p, .unit, _, _, _, _, _, _, _, _, _, e => by simp [getK] at e
  | .R :: p, .sl _ _, _, _, _, _, _, _, _, _, _, e => by simp [getK] at e
  | .R :: p, .map _, _, _, _, _, _, _, _, _, _, e => by simp [getK] at e
  | .ix _ :: p, .int _, _, _, _, _, _, _, _, _, _, e => by simp [getK] at e
  | .ix _ :: p, .bool, _, _, _, _, _, _, _, _, _, e => by simp [getK] at e
  | .ix _ :: p, .str, _, _, _, _, _, _, _, _, _, e => by simp [getK] at e
  | .ix _ :: p, .unit, _, _, _, _, _, _, _, _, _, e => by simp [getK] at e
  | .ix _ :: p, .pair _ _, _, _, _, _, _, _, _, _, _, e => by simp [getK] at e
  | .ix _ :: p, .map _, _, _, _, _, _, _, _, _, _, e => by simp [getK] at e
end Go.AE
namespace Go.AE
structure Sup where
  m : Hp
  hs : Nat → Hp
  tops : Nat → Top
  pd : Nat → Option (Nat × Nat × Value)
  ptop : Nat → Top   -- where the parameters' objects stand
  rs : Nat → Hp      -- the cells by which pointers were found (the object's own, but while it waits for a store)
def mkVal (s : S) (c : List Value) : Value := if s.isAgg = true then .agg c.toArray else c.headD undef
def updH (h : Hp) (b o : Nat) (v : Value) : Hp := fun x y => if x = b ∧ y = o then some (.v v) else h x y
abbrev Obs := Nat → Option Ob
def isPtr (Z : Sup) (ob : Obs) (r : Nat) (p : Path) (v : Value) : Prop :=
  ∃ o s' b off, ob r = some o ∧ res (Z.rs r) o.s (Z.tops r) p = some (s', .mem b off) ∧ v = .pointer (some ⟨b, off, none⟩)
def isRp (Z : Sup) (s : S) (x : den s) (v : Value) : Prop :=
  ∃ b off c, v = .pointer (some ⟨b, off, none⟩) ∧ Cov Z.m b off c ∧ Rep Z.m s .imm Hp.e c x
def RelCap (Z : Sup) (ob : Obs) : Cap → Value → Prop
  | .cp r p, v => isPtr Z ob r p v
  | .cr s x, v => isRp Z s x v
def All2 {A B : Type} (R : A → B → Prop) : List A → List B → Prop
  | [], [] => True
  | a :: as, b :: bs => R a b ∧ All2 R as bs
  | _, _ => False
def RelAV (Z : Sup) (ob : Obs) : AV → Value → Prop
  | .pv s x, v => ∃ c, v = mkVal s c ∧ Rep Z.m s .imm Hp.e c x
  | .z s, v => v = mkVal s s.zcells
  | .rp s x, v => isRp Z s x v
  | .ptr r p, v => isPtr Z ob r p v
  | .ov r p, v => ∃ o s' t c, ob r = some o ∧ res (Z.hs r) o.s (Z.tops r) p = some (s', t) ∧ cellsAt (Z.hs r) t s'.size c ∧ v = mkVal s' c
  | .osub r p lo hi, v => ∃ o e s' t a len cap, ob r = some o ∧ res (Z.hs r) o.s (Z.tops r) p = some (.sl e s', t) ∧ cellsAt (Z.hs r) t 1 [.slice a len cap] ∧
      0 ≤ lo ∧ lo ≤ hi ∧ hi ≤ len ∧ len ≤ cap ∧ v = .slice (if cap = lo.toNat then a else a.map (·.add (lo.toNat * s'.size))) (hi.toNat - lo.toNat) (cap - lo.toNat)
  | .bx r p, v => ∃ o s' t c b off, ob r = some o ∧ res (Z.hs r) o.s (Z.tops r) p = some (s', t) ∧ cellsAt (Z.hs r) t s'.size c ∧ v = .pointer (some ⟨b, off, none⟩) ∧ c.length = s'.size ∧ Cov Z.m b off c
  | .app r p, v => ∃ o b off, ob r = some o ∧ o.pend = some p ∧ Z.pd r = some (b, off, v)
  | .fn f caps, v => ∃ vs, v = .func (.func f) #[] vs.toArray ∧ All2 (RelCap Z ob) caps vs
  | .dead, _ => True
def RelSV (Z : Sup) (ob : Obs) : SV → Value → Prop
  | .one a, v => RelAV Z ob a v
  | .tup l, v => ∃ vs, v = .tuple vs.toArray ∧ All2 (RelAV Z ob) l vs
def markOf : Value → Option (Nat × Nat × Nat × Nat)
  | .slice (some ⟨t, g, some cap⟩) 0 e => some (t, g, cap, e)
  | _ => none
def MkAt (n : Nat) (w : World) (b : Nat) (z : Nat × Nat × Nat × Nat) : Prop := w.shape? b = some (z.1, 2) ∧ (z.2.2.1 = 0 ∨ (w.shape? z.2.1 = some (z.2.2.2, z.2.2.1) ∧ n ≤ z.2.1))
def BltOk (Z : Sup) (r b off : Nat) (v : Value) (t e : TypeId) : Prop :=
  ∃ g cap p ad n, markOf v = some (t, g, cap, e) ∧ Z.tops r = .mem b 0 ∧ off = 0 ∧ Z.hs r b 0 = some (.v p) ∧ (p = .pointer none ∨ p = .pointer (some ⟨b, 0, none⟩)) ∧
    Z.hs r b 1 = some (.v (.slice ad n cap)) ∧ n ≤ 68719476736 ∧ ((cap = 0 ∧ ad = none) ∨ (cap ≠ 0 ∧ ad = some ⟨g, 0, none⟩))
def RelOb (Z : Sup) (r : Nat) (o : Ob) : Prop :=
  (o.mem = true ↔ ∃ b off, Z.tops r = .mem b off) ∧
  match o.pend with
  | none => RepT Z.m o.s o.o (Z.hs r) (Z.tops r) o.x
  | some p => ∃ b off v et s', Z.pd r = some (b, off, v) ∧ (∃ u, Z.hs r b off = some (.v u)) ∧ RepT Z.m o.s o.o (updH (Z.hs r) b off v) (Z.tops r) o.x ∧
      res (Z.rs r) o.s (Z.tops r) p = some (.sl et s', .mem b off) ∧ ∃ ad len cap, v = .slice ad len cap ∧ ∀ t e, bltOf o.s = some (t, e) → BltOk Z r b off v t e
structure Rel (Z : Sup) (st : St) (tmps : Array Value) (w : World) : Prop where
  imm : ∀ b o v, Z.m b o = some v → hat w b o = some v
  own : ∀ r b o v, Z.hs r b o = some v → hat w b o = some v ∧ NF w b
  mdj : ∀ r, Dj Z.m (Z.hs r)
  dj : ∀ r r', r ≠ r' → Dj (Z.hs r) (Z.hs r')
  obs : ∀ r o, st.ob r = some o → RelOb Z r o
  env : ∀ i, RelSV Z st.ob (getSlot st.env i) (tmps.getD i undef)
  len : tmps.size = st.env.length
  rse : ∀ r o, st.ob r = some o → o.pend = none → Z.rs r = Z.hs r
  pin : ∀ r o, st.ob r = some o → r < 50 → (o.mem = true ∨ o.fixed = true) → Z.tops r = Z.ptop r
structure Ctx (tb : Hp) where
  w : World
  ptop : Nat → Top
  m : Hp
  h : Hp
  tab : Le tb m
structure Fr {tb : Hp} (C : Ctx tb) (Z : Sup) (w : World) : Prop where
  os : w.os = C.w.os
  tape : w.tape = C.w.tape
  output : w.output = C.w.output
  size : C.w.heap.size ≤ w.heap.size
  block : ∀ b, b < C.w.heap.size → (∀ o, C.h b o = none) → w.heap[b]? = C.w.heap[b]?
  cell : ∀ b o, b < C.w.heap.size → C.h b o = none → hat w b o = hat C.w b o
  frz : ∀ b o, b < C.w.heap.size → w.frozen? ⟨b, o, none⟩ = C.w.frozen? ⟨b, o, none⟩
  m : Le C.m Z.m
  hs : ∀ r b o, Z.hs r b o ≠ none → C.h b o ≠ none ∨ C.w.heap.size ≤ b
  mf : ∀ b o, Z.m b o ≠ none → C.m b o ≠ none ∨ C.h b o ≠ none ∨ C.w.heap.size ≤ b
  ptop : Z.ptop = C.ptop
  shp : ∀ b, b < C.w.heap.size → w.shape? b = C.w.shape? b
  blt : ∀ r b off v z, Z.pd r = some (b, off, v) → markOf v = some z → MkAt C.w.heap.size w b z
def Inv {tb : Hp} (C : Ctx tb) (st : St) (a : Act) (w : World) : Prop := a.defers = [] ∧ ∃ Z, Rel Z st a.tmps w ∧ Fr C Z w
def Keeps (Z Z' : Sup) (u : List (Nat × Option Ob)) : Prop :=
  Le Z.m Z'.m ∧ ∀ r, (∀ x ∈ u, x.1 ≠ r) → Z'.hs r = Z.hs r ∧ Z'.tops r = Z.tops r ∧ Z'.pd r = Z.pd r ∧ Z'.rs r = Z.rs r
theorem Keeps.refl (Z : Sup) (u : List (Nat × Option Ob)) : Keeps Z Z u := ⟨fun _ _ _ h => h, fun r _ => ⟨rfl, rfl, rfl, rfl⟩⟩
def InvK {tb : Hp} (C : Ctx tb) (Z : Sup) (st : St) (d : Option Tmp) (e : Eff) (a : Act) (w : World) : Prop :=
  a.defers = [] ∧ ∃ Z', Rel Z' (st.apply d e) a.tmps w ∧ Fr C Z' w ∧ Keeps Z Z' e.upd
theorem InvK.inv {tb : Hp} {C : Ctx tb} {Z : Sup} {st : St} {d : Option Tmp} {e : Eff} {a : Act} {w : World} (h : InvK C Z st d e a w) : Inv C (st.apply d e) a w :=
  let ⟨h1, Z', h2, h3, _⟩ := h; ⟨h1, Z', h2, h3⟩
theorem getSlot_nil (i : Nat) : getSlot [] i = .one .dead := by cases i <;> rfl
theorem getSlot_set {v : SV} : ∀ (env : List SV) (d i : Nat), getSlot (setSlot env d v) i = if i = d ∧ d < env.length then v else getSlot env i
  | [], d, i => by simp [setSlot, getSlot_nil]
  | a :: l, 0, 0 => by simp [setSlot, getSlot]
  | a :: l, 0, i + 1 => by simp [setSlot, getSlot]
  | a :: l, d + 1, 0 => by simp [setSlot, getSlot]
  | a :: l, d + 1, i + 1 => by simp [setSlot, getSlot, getSlot_set l d i]
theorem setSlot_len {v : SV} : ∀ (env : List SV) (d : Nat), (setSlot env d v).length = env.length
  | [], d => by simp [setSlot]
  | a :: l, 0 => by simp [setSlot]
  | a :: l, d + 1 => by simp [setSlot, setSlot_len l d]
theorem getD_set {tmps : Array Value} {d i : Nat} {v : Value} : (tmps.setIfInBounds d v).getD i undef = if i = d ∧ d < tmps.size then v else tmps.getD i undef := by
  simp only [Array.getD_eq_getD_getElem?, Array.getElem?_setIfInBounds]
  by_cases h : d = i
  · subst h
    by_cases h2 : d < tmps.size
    · simp [h2]
    · simp [h2]
  · have : ¬ i = d := fun e => h e.symm
    simp [h, this]
theorem getSlot_kill (r : Nat) (k : KK) : ∀ (env : List SV) (i : Nat), getSlot (killEnv r k env) i = killS r k (getSlot env i)
  | [], i => by simp [killEnv, getSlot_nil, killS, hit]
  | a :: l, 0 => rfl
  | a :: l, i + 1 => getSlot_kill r k l i
theorem killEnv_len (r : Nat) (k : KK) : ∀ (env : List SV), (killEnv r k env).length = env.length
  | [] => rfl
  | a :: l => by simp [killEnv, killEnv_len r k l]
theorem kills_len : ∀ (l : List (Nat × KK)) (env : List SV), (kills l env).length = env.length
  | [], env => rfl
  | (r, k) :: l, env => by rw [kills, kills_len l, killEnv_len]
def untouched (l : List (Nat × KK)) (a : AV) : Prop := ∀ rk ∈ l, hit rk.1 rk.2 a = false
theorem anyHit_false {r : Nat} {k : KK} : ∀ {l : List AV}, anyHit r k l = false → ∀ a ∈ l, hit r k a = false
  | [], _, a, h => by cases h
  | b :: l, e, a, h => by
    simp only [anyHit, Bool.or_eq_false_iff] at e
    cases h with
    | head => exact e.1
    | tail _ h => exact anyHit_false e.2 a h
theorem All2.imp {A B : Type} {R R' : A → B → Prop} : ∀ {as : List A} {bs : List B}, (∀ a ∈ as, ∀ b, R a b → R' a b) → All2 R as bs → All2 R' as bs
  | [], [], _, _ => trivial
  | a :: as, b :: bs, h, ⟨h1, h2⟩ => ⟨h a (by simp) b h1, All2.imp (fun a ha => h a (by simp [ha])) h2⟩
theorem All2.len {A B : Type} {R : A → B → Prop} : ∀ {as : List A} {bs : List B}, All2 R as bs → as.length = bs.length
  | [], [], _ => rfl
  | a :: as, b :: bs, ⟨_, h⟩ => by simp [All2.len h]
theorem kills_env {Z Z' : Sup} {ob ob' : Obs} {tmps : Array Value} : ∀ (l : List (Nat × KK)) (env : List SV) (i : Nat),
    (∀ a v, untouched l a → RelAV Z ob a v → RelAV Z' ob' a v) → RelSV Z ob (getSlot env i) (tmps.getD i undef) →
    RelSV Z' ob' (getSlot (kills l env) i) (tmps.getD i undef) ∨ getSlot (kills l env) i = .one .dead := by
  intro l
  have key : ∀ (l : List (Nat × KK)) (env : List SV) (i : Nat), getSlot (kills l env) i = .one .dead ∨
      (getSlot (kills l env) i = getSlot env i ∧ match getSlot env i with | .one a => untouched l a | .tup as => ∀ a ∈ as, untouched l a) := by
    intro l
    induction l with
    | nil => intro env i; right; refine ⟨rfl, ?_⟩; cases getSlot env i with
      | one a => intro rk h; cases h
      | tup as => intro a _ rk h; cases h
    | cons rk l ih =>
      intro env i
      obtain ⟨r, k⟩ := rk
      simp only [kills]
      rcases ih (killEnv r k env) i with h | ⟨h, h2⟩
      · exact .inl h
      · rw [getSlot_kill] at h h2
        cases hs : getSlot env i with
        | one a =>
          rw [hs] at h h2
          simp only [killS] at h h2
          cases hh : hit r k a with
          | true => left; rw [h, hh]; rfl
          | false =>
            right
            rw [hh] at h h2
            refine ⟨h, ?_⟩
            intro rk hrk
            cases hrk with
            | head => exact hh
            | tail _ hrk => exact h2 rk hrk
        | tup as =>
          rw [hs] at h h2
          simp only [killS] at h h2
          cases hh : anyHit r k as with
          | true => left; rw [h, hh]; rfl
          | false =>
            right
            rw [hh] at h h2
            refine ⟨h, ?_⟩
            intro a ha rk hrk
            cases hrk with
            | head => exact anyHit_false hh a ha
            | tail _ hrk => exact h2 a ha rk hrk
  intro env i hz hr
  rcases key l env i with h | ⟨h, h2⟩
  · exact .inr h
  · left
    rw [h]
    cases hs : getSlot env i with
    | one a => rw [hs] at hr h2; exact hz a _ h2 hr
    | tup as =>
      rw [hs] at hr h2
      obtain ⟨vs, e, al⟩ := hr
      exact ⟨vs, e, al.imp fun a ha b hab => hz a b (h2 a ha) hab⟩
theorem put_tmps (a : Act) (d : Option Tmp) (v : Value) : (a.put d v).tmps = (match d with | some d => a.tmps.setIfInBounds d v | none => a.tmps) := by
  cases d <;> rfl
theorem put_defers (a : Act) (d : Option Tmp) (v : Value) : (a.put d v).defers = a.defers := by cases d <;> rfl
theorem Rel.apply {Z Z' : Sup} {st : St} {a : Act} {w w' : World} {d : Option Tmp} {e : Eff} {v : Value} (R : Rel Z st a.tmps w)
    (imm : ∀ b o v, Z'.m b o = some v → hat w' b o = some v)
    (own : ∀ r b o v, Z'.hs r b o = some v → hat w' b o = some v ∧ NF w' b)
    (mdj : ∀ r, Dj Z'.m (Z'.hs r)) (dj : ∀ r r', r ≠ r' → Dj (Z'.hs r) (Z'.hs r'))
    (obs : ∀ r o, (st.apply d e).ob r = some o → RelOb Z' r o)
    (env : ∀ x v, untouched e.kill x → RelAV Z st.ob x v → RelAV Z' (st.apply d e).ob x v)
    (hv : RelSV Z' (st.apply d e).ob e.av v) (rse : ∀ r o, (st.apply d e).ob r = some o → o.pend = none → Z'.rs r = Z'.hs r)
    (pin : ∀ r o, (st.apply d e).ob r = some o → r < 50 → (o.mem = true ∨ o.fixed = true) → Z'.tops r = Z'.ptop r) : Rel Z' (st.apply d e) (a.put d v).tmps w' := by
  refine ⟨imm, own, mdj, dj, obs, ?_, ?_, rse, pin⟩
  · intro i
    have base : RelSV Z' (st.apply d e).ob (getSlot (kills e.kill st.env) i) (a.tmps.getD i undef) := by
      rcases kills_env (Z' := Z') (ob' := (st.apply d e).ob) e.kill st.env i env (R.env i) with h | h
      · exact h
      · rw [h]; trivial
    cases d with
    | none => exact base
    | some d =>
      show RelSV Z' (st.apply (some d) e).ob (getSlot (setSlot (kills e.kill st.env) d e.av) i) ((a.tmps.setIfInBounds d v).getD i undef)
      rw [getSlot_set, getD_set, kills_len, ← R.len]
      split
      · exact hv
      · exact base
  · cases d with
    | none => show a.tmps.size = (kills e.kill st.env).length; rw [kills_len]; exact R.len
    | some d => show (a.tmps.setIfInBounds d v).size = (setSlot (kills e.kill st.env) d e.av).length; rw [setSlot_len, kills_len]; simpa using R.len
theorem Rel.set {Z : Sup} {st : St} {a : Act} {w : World} {d : Option Tmp} {x : AV} {v : Value} (R : Rel Z st a.tmps w) (h : RelAV Z st.ob x v) :
    Rel Z (st.apply d { av := .one x }) (a.put d v).tmps w := by
  have e : (st.apply d { av := .one x }).ob = st.ob := by cases d <;> rfl
  exact R.apply (e := { av := .one x }) R.imm R.own R.mdj R.dj (by rw [e]; exact R.obs) (by rw [e]; exact fun _ _ _ h => h) (by rw [e]; exact h) (by rw [e]; exact R.rse) (by rw [e]; exact R.pin)
theorem Inv.set {tb : Hp} {C : Ctx tb} {st : St} {a : Act} {w : World} {d : Option Tmp} {x : AV} {v : Value} {Z : Sup} (hd : a.defers = []) (R : Rel Z st a.tmps w) (F : Fr C Z w) (h : RelAV Z st.ob x v) :
    InvK C Z st d { av := .one x } (a.put d v) w := ⟨by rw [put_defers]; exact hd, Z, R.set h, F, Keeps.refl _ _⟩
end Go.AE
namespace Go.AE
theorem zeroCells?_eq : ∀ (s : S) (l r : List Value), zeroCells? s l = some r → l = s.zcells ++ r
  | .unit, r, r', h => by have h : some r = some r' := h; cases h; rfl
  | .pair a b, l, r', h => by
    simp only [zeroCells?] at h
    split at h
    · rename_i r1 h1
      rw [zeroCells?_eq a _ _ h1, zeroCells?_eq b _ _ h]; simp [S.zcells]
    · cases h
  | .int k, l, r', h => by
    cases l with
    | nil => simp [zeroCells?] at h
    | cons v r =>
      cases v <;> first | (simp [zeroCells?] at h; done) | skip
      simp only [zeroCells?] at h
      split at h
      · rename_i e _
        split at h
        · injection h with h; subst h; subst e; rfl
        · cases h
      · cases h
  | .bool, l, r', h => by
    cases l with
    | nil => simp [zeroCells?] at h
    | cons v r =>
      cases v <;> first | (simp [zeroCells?] at h; done) | skip
      rename_i b
      simp only [zeroCells?] at h
      cases b with
      | true => cases h
      | false => simp only [cond_false] at h; injection h with h; subst h; rfl
  | .str, l, r', h => by
    cases l with
    | nil => simp [zeroCells?] at h
    | cons v r =>
      cases v <;> first | (simp [zeroCells?] at h; done) | skip
      rename_i s
      simp only [zeroCells?] at h
      obtain ⟨hs, h⟩ := cond_some h
      injection h with h; subst h
      have h0 : s.size = 0 := Nat.eq_of_beq_eq_true hs
      have : s = ⟨#[]⟩ := by
        cases s with
        | mk d =>
          have : d = #[] := Array.eq_empty_of_size_eq_zero h0
          rw [this]
      rw [this]; rfl
  | .sl _ _, l, r', h => by
    cases l with
    | nil => simp [zeroCells?] at h
    | cons v r =>
      cases v <;> first | (simp [zeroCells?] at h; done) | skip
      rename_i a len cap
      cases a with
      | some a => simp [zeroCells?] at h
      | none => cases len with
        | succ n => simp [zeroCells?] at h
        | zero => cases cap with
          | succ n => simp [zeroCells?] at h
          | zero => simp only [zeroCells?] at h; injection h with h; subst h; rfl
  | .map _, l, r', h => by
    cases l with
    | nil => simp [zeroCells?] at h
    | cons v r =>
      cases v <;> first | (simp [zeroCells?] at h; done) | skip
      rename_i a
      cases a with
      | some a => simp [zeroCells?] at h
      | none => simp only [zeroCells?] at h; injection h with h; subst h; rfl
def zeroVal (s : S) (v : Value) : Bool :=
  bif s.isAgg then (match v with | .agg cs => (match zeroCells? s cs.toList with | some [] => true | _ => false) | _ => false)
  else (match zeroCells? s [v] with | some [] => true | _ => false)
theorem zcells_len (s : S) : s.zcells.length = s.size := Rep_len Hp.e s .imm _ _ _ (Rep_zero Hp.e s .imm)
theorem zeroVal_eq {s : S} {v : Value} (h : zeroVal s v = true) : v = mkVal s s.zcells := by
  unfold zeroVal at h
  unfold mkVal
  cases hs : s.isAgg with
  | true =>
    rw [hs] at h
    simp only [cond_true] at h
    split at h
    · rename_i cs
      split at h
      · rename_i hz
        have := zeroCells?_eq _ _ _ hz
        simp only [List.append_nil] at this
        simp [← this]
      · cases h
    · cases h
  | false =>
    rw [hs] at h
    simp only [cond_false] at h
    split at h
    · rename_i hz
      have := zeroCells?_eq _ _ _ hz
      simp only [List.append_nil] at this
      simp [← this]
    · cases h
def okInfo (P : Program) (t : TypeId) (s : S) : Bool :=
  match P.info? t with
  | some i => Nat.beq i.size s.size && (match i.zero with | some v => zeroVal s v | none => false) && Nat.ble i.bytes 2048
  | none => false
structure Info (P : Program) (t : TypeId) (s : S) : Prop where
  ex : ∃ i, P.info? t = some i ∧ i.size = s.size ∧ i.zero = some (mkVal s s.zcells) ∧ i.bytes ≤ 2048
theorem okInfo_ok {P : Program} {t : TypeId} {s : S} (h : okInfo P t s = true) : Info P t s := by
  unfold okInfo at h
  split at h
  · rename_i i hi
    simp only [Bool.and_eq_true] at h
    obtain ⟨⟨h1, h2⟩, h3⟩ := h
    refine ⟨i, hi, Nat.eq_of_beq_eq_true h1, ?_, Nat.le_of_ble_eq_true h3⟩
    split at h2
    · rename_i v hv; rw [hv, zeroVal_eq h2]
    · cases h2
  · cases h
def aggB (P : Program) (t : TypeId) (s : S) : Bool :=
  match P.underlying t with
  | some (.struct _) | some (.array _ _) => s.isAgg
  | some _ => !s.isAgg
  | none => false
def fieldsOk (P : Program) : S → Nat → List Field → Bool
  | .pair a b, off, f :: fs => Nat.beq f.offset off && okInfo P f.type a && aggB P f.type a && Nat.ble 1 a.size && fieldsOk P b (off + a.size) fs
  | .unit, _, [] => true
  | _, _, _ => false
def arrOk (P : Program) (e : TypeId) : S → Nat → Bool
  | .pair .unit .unit, 0 => true
  | .pair a b, n + 1 => okInfo P e a && aggB P e a && Nat.ble 1 a.size && arrOk P e b n
  | _, _ => false
def oneS : S → Bool
  | .int _ => true | .bool => true | .str => true | _ => false
def undOk (P : Program) (t : TypeId) (s : S) : Bool :=
  match s, P.underlying t with
  | .int k, some (.int k') => (match decK k k' with | .isTrue _ => true | .isFalse _ => false)
  | .bool, some .bool => true
  | .str, some .string => true
  | .sl e s', some (.slice e') => Nat.beq e e' && okInfo P e s' && aggB P e s'
  | .map v, some (.map kt et) => (match P.underlying kt with | some .string => true | _ => false) && (oneS v && okInfo P et v && aggB P et v)
  | .pair a b, some (.struct fs) => fieldsOk P (.pair a b) 0 fs.toList
  | .pair a b, some (.array n e) => Nat.ble 1 n && arrOk P e (.pair a b) n
  | .unit, some (.struct fs) => fieldsOk P .unit 0 fs.toList
  | _, _ => false
def typeOk (P : Program) (t : TypeId) (s : S) : Bool := okInfo P t s && aggB P t s && undOk P t s
def eqFieldsB (P : Program) : S → Nat → List Field → Bool
  | .pair (.int k) b, off, f :: fs => Nat.beq f.offset off && !(f.name == "_") && (match P.underlying f.type with
      | some (.int k') => (match decK k k' with | .isTrue _ => true | .isFalse _ => false)
      | _ => false) && eqFieldsB P b (off + 1) fs
  | .unit, _, [] => true
  | _, _, _ => false
def eqOk (P : Program) (t : TypeId) (s : S) : Bool :=
  (match P.underlying t with | some (.struct fs) => eqFieldsB P s 0 fs.toList | _ => false) && !P.stoodInHeld t && !P.eqGuardType P.depth t
def tableOk (P : Program) : List (TypeId × S) → Bool
  | [] => true
  | (t, s) :: l => (typeOk P t s && (bif hasKey l t then eqOk P t s else true)) && tableOk P l
theorem tableOk_at {P : Program} : ∀ {l : List (TypeId × S)} {t : TypeId} {s : S}, tableOk P l = true → look l t = some s → typeOk P t s = true
  | [], _, _, _, h => by cases h
  | (t', s') :: l, t, s, h, e => by
    simp only [tableOk, Bool.and_eq_true] at h
    simp only [look] at e
    cases hb : Nat.beq t' t with
    | true =>
      rw [hb] at e
      have ht := Nat.eq_of_beq_eq_true hb
      injection e with e
      subst ht e
      exact h.1.1
    | false =>
      rw [hb] at e
      exact tableOk_at h.2 e
theorem tableOk_eq {P : Program} : ∀ {l : List (TypeId × S)} {t : TypeId} {s : S}, tableOk P l = true → look l t = some s → twice l t = true → eqOk P t s = true
  | [], _, _, _, h, _ => by cases h
  | (t', s') :: l, t, s, h, e, h2 => by
    simp only [tableOk, Bool.and_eq_true] at h
    simp only [look] at e
    simp only [twice] at h2
    cases hb : Nat.beq t' t with
    | true =>
      rw [hb] at e h2
      have ht := Nat.eq_of_beq_eq_true hb
      injection e with e
      subst ht e
      have h3 := h.1.2
      rw [show hasKey l t' = true from h2] at h3
      exact h3
    | false =>
      rw [hb] at e h2
      exact tableOk_eq h.2 e h2
section
variable {P : Program} {t : TypeId} {s : S} {w : World}
theorem typeOk_info (h : typeOk P t s = true) : Info P t s := by
  simp only [typeOk, Bool.and_eq_true] at h; exact okInfo_ok h.1.1
theorem aggB_run (h : aggB P t s = true) : (isAgg t).run P w = .ok s.isAgg w := by
  unfold aggB at h
  split at h
  · rename_i fs hu; simp only [isAgg, Sem.run_bind, run_underlying hu, Result.andThen_ok, Sem.run_pure, h]
  · rename_i n e hu; simp only [isAgg, Sem.run_bind, run_underlying hu, Result.andThen_ok, Sem.run_pure, h]
  · rename_i d h1 h2 hu
    have hb : s.isAgg = false := by simpa using h
    simp only [isAgg, Sem.run_bind, run_underlying hu, Result.andThen_ok]
    cases d <;> first | (exact absurd rfl (h1 _)) | (exact absurd rfl (h2 _ _)) | (simp [hb])
  · cases h
theorem typeOk_agg (h : typeOk P t s = true) : (isAgg t).run P w = .ok s.isAgg w := by
  simp only [typeOk, Bool.and_eq_true] at h; exact aggB_run h.1.2
theorem Info.size (h : Info P t s) : (sizeOf t).run P w = .ok s.size w := by
  obtain ⟨i, hi, h1, _⟩ := h.ex
  simp only [sizeOf, Sem.run_bind, run_typeInfo w hi, Result.andThen_ok, Sem.run_pure, h1]
theorem Info.zero (h : Info P t s) : (zeroValue t).run P w = .ok (mkVal s s.zcells) w := by
  obtain ⟨i, hi, _, h2, _⟩ := h.ex
  simp only [zeroValue, Sem.run_bind, run_typeInfo w hi, Result.andThen_ok, h2, Sem.run_pure]
theorem typeOk_int {k : IntKind} (h : typeOk P t (.int k) = true) : P.underlying t = some (.int k) := by
  simp only [typeOk, Bool.and_eq_true] at h
  have h := h.2
  cases hu : P.underlying t with
  | none => simp [undOk, hu] at h
  | some d =>
    cases d <;> simp only [undOk, hu] at h <;> first | (cases h; done) | skip
    rename_i k'
    split at h
    · rename_i e _; rw [e]
    · cases h
theorem typeOk_str (h : typeOk P t .str = true) : P.underlying t = some .string := by
  simp only [typeOk, Bool.and_eq_true] at h
  have h := h.2
  cases hu : P.underlying t with
  | none => simp [undOk, hu] at h
  | some d => cases d <;> simp only [undOk, hu] at h <;> first | (cases h; done) | rfl
theorem typeOk_bool (h : typeOk P t .bool = true) : P.underlying t = some .bool := by
  simp only [typeOk, Bool.and_eq_true] at h
  have h := h.2
  cases hu : P.underlying t with
  | none => simp [undOk, hu] at h
  | some d => cases d <;> simp only [undOk, hu] at h <;> first | (cases h; done) | rfl
theorem typeOk_sl {e : TypeId} (h : typeOk P t (.sl e s) = true) : P.underlying t = some (.slice e) ∧ Info P e s ∧ aggB P e s = true := by
  simp only [typeOk, Bool.and_eq_true] at h
  have h := h.2
  cases hu : P.underlying t with
  | none => simp [undOk, hu] at h
  | some d =>
    cases d <;> simp only [undOk, hu] at h <;> first | (cases h; done) | skip
    simp only [Bool.and_eq_true] at h
    have := Nat.eq_of_beq_eq_true h.1.1
    subst this
    exact ⟨rfl, okInfo_ok h.1.2, h.2⟩
theorem isArr_cons {a b : S} (h : a ≠ .unit ∨ b ≠ .unit) : isArrS (.pair a b) = isArrS b := by
  cases a <;> cases b <;> first | rfl | simp at h
theorem fieldsOk_noArr : ∀ (s : S) (off : Nat) (fs : List Field), fieldsOk P s off fs = true → isArrS s = false
  | .pair a b, off, f :: fs, h => by
    simp only [fieldsOk, Bool.and_eq_true] at h
    have h1 := Nat.le_of_ble_eq_true h.1.2
    rw [isArr_cons (.inl (by intro e; subst e; simp [S.size] at h1))]
    exact fieldsOk_noArr b _ fs h.2
  | .pair a b, off, [], h => by simp [fieldsOk] at h
  | .unit, off, fs, h => rfl
  | .int _, off, fs, h => rfl
  | .bool, off, fs, h => rfl
  | .str, off, fs, h => rfl
  | .sl _ _, off, fs, h => rfl
theorem arrOk_isArr {e : TypeId} : ∀ (s : S) (n : Nat), arrOk P e s n = true → isArrS s = true
  | .pair a b, 0, h => by
    cases a <;> cases b <;> first | rfl | simp [arrOk] at h
  | .pair a b, n + 1, h => by
    have h' : (okInfo P e a && aggB P e a && Nat.ble 1 a.size && arrOk P e b n) = true := by
      cases a <;> cases b <;> first | exact h | (simp [arrOk, S.size] at h)
    simp only [Bool.and_eq_true] at h'
    have h1 := Nat.le_of_ble_eq_true h'.1.2
    rw [isArr_cons (.inl (by intro e; subst e; simp [S.size] at h1))]
    exact arrOk_isArr b n h'.2
  | .unit, n, h => by simp [arrOk] at h
  | .int _, n, h => by simp [arrOk] at h
  | .bool, n, h => by simp [arrOk] at h
  | .str, n, h => by simp [arrOk] at h
  | .sl _ _, n, h => by simp [arrOk] at h
  | .map _, n, h => by simp [arrOk] at h
theorem typeOk_fields (h : typeOk P t s = true) (ha : s.isAgg = true) {fs : Array Field} (hu : P.underlying t = some (.struct fs)) : fieldsOk P s 0 fs.toList = true := by
  simp only [typeOk, Bool.and_eq_true] at h
  have h := h.2
  cases s with
  | pair a b => simpa only [undOk, hu] using h
  | unit => simpa only [undOk, hu] using h
  | _ => simp [S.isAgg] at ha
theorem typeOk_aggCases (h : typeOk P t s = true) (ha : s.isAgg = true) :
    (isArrS s = false ∧ ∃ fs, P.underlying t = some (.struct fs) ∧ fieldsOk P s 0 fs.toList = true) ∨ (isArrS s = true ∧ ∃ n e, P.underlying t = some (.array n e) ∧ 1 ≤ n ∧ arrOk P e s n = true) := by
  have h0 := h
  simp only [typeOk, Bool.and_eq_true] at h
  have h := h.2
  cases s with
  | int _ => simp [S.isAgg] at ha
  | bool => simp [S.isAgg] at ha
  | str => simp [S.isAgg] at ha
  | sl _ _ => simp [S.isAgg] at ha
  | map _ => simp [S.isAgg] at ha
  | unit =>
    cases hu : P.underlying t with
    | none => simp only [undOk, hu] at h; cases h
    | some d =>
      cases d with
      | struct fs =>
        have hf := typeOk_fields h0 ha hu
        exact .inl ⟨fieldsOk_noArr _ _ _ hf, fs, rfl, hf⟩
      | _ => simp only [undOk, hu] at h; cases h
  | pair a b =>
    cases hu : P.underlying t with
    | none => simp only [undOk, hu] at h; cases h
    | some d =>
      cases d with
      | struct fs =>
        have hf := typeOk_fields h0 ha hu
        exact .inl ⟨fieldsOk_noArr _ _ _ hf, fs, rfl, hf⟩
      | array n e =>
        simp only [undOk, hu, Bool.and_eq_true] at h
        exact .inr ⟨arrOk_isArr _ _ h.2, n, e, rfl, Nat.le_of_ble_eq_true h.1, h.2⟩
      | _ => simp only [undOk, hu] at h; cases h
theorem typeOk_struct (h : typeOk P t s = true) (ha : s.isAgg = true) (hn : isArrS s = false) : ∃ fs, P.underlying t = some (.struct fs) ∧ fieldsOk P s 0 fs.toList = true := by
  rcases typeOk_aggCases h ha with ⟨_, h⟩ | ⟨h, _⟩
  · exact h
  · rw [hn] at h; cases h
theorem typeOk_arr (h : typeOk P t s = true) (hn : isArrS s = true) : ∃ n e, P.underlying t = some (.array n e) ∧ 1 ≤ n ∧ arrOk P e s n = true := by
  have ha : s.isAgg = true := by
    cases s with
    | pair a b => rfl
    | unit => rfl
    | _ => cases hn
  rcases typeOk_aggCases h ha with ⟨h, _⟩ | ⟨_, h⟩
  · rw [hn] at h; cases h
  · exact h
end
def foff : S → Nat → Nat
  | .pair _ _, 0 => 0
  | .pair a b, n + 1 => a.size + foff b n
  | _, _ => 0
theorem info_size {P : Program} {t : TypeId} {a b : S} (h : Info P t a) (k : Info P t b) : a.size = b.size := by
  obtain ⟨i, h1, h2, _⟩ := h.ex
  obtain ⟨j, k1, k2, _⟩ := k.ex
  rw [h1] at k1; injection k1 with k1; subst k1
  rw [← h2, ← k2]
theorem arrOk_at {P : Program} {e : TypeId} : ∀ (s : S) (n k : Nat) (s' : S), arrOk P e s n = true → shapeAt s (fpath k) = some s' → 1 ≤ s'.size →
    k < n ∧ foff s k = k * s'.size ∧ Info P e s' ∧ aggB P e s' = true
  | .pair a b, 0, k, s', h, hs, hl => by
    exfalso
    cases a <;> cases b <;> first | (simp [arrOk] at h; done) | skip
    cases k with
    | zero => simp only [fpath, shapeAt, Option.some.injEq] at hs; subst hs; simp [S.size] at hl
    | succ k => cases k <;> simp [fpath, shapeAt] at hs
  | .pair a b, n + 1, k, s', h, hs, hl => by
    have h' : (okInfo P e a && aggB P e a && Nat.ble 1 a.size && arrOk P e b n) = true := by
      cases a <;> cases b <;> first | exact h | (simp [arrOk, S.size] at h)
    simp only [Bool.and_eq_true] at h'
    obtain ⟨⟨⟨h1, h2⟩, h3⟩, h4⟩ := h'
    cases k with
    | zero =>
      simp only [fpath, shapeAt, Option.some.injEq] at hs; subst hs
      exact ⟨by omega, by simp [foff], okInfo_ok h1, h2⟩
    | succ k =>
      simp only [fpath, shapeAt] at hs
      obtain ⟨g1, g2, g3, g4⟩ := arrOk_at b n k s' h4 hs hl
      refine ⟨by omega, ?_, g3, g4⟩
      rw [foff, g2, info_size (okInfo_ok h1) g3, Nat.succ_mul, Nat.add_comm]
  | .unit, n, k, s', h, hs, hl => by simp [arrOk] at h
  | .int _, n, k, s', h, hs, hl => by simp [arrOk] at h
  | .bool, n, k, s', h, hs, hl => by simp [arrOk] at h
  | .str, n, k, s', h, hs, hl => by simp [arrOk] at h
  | .sl _ _, n, k, s', h, hs, hl => by simp [arrOk] at h
  | .map _, n, k, s', h, hs, hl => by simp [arrOk] at h
theorem arrOk_head {P : Program} {e : TypeId} {s : S} {n : Nat} (h : arrOk P e s n = true) (hn : 1 ≤ n) : ∃ a, Info P e a := by
  cases n with
  | zero => omega
  | succ n =>
    cases s with
    | pair a b =>
      have h' : (okInfo P e a && aggB P e a && Nat.ble 1 a.size && arrOk P e b n) = true := by
        cases a <;> cases b <;> first | exact h | (simp [arrOk, S.size] at h)
      simp only [Bool.and_eq_true] at h'
      exact ⟨a, okInfo_ok h'.1.1.1⟩
    | _ => simp [arrOk] at h
theorem fieldsOk_at {P : Program} : ∀ (s : S) (off : Nat) (fs : List Field) (n : Nat) (s' : S), fieldsOk P s off fs = true → shapeAt s (fpath n) = some s' →
    ∃ f, fs[n]? = some f ∧ f.offset = off + foff s n ∧ Info P f.type s' ∧ aggB P f.type s' = true ∧ 1 ≤ s'.size
  | .pair a b, off, f :: fs, 0, s', h, e => by
    simp only [fieldsOk, Bool.and_eq_true] at h
    simp only [fpath, shapeAt, Option.some.injEq] at e
    subst e
    exact ⟨f, rfl, by simpa [foff] using Nat.eq_of_beq_eq_true h.1.1.1.1, okInfo_ok h.1.1.1.2, h.1.1.2, Nat.le_of_ble_eq_true h.1.2⟩
  | .pair a b, off, f :: fs, n + 1, s', h, e => by
    simp only [fieldsOk, Bool.and_eq_true] at h
    simp only [fpath, shapeAt] at e
    obtain ⟨g, h1, h2, h3⟩ := fieldsOk_at b _ fs n s' h.2 e
    exact ⟨g, by simpa using h1, by rw [h2]; simp [foff, Nat.add_assoc], h3⟩
  | .pair a b, off, [], n, s', h, e => by simp [fieldsOk] at h
  | .unit, off, fs, n, s', h, e => by cases n <;> simp [fpath, shapeAt] at e
  | .int _, off, fs, n, s', h, e => by simp [fieldsOk] at h
  | .bool, off, fs, n, s', h, e => by simp [fieldsOk] at h
  | .str, off, fs, n, s', h, e => by simp [fieldsOk] at h
  | .sl _ _, off, fs, n, s', h, e => by simp [fieldsOk] at h
  | .map _, off, fs, n, s', h, e => by simp [fieldsOk] at h
section
variable {P : Program} {tb : Hp} {C : Ctx tb} {Z : Sup} {st : St} {a : Act} {w : World} {g : Cfg}
theorem rel_int {Z : Sup} {ob : Obs} {k : IntKind} {n : Int} {v : Value} : RelAV Z ob (.pv (.int k) n) v ↔ v = .int k n :=
  ⟨fun ⟨c, e, r⟩ => by rw [e, r.2]; rfl, fun e => ⟨[.int k n], e, rfl, rfl⟩⟩
theorem rel_bool {Z : Sup} {ob : Obs} {b : Bool} {v : Value} : RelAV Z ob (.pv .bool b) v ↔ v = .bool b :=
  ⟨fun ⟨c, e, r⟩ => by rw [e, r.2]; rfl, fun e => ⟨[.bool b], e, rfl, rfl⟩⟩
theorem rel_str {Z : Sup} {ob : Obs} {b : ByteArray} {v : Value} : RelAV Z ob (.pv .str b) v ↔ v = .string b :=
  ⟨fun ⟨c, e, r⟩ => by rw [e, r.2]; rfl, fun e => ⟨[.string b], e, rfl, rfl⟩⟩
theorem const_rel {Z : Sup} {ob : Obs} (os : Option S) (v : Value) : RelAV Z ob (constAV os v) v := by
  unfold constAV
  split
  · exact rel_int.2 rfl
  · exact rel_bool.2 rfl
  · exact rel_str.2 rfl
  · split
    · rfl
    · trivial
  · split
    · rfl
    · trivial
  · rename_i cs
    split
    · rename_i s
      cases hs : s.isAgg with
      | false => trivial
      | true =>
        simp only [cond_true]
        split
        · rename_i hz
          have := zeroCells?_eq _ _ _ hz
          simp only [List.append_nil] at this
          show Value.agg cs = mkVal s s.zcells
          rw [mkVal, if_pos hs, ← this]
        · trivial
    · trivial
  · trivial
theorem eval_rel (R : Rel Z st a.tmps w) (os : Option S) (x : Operand) : RelAV Z st.ob (evalS st os x) (a.eval x) := by
  cases x with
  | tmp n =>
    have := R.env n
    simp only [evalS, Act.eval]
    cases h : getSlot st.env n with
    | one b => rw [h] at this; exact this
    | tup l => trivial
  | const v => exact const_rel os v
  | global n => trivial
  | func f => exact ⟨[], rfl, trivial⟩
def Does (P : Program) {tb : Hp} (C : Ctx tb) (Z : Sup) (st : St) (o : Oper) (a : Act) (w : World) (e : Eff) : Prop :=
  ∀ (K : Act → World → Prop) (Q : Exit → Act → World → Prop), (∀ v w', InvK C Z st o.dst e (a.put o.dst v) w' → K (a.put o.dst v) w') → o.wp P a w K Q
theorem wp_value {o : Oper} {v : Value} {w' : World} {K : Act → World → Prop} {Q : Exit → Act → World → Prop}
    (h : (execOp a.eval o).run P w = .ok (.value v) w') (hk : K (a.put o.dst v) w') : o.wp P a w K Q := by
  unfold Oper.wp; rw [h]; exact hk
theorem wp_skp {o : Oper} {w' : World} {K : Act → World → Prop} {Q : Exit → Act → World → Prop}
    (h : (execOp a.eval o).run P w = .ok .skip w') (hk : K (a.put o.dst undef) w') : o.wp P a w K Q := by
  unfold Oper.wp; rw [h]; exact hk
theorem does_value {o : Oper} {v : Value} {x : AV} (hd : a.defers = []) (R : Rel Z st a.tmps w) (F : Fr C Z w) (hx : RelAV Z st.ob x v)
    (h : (execOp a.eval o).run P w = .ok (.value v) w) : Does P C Z st o a w (eff x) :=
  fun K Q hk => wp_value h (hk _ _ (Inv.set hd R F hx))
theorem asInt?_eq {R : Type} {x : AV} {k : IntKind → Int → Option R} {y : R} (h : asInt? x k = some y) : ∃ q n, x = .pv (.int q) n ∧ k q n = some y := by
  unfold asInt? at h
  split at h
  · rename_i q n; exact ⟨q, n, rfl, h⟩
  · cases h
theorem asBool?_eq {R : Type} {x : AV} {k : Bool → Option R} {y : R} (h : asBool? x k = some y) : ∃ b, x = .pv .bool b ∧ k b = some y := by
  unfold asBool? at h
  split at h
  · rename_i b; exact ⟨b, rfl, h⟩
  · cases h
theorem eval_int (R : Rel Z st a.tmps w) {os : Option S} {x : Operand} {k : IntKind} {n : Int} (h : evalS st os x = .pv (.int k) n) : a.eval x = .int k n :=
  rel_int.1 (h ▸ eval_rel R os x)
theorem eval_bool (R : Rel Z st a.tmps w) {os : Option S} {x : Operand} {b : Bool} (h : evalS st os x = .pv .bool b) : a.eval x = .bool b :=
  rel_bool.1 (h ▸ eval_rel R os x)
theorem eval_str (R : Rel Z st a.tmps w) {os : Option S} {x : Operand} {b : ByteArray} (h : evalS st os x = .pv .str b) : a.eval x = .string b :=
  rel_str.1 (h ▸ eval_rel R os x)
end
end Go.AE
namespace Go.AE
section
variable {P : Program} {tb : Hp} {C : Ctx tb} {Z : Sup} {st : St} {a : Act} {w : World} {g : Cfg} {o : Oper} {R : Type} {k : Eff → Option R} {y : R}
def Ok (P : Program) {tb : Hp} (C : Ctx tb) (Z : Sup) (st : St) (o : Oper) (a : Act) (w : World) (k : Eff → Option R) (y : R) : Prop :=
  ∃ e, k e = some y ∧ Does P C Z st o a w e
theorem ok_value {v : Value} {x : AV} (hd : a.defers = []) (Rl : Rel Z st a.tmps w) (F : Fr C Z w) (hk : k (eff x) = some y) (hx : RelAV Z st.ob x v)
    (h : (execOp a.eval o).run P w = .ok (.value v) w) : Ok P C Z st o a w k y := ⟨_, hk, does_value hd Rl F hx h⟩
theorem op_move (hd : a.defers = []) (Rl : Rel Z st a.tmps w) (F : Fr C Z w) {x : Operand} (ho : o.op = .move x) (h : opSem g st o k = some y) : Ok P C Z st o a w k y := by
  simp only [opSem, ho] at h
  have hr := eval_rel Rl (look g.ty o.type) x
  have hrun : (execOp a.eval o).run P w = .ok (.value (a.eval x)) w := by simp [execOp, ho]
  split at h
  · rename_i l hl
    unfold tupOf at hl
    split at hl
    · rename_i n
      split at hl
      · rename_i l' hs
        injection hl with hl
        subst hl
        refine ⟨_, h, fun K Q hk => wp_value hrun (hk _ _ ?_)⟩
        have hv := Rl.env n
        rw [hs] at hv
        refine ⟨by rw [put_defers]; exact hd, Z, ?_, F, Keeps.refl _ _⟩
        have e : (st.apply o.dst { av := .tup l' }).ob = st.ob := by cases o.dst <;> rfl
        exact Rl.apply (e := { av := .tup l' }) Rl.imm Rl.own Rl.mdj Rl.dj (by rw [e]; exact Rl.obs) (by rw [e]; exact fun _ _ _ h => h) (by rw [e]; exact hv) (by rw [e]; exact Rl.rse) (by rw [e]; exact Rl.pin)
      · cases hl
    · cases hl
  unfold evalT at h
  cases hx : evalS st (look g.ty o.type) x <;> rw [hx] at h hr <;> first | (cases h; done) | exact ok_value hd Rl F h hr hrun
theorem op_nilCheck (hd : a.defers = []) (Rl : Rel Z st a.tmps w) (F : Fr C Z w) {x : Operand} (ho : o.op = .nilCheck x) (h : opSem g st o k = some y) : Ok P C Z st o a w k y := by
  simp only [opSem, ho] at h
  have hr := eval_rel Rl none x
  cases hx : evalS st none x <;> rw [hx] at h hr <;> first | (cases h; done) | skip
  · obtain ⟨b, off, c, hv, _⟩ := id hr
    exact ok_value hd Rl F h hr (by simp [execOp, ho, hv])
  · obtain ⟨_, _, b, off, _, _, hv⟩ := id hr
    exact ok_value hd Rl F h hr (by simp [execOp, ho, hv])
  · obtain ⟨vs, hv, _⟩ := id hr
    exact ok_value hd Rl F h hr (by simp [execOp, ho, hv])
theorem op_pick (hd : a.defers = []) (Rl : Rel Z st a.tmps w) (F : Fr C Z w) {c x z : Operand} (ho : o.op = .pick c x z) (h : opSem g st o k = some y) : Ok P C Z st o a w k y := by
  simp only [opSem, ho] at h
  obtain ⟨b, hb, h⟩ := asBool?_eq h
  have hc := eval_bool Rl hb
  unfold evalT at h
  rcases ifB_eq h with ⟨e, h⟩ | ⟨e, h⟩
  · subst e
    have hr := eval_rel Rl (look g.ty o.type) x
    cases hx : evalS st (look g.ty o.type) x <;> rw [hx] at h hr <;> first | (cases h; done) | exact ok_value hd Rl F h hr (by simp [execOp, ho, hc, asBool])
  · subst e
    have hr := eval_rel Rl (look g.ty o.type) z
    cases hx : evalS st (look g.ty o.type) z <;> rw [hx] at h hr <;> first | (cases h; done) | exact ok_value hd Rl F h hr (by simp [execOp, ho, hc, asBool])
theorem run_guard_int (op : BinOp) (t : TypeId) (x y : Operand) (q q' : IntKind) (m n : Int) : (eqGuard op t x y (.int q m) (.int q' n)).run P w = .ok () w := by
  unfold eqGuard; split <;> rfl
theorem run_guard_str (op : BinOp) (t : TypeId) (x y : Operand) (m n : ByteArray) : (eqGuard op t x y (.string m) (.string n)).run P w = .ok () w := by
  unfold eqGuard; split <;> rfl
theorem run_guard_bool (op : BinOp) (t : TypeId) (x y : Operand) (m n : Bool) : (eqGuard op t x y (.bool m) (.bool n)).run P w = .ok () w := by
  unfold eqGuard; split <;> rfl
theorem bin_run {op : BinOp} {t : TypeId} {q : IntKind} {m n : Int} {x : AV} (hb : bin op q m n = x) (hx : x ≠ .dead) :
    ∃ v, (binOp op t (.int q m) (.int q n)).run P w = .ok v w ∧ ∀ Z ob, RelAV Z ob x v := by
  subst hb
  cases op <;> simp only [bin, ne_eq, not_true_eq_false] at hx <;>
    first
    | (refine ⟨_, rfl, fun Z ob => rel_int.2 rfl⟩; done)
    | (refine ⟨.int q _, ?_, fun Z ob => rel_int.2 rfl⟩; simp [binOp, Op.intArith, Op.intBits, pAdd, pSub, pMul, pAnd, pOr, pXor]; done)
    | (refine ⟨.bool _, ?_, fun Z ob => rel_bool.2 rfl⟩; simp [binOp, Op.intCmp, pEq, pNe, pLt, pLe, pGt, pGe]; done)
end
end Go.AE
