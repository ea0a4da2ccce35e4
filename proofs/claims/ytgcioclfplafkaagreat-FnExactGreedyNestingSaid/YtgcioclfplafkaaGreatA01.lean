/- An evaluator of a function's code; no condition. -/
import Derived.Below
import Derived.OrdersHeld
set_option linter.all false
namespace Go.Proofs.YtgcioclfplafkaaGreatV
open Go Go.RowKit
inductive CT where
 | int (k : IntKind)
 | bool
 | str
 | sl (r : CT)
 | pair (a b : CT)
def CT.beq : CT → CT → Bool
 | .int k, .int l => decide (k = l)
 | .bool, .bool => true
 | .str, .str => true
 | .sl r, .sl s => CT.beq r s
 | .pair a b, .pair c d => CT.beq a c && CT.beq b d
 | _, _ => false
theorem CT.eq_of_beq : ∀ {a b : CT}, CT.beq a b = true → a = b
 | .int k, b, h => by cases b <;> simp_all [CT.beq]
 | .bool, b, h => by cases b <;> simp_all [CT.beq]
 | .str, b, h => by cases b <;> simp_all [CT.beq]
 | .sl r, b, h => by
  cases b with
  | sl s => simp only [CT.beq] at h; rw [CT.eq_of_beq h]
  | _ => simp [CT.beq] at h
 | .pair a b, c, h => by
  cases c with
  | pair c d => simp only [CT.beq, Bool.and_eq_true] at h; rw [CT.eq_of_beq h.1, CT.eq_of_beq h.2]
  | _ => simp [CT.beq] at h
@[reducible] def El : CT → Type
 | .int _ => Int
 | .bool => Bool
 | .str => ByteArray
 | .sl r => List (El r)
 | .pair a b => El a × El b
def CT.size : CT → Nat
 | .pair a b => a.size + b.size
 | _ => 1
def CT.flat : CT → Bool
 | .pair a b => a.flat && b.flat
 | .sl _ => false
 | _ => true
def dflt : (c : CT) → El c
 | .int _ => (0 : Int)
 | .bool => false
 | .str => ByteArray.empty
 | .sl _ => []
 | .pair a b => (dflt a, dflt b)
def rd (r : CT) (xs : List (El r)) (i : Int) : El r := xs.getD i.toNat (dflt r)
def bt (s : ByteArray) (i : Int) : Int := (((s[i.toNat]?).getD 0).toNat : Int)
inductive CV where
 | int (k : IntKind) (n : Int)
 | bool (b : Bool)
 | str (s : ByteArray)
 | fz (r : CT) (xs : List (El r))
 | nilS (r : CT)
 | new (r : CT) (xs : List (El r))
 | ref (id : Nat)
 | sub (id : Nat) (lo hi : Nat)
 | pref (id : Nat) (i : Nat) (j : Nat)
 | psub (id : Nat) (i : Nat) (j : Nat) (lo hi : Nat)
 | box (id off : Nat)
 | dead
inductive TV where
 | c (v : CV)
 | agg (l : List CV)
 | tup (l : List (Bool × List CV))
 | fp (l : List CV)
 | er (id i off : Nat)
 | fn (f : Nat) (caps : List CV)
inductive Ob where
 | unborn
 | gone
 | box (l : List CV)
 | row (r : CT) (xs : List (El r))
inductive Md where
 | ob (o : Ob)
 | cells (off : Nat) (l : List CV)
structure St where
 tmps : List TV
 objs : List Ob
abbrev TV.dead : TV := .c .dead
def St.get (st : St) (t : Nat) : TV := st.tmps.getD t .dead
def St.put (st : St) (d : Option Nat) (v : TV) : St :=
 match d with
 | some t => { st with tmps := st.tmps.set t v }
 | none => st
def cast? (r s : CT) (xs : List (El r)) : Option (List (El s)) := if h : CT.beq r s = true then some (CT.eq_of_beq h ▸ xs) else none
def encF : (c : CT) → El c → List CV
 | .int k, x => [.int k x]
 | .bool, x => [.bool x]
 | .str, x => [.str x]
 | .sl r, x => [.fz r x]
 | .pair a b, x => encF a x.1 ++ encF b x.2
def encO (id i : Nat) : (c : CT) → Nat → El c → List CV
 | .int k, _, x => [.int k x]
 | .bool, _, x => [.bool x]
 | .str, _, x => [.str x]
 | .sl _, j, _ => [.pref id i j]
 | .pair a b, j, x => encO id i a j x.1 ++ encO id i b (j + a.size) x.2
def zeroC : (c : CT) → List CV
 | .int k => [.int k 0]
 | .bool => [.bool false]
 | .str => [.str ByteArray.empty]
 | .sl r => [.nilS r]
 | .pair a b => zeroC a ++ zeroC b
def cellAt : (c : CT) → (j : Nat) → El c → Option CV
 | .int k, _, x => some (.int k x)
 | .bool, _, x => some (.bool x)
 | .str, _, x => some (.str x)
 | .sl r, _, x => some (.fz r x)
 | .pair a b, j, x => if j < a.size then cellAt a j x.1 else cellAt b (j - a.size) x.2
def Ob.at (objs : List Ob) (id : Nat) : Ob := objs.getD id .gone
def nodupB : List Nat → Bool
 | [] => true
 | x :: l => !l.contains x && nodupB l
def win {α : Type} (xs : List α) (lo hi : Nat) : List α := (xs.drop lo).take (hi - lo)
def freezeC (objs : List Ob) : CV → Option CV
 | .ref id => match Ob.at objs id with | .row r xs => some (.fz r xs) | _ => none
 | .sub id lo hi => match Ob.at objs id with | .row r xs => some (.fz r (win xs lo hi)) | _ => none
 | .pref id i j => match Ob.at objs id with | .row r xs => (match cellAt r j (xs.getD i (dflt r)) with | some (.fz r' ys) => some (.fz r' ys) | _ => none) | _ => none
 | .psub id i j lo hi => match Ob.at objs id with | .row r xs => (match cellAt r j (xs.getD i (dflt r)) with | some (.fz r' ys) => some (.fz r' (win ys lo hi)) | _ => none) | _ => none
 | .nilS r => some (.fz r [])
 | .int k n => some (.int k n)
 | .bool b => some (.bool b)
 | .str s => some (.str s)
 | .fz r xs => some (.fz r xs)
 | _ => none
def freezeL (objs : List Ob) : List CV → Option (List CV)
 | [] => some []
 | v :: l => match freezeC objs v, freezeL objs l with | some v', some l' => some (v' :: l') | _, _ => none
def freezeT (objs : List Ob) : TV → Option TV
 | .c (.box id off) => match Ob.at objs id with | .box l => (match freezeL objs (l.drop off) with | some l' => some (.fp l') | none => none) | _ => none
 | .c v => match freezeC objs v with | some v' => some (.c v') | none => none
 | .agg l => match freezeL objs l with | some l' => some (.agg l') | none => none
 | .fp l => some (.fp l)
 | .er id i off => match Ob.at objs id with | .row r xs => some (.fp ((encF r (xs.getD i (dflt r))).drop off)) | _ => none
 | .fn f l => match freezeL objs l with | some l' => some (.fn f l') | none => none
 | _ => none
def freezeA (objs : List Ob) : List TV → Option (List TV)
 | [] => some []
 | v :: l => match freezeT objs v, freezeA objs l with | some v', some l' => some (v' :: l') | _, _ => none
def openC (n : Nat) : CV → CV × List Ob
 | .new r xs => (.ref n, [.row r xs])
 | v => (v, [])
def openL (n : Nat) : List CV → List CV × List Ob
 | [] => ([], [])
 | v :: l => let (v', o) := openC n v; let (l', os) := openL (n + o.length) l; (v' :: l', o ++ os)
def openP (n : Nat) : List (Bool × List CV) → List (Bool × List CV) × List Ob
 | [] => ([], [])
 | (b, l) :: ps => let (l', o) := openL n l; let (ps', os) := openP (n + o.length) ps; ((b, l') :: ps', o ++ os)
def openT (n : Nat) : TV → TV × List Ob
 | .c v => let (v', o) := openC n v; (.c v', o)
 | .agg l => let (l', o) := openL n l; (.agg l', o)
 | .tup ps => let (ps', o) := openP n ps; (.tup ps', o)
 | v => (v, [])
def frzT : TV → Option TV
 | .c (.new r xs) => some (.c (.fz r xs))
 | _ => none
def content (objs : List Ob) : CV → Option ((r : CT) × List (El r))
 | v => match freezeC objs v with | some (.fz r xs) => some ⟨r, xs⟩ | _ => none
def decO (objs : List Ob) : (c : CT) → List CV → Option (El c × List CV × List Nat)
 | .int k, .int k' n :: l => if k' = k then some (n, l, []) else none
 | .bool, .bool b :: l => some (b, l, [])
 | .str, .str s :: l => some (s, l, [])
 | .sl r, .nilS _ :: l => some (([] : List (El r)), l, [])
 | .sl r, .ref id :: l => match Ob.at objs id with | .row r' xs => (match cast? r' r xs with | some ys => some (ys, l, [id]) | none => none) | _ => none
 | .pair a b, l => match decO objs a l with
  | some (x, l1, i1) => (match decO objs b l1 with | some (y, l2, i2) => some ((x, y), l2, i1 ++ i2) | none => none)
  | none => none
 | _, _ => none
structure TI where
 agg : Bool
 ct : CT
 size : Nat
 offs : List Nat
 elem : Nat
 bytes : Nat
 ptr : Bool
inductive Ex where
 | normal
 | exit (id : Nat)
 | ret
structure LoopI where
 live : List Nat
 run : {R : Type} → St → (Ex → St → Option R) → Option R
structure Tab where
 ty : Nat → Option TI
 loop : Nat → Option LoopI
 /-- what comes behind the value: what the slices hold that were handed on to be written -/
 call : Nat → {R : Type} → List TV → (TV → List CV → Option R) → Option R
 /-- callees that write into slices that they are handed -/
 wr : Nat → Bool
 /-- a callee that turns round the slice that it is handed -/
 rev : Nat → Bool
 join : Nat → List (Nat × CT)
 /-- struct types whose values are compared -/
 eq : Nat → Bool
 /-- no value may point to a slice inside an element; then such slices may be set anew -/
 np : Bool
 /-- callees whose new slices are only read -/
 frz : Nat → Bool
 /-- callees that are handed objects as they are -/
 isP : Nat → Bool := fun _ => false
 /-- does the function call such ones, or make functions? -/
 hasP : Bool := false
 /-- arguments, objects (the first one is nobody's), what comes behind -/
 proc : Nat → {R : Type} → List TV → List Ob → (TV → List Ob → Option R) → Option R := fun _ _ _ _ _ => none
section
variable (T : Tab)
def ofCell (v : Value) : CV :=
 match v with
 | .int k n => .int k n
 | .bool b => .bool b
 | .string s => .str s
 | _ => .dead
def constC (c : CT) (v : Value) : CV :=
 match c, v with
 | .sl r, .slice none 0 0 => .nilS r
 | _, v => ofCell v
def constL : (c : CT) → List Value → List CV
 | .pair a b, l => constL a (l.take a.size) ++ constL b (l.drop a.size)
 | c, l => [constC c (l.getD 0 undef)]
def opd (st : St) (t : Nat) : Operand → TV
 | .tmp n => st.get n
 | .const (.agg cs) => match T.ty t with | some ti => if ti.ct.size = cs.size then .agg (constL ti.ct cs.toList) else .dead | none => .dead
 | .const (.slice none 0 0) => match T.ty t with | some ti => .c (constC ti.ct (.slice none 0 0)) | none => .dead
 | .const v => .c (ofCell v)
 | .func f => .fn f []
 | _ => .dead
def lendC (objs : List Ob) : CV → Option (CV × List CV)
 | .ref id => match Ob.at objs id with | .row r xs => some (.new r xs, [.ref id]) | _ => none
 | .pref id i j => match freezeC objs (.pref id i j) with | some (.fz r ys) => some (.new r ys, [.pref id i j]) | _ => none
 | .int k n => some (.int k n, [])
 | .bool b => some (.bool b, [])
 | .str s => some (.str s, [])
 | .fz r xs => some (.fz r xs, [])
 | .nilS r => some (.fz r [], [])
 | _ => none
def lendL (objs : List Ob) : List CV → Option (List CV × List CV)
 | [] => some ([], [])
 | v :: l => match lendC objs v, lendL objs l with | some (v', i), some (l', j) => some (v' :: l', i ++ j) | _, _ => none
def lendT (objs : List Ob) : TV → Option (TV × List CV)
 | .c v => match lendC objs v with | some (v', i) => some (.c v', i) | none => none
 | .agg l => match lendL objs l with | some (l', i) => some (.agg l', i) | none => none
 | .fp l => some (.fp l, [])
 | _ => none
def lendA (objs : List Ob) : List TV → Option (List TV × List CV)
 | [] => some ([], [])
 | v :: l => match lendT objs v, lendA objs l with | some (v', i), some (l', j) => some (v' :: l', i ++ j) | _, _ => none
def setCell : (c : CT) → (j : Nat) → El c → CV → Option (El c)
 | .sl r, 0, _, .fz r' ys => cast? r' r ys
 | .pair a b, j, x, v => if j < a.size then (match setCell a j x.1 v with | some u => some (u, x.2) | none => none) else (match setCell b (j - a.size) x.2 v with | some u => some (x.1, u) | none => none)
 | _, _, _, _ => none
def stRow (r : CT) (xs : List (El r)) (i : Nat) (y : El r) (f : El r → Option (El r)) : List (El r) := if r.size ≤ 3 then xs.set i y else xs.modify i fun z => (f z).getD z
theorem modify_set {α : Type} (xs : List α) (i : Nat) (f : α → α) (x : α) (h : ∀ h : i < xs.length, f xs[i] = x) : xs.modify i f = xs.set i x := by
 apply List.ext_getElem?
 intro k
 rw [List.getElem?_modify, List.getElem?_set]
 by_cases e : i = k
 ·subst e
  by_cases hl : i < xs.length
  ·simp [hl, h hl]
  ·simp [hl]
 ·simp [e]
theorem stRow_eq {r : CT} {xs : List (El r)} {i : Nat} {y : El r} {f : El r → Option (El r)} (h : f (xs.getD i (dflt r)) = some y) : stRow r xs i y f = xs.set i y := by
 unfold stRow
 split
 ·rfl
 ·refine modify_set _ _ _ _ (fun hl => ?_)
  rw [List.getD_eq_getElem?_getD, List.getElem?_eq_getElem hl, Option.getD_some] at h
  rw [h, Option.getD_some]
def splice {α : Type} (xs : List α) (lo hi : Nat) (ys : List α) : List α := xs.take lo ++ ys ++ xs.drop hi
def giveBack (objs : List Ob) : List CV → List CV → Option (List (Nat × Md))
 | [], [] => some []
 | .ref id :: l, .fz r xs :: m => match giveBack objs l m with | some u => some ((id, .ob (.row r xs)) :: u) | none => none
 | .pref id i j :: l, v :: m => match Ob.at objs id, giveBack objs l m with
  | .row r xs, some u => (match setCell r j (xs.getD i (dflt r)) v with | some y => some ((id, .ob (.row r (stRow r xs i y fun z => setCell r j z v))) :: u) | none => none)
  | _, _ => none
 | .psub id i j lo hi :: l, .fz r' ys :: m => match Ob.at objs id, giveBack objs l m with
  | .row r xs, some u => (match cellAt r j (xs.getD i (dflt r)) with
   | some (.fz r2 zs) => (match cast? r' r2 ys with
    | some ys => (match setCell r j (xs.getD i (dflt r)) (.fz r2 (splice zs lo hi ys)) with | some y => some ((id, .ob (.row r (xs.set i y))) :: u) | none => none)
    | none => none)
   | _ => none)
  | _, _ => none
 | _, _ => none
def idOf : CV → List Nat
 | .ref id => [id]
 | .pref id _ _ => [id]
 | .psub id _ _ _ _ => [id]
 | _ => []
def noFzC : CV → Bool
 | .int _ _ | .bool _ | .str _ | .new _ _ => true
 | _ => false
def noFz : TV → Bool
 | .c v => noFzC v
 | .agg l => l.all noFzC
 | .tup ps => ps.all fun p => p.2.all noFzC
 | _ => false
def aliveC (objs : List Ob) : CV → Bool
 | .int _ _ | .bool _ | .str _ | .fz _ _ | .nilS _ => true
 | .ref id => match Ob.at objs id with | .row _ _ => true | _ => false
 | .box id _ => match Ob.at objs id with | .box _ => true | _ => false
 | _ => false
def cellsOf (objs : List Ob) : TV → Option (List CV)
 | .c v => if aliveC objs v then some [v] else none
 | .agg l => some l
 | _ => none
def w64 (x : Int) : Int := IntKind.i64.wrap x
def setAt {α : Type} : List α → Nat → List α → List α
 | l, 0, [] => l
 | _ :: l, 0, v :: vs => v :: setAt l 0 vs
 | x :: l, n + 1, vs => x :: setAt l n vs
 | [], _, _ => []
variable {R : Type}
def elemTy (t : Nat) : Option TI :=
 match T.ty t with
 | some ts => if ts.agg then none else (match ts.ct with | .sl r => (match T.ty ts.elem with | some te => if CT.beq r te.ct && !te.ptr then some te else none | none => none) | _ => none)
 | none => none
abbrev Kont (R : Type) := TV → List Ob → List (Nat × Md) → Option R
def retV (K : Kont R) (v : CV) : Option R := K (.c v) [] []
def cellsCT : CT → List CT
 | .pair a b => cellsCT a ++ cellsCT b
 | c => [c]
def eqC : List CT → List CV → List CV → Option Bool
 | [], [], [] => some true
 | .int k :: cs, .int ka a :: l, .int kb b :: m => if ka = k ∧ kb = k then (match eqC cs l m with | some e => some ((a == b) && e) | none => none) else none
 | .str :: cs, .str a :: l, .str b :: m => (match eqC cs l m with | some e => some ((a == b) && e) | none => none)
 | .bool :: cs, .bool a :: l, .bool b :: m => (match eqC cs l m with | some e => some ((a == b) && e) | none => none)
 | _, _, _ => none
def isB (o : Option TI) : Bool := match o with | some ti => (match ti.ct, ti.agg, ti.ptr with | .bool, false, false => true | _, _, _ => false) | none => false
def binC (bt : Bool) (eqb : Option (List CT)) (op : BinOp) (x y : TV) (K : Kont R) : Option R :=
 match x, y with
 | .c (.int k a), .c (.int k' b) =>
  if k = k' then
   match op with
   | .add => retV K (.int k (k.wrap (a + b)))
   | .sub => retV K (.int k (k.wrap (a - b)))
   | .mul => retV K (.int k (k.wrap (a * b)))
   | .quo => bif decide (b = 0) then none else retV K (.int k (k.wrap (a.tdiv b)))
   | .rem => bif decide (b = 0) then none else retV K (.int k (a.tmod b))
   | .eql => retV K (.bool (a == b))
   | .neq => retV K (.bool (a != b))
   | .lss => retV K (.bool (decide (a < b)))
   | .leq => retV K (.bool (decide (a ≤ b)))
   | .gtr => retV K (.bool (decide (a > b)))
   | .geq => retV K (.bool (decide (a ≥ b)))
   | _ => none
  else none
 | .c (.str a), .c (.str b) =>
  match op with
  | .add => bif decide (((a.size + b.size : Nat) : Int) > IntKind.i64.max) then none else retV K (.str (a ++ b))
  | .eql => retV K (.bool (a.toList == b.toList))
  | .neq => retV K (.bool (!(a.toList == b.toList)))
  | .lss => retV K (.bool (Op.bytesLess a.toList b.toList))
  | .leq => retV K (.bool (Op.bytesLess a.toList b.toList || a.toList == b.toList))
  | .gtr => retV K (.bool (!(Op.bytesLess a.toList b.toList || a.toList == b.toList)))
  | .geq => retV K (.bool (!(Op.bytesLess a.toList b.toList)))
  | _ => none
 | .c (.bool a), .c (.bool b) =>
  bif bt then
   match op with
   | .eql => retV K (.bool (a == b))
   | .neq => retV K (.bool (a != b))
   | _ => none
  else none
 | .agg l, .agg m =>
  match eqb with
  | some cs => (match op, eqC cs l m with
   | .eql, some e => retV K (.bool e)
   | .neq, some e => retV K (.bool (!e))
   | _, _ => none)
  | none => none
 | _, _ => none
def unC (op : UnOp) (x : TV) (K : Kont R) : Option R :=
 match op, x with
 | .neg, .c (.int k n) => retV K (.int k (k.wrap (0 - n)))
 | .not, .c (.bool b) => retV K (.bool (!b))
 | _, _ => none
def lenC (objs : List Ob) (t : Nat) (x : TV) (K : Kont R) : Option R :=
 match x with
 | .c (.str s) => (match T.ty t with | some ti => (match ti.ct, ti.agg with | .str, false => retV K (.int .i64 s.size) | _, _ => none) | none => none)
 | .c v => match freezeC objs v, elemTy T t with
  | some (.fz _ xs), some _ => retV K (.int .i64 xs.length)
  | _, _ => none
 | _ => none
def ixC (objs : List Ob) (te : TI) (x i : TV) (K : Kont R) : Option R :=
 match x, i with
 | .c (.ref id), .c (.int _ i) => match Ob.at objs id with
  | .row r xs => if CT.beq r te.ct then bif decide (0 ≤ i) then (bif decide (i < (xs.length : Int)) then K (.er id i.toNat 0) [] [] else none) else none else none
  | _ => none
 | .c (.sub id lo hi), .c (.int _ i) => match Ob.at objs id with
  | .row r xs => if CT.beq r te.ct then bif decide (0 ≤ i) then (bif decide (i < ((win xs lo hi).length : Int)) then K (.er id (lo + i.toNat) 0) [] [] else none) else none else none
  | _ => none
 | .c (.fz r xs), .c (.int _ i) => if CT.beq r te.ct then bif decide (0 ≤ i) then (bif decide (i < (xs.length : Int)) then K (.fp (encF r (rd r xs i))) [] [] else none) else none else none
 | _, _ => none
def giveC (ti : TI) (l : List CV) (K : Kont R) : Option R :=
 if ti.agg then (if (l.take ti.size).length = ti.size then K (.agg (l.take ti.size)) [] [] else none) else (match l with | v :: _ => K (.c v) [] [] | [] => none)
def loadC (objs : List Ob) (ti : TI) (a : TV) (K : Kont R) : Option R :=
 match a with
 | .fp l => giveC ti l K
 | .c (.box id off) => match Ob.at objs id with | .box l => giveC ti (l.drop off) K | _ => none
 | .er id i off => match Ob.at objs id with | .row r xs => giveC ti ((encO id i r 0 (xs.getD i (dflt r))).drop off) K | _ => none
 | _ => none
def isS : CV → Bool
 | .int _ _ | .bool _ | .str _ => true
 | _ => false
def decF : (c : CT) → List CV → Option (El c × List CV)
 | .int k, .int k' n :: l => if k' = k then some (n, l) else none
 | .bool, .bool b :: l => some (b, l)
 | .str, .str s :: l => some (s, l)
 | .sl r, .fz r' xs :: l => match cast? r' r xs with | some ys => some (ys, l) | none => none
 | .pair a b, l => match decF a l with
  | some (x, l1) => (match decF b l1 with | some (y, l2) => some ((x, y), l2) | none => none)
  | none => none
 | _, _ => none
def updS (c : CT) (x : El c) (off : Nat) (vs : List CV) : Option (El c) :=
 if vs.all isS then (match decF c (setAt (encF c x) off vs) with | some (y, []) => some y | _ => none) else none
def storeC (objs : List Ob) (ti : TI) (a x : TV) (K : Kont R) : Option R :=
 match cellsOf objs x with
 | some vs =>
  if vs.length = ti.size ∧ vs.all (aliveC objs) = true then
   match a with
   | .c (.box id off) => match Ob.at objs id with
    | .box l => if off + vs.length ≤ l.length then K .dead [] [(id, .cells off vs)] else none
    | _ => none
   | .er id i off => match Ob.at objs id with
    | .row r xs => if off + vs.length ≤ r.size then (match updS r (xs.getD i (dflt r)) off vs with | some y => K .dead [] [(id, .ob (.row r (stRow r xs i y fun z => updS r z off vs)))] | none => none) else none
    | _ => none
   | _ => none
  else none
 | none => none
def aliveT (objs : List Ob) : TV → Bool
 | .fp _ => true
 | .c (.box id _) => match Ob.at objs id with | .box _ => true | _ => false
 | .er id _ _ => match Ob.at objs id with | .row _ _ => true | _ => false
 | _ => false
def oneN (objs : List Ob) (c : CT) (v : CV) : Option (El c × List Nat) := match decO objs c [v] with | some (y, [], ids) => some (y, ids) | _ => none
def setN (objs : List Ob) (off : Nat) (vs : List CV) : (c : CT) → (j : Nat) → El c → Option (El c × List Nat)
 | .pair a b, j, x => match setN objs off vs a j x.1, setN objs off vs b (j + a.size) x.2 with | some (y, i1), some (z, i2) => some ((y, z), i1 ++ i2) | _, _ => none
 | c, j, x => if off ≤ j ∧ j < off + vs.length then oneN objs c (vs.getD (j - off) .dead) else some (x, [])
def storeN (objs : List Ob) (ti : TI) (a x : TV) (K : Kont R) : Option R :=
 match cellsOf objs x, a with
 | some vs, .er id i off => if vs.length = ti.size ∧ vs.all (aliveC objs) = true then (match Ob.at objs id with
  | .row r xs => if off + vs.length ≤ r.size then (match setN objs off vs r 0 (xs.getD i (dflt r)) with
   | some (y, ids) => if nodupB (id :: ids) then K .dead [] ((id, .ob (.row r (xs.set i y))) :: ids.map fun i => (i, .ob .gone)) else none
   | none => none) else none
  | _ => none) else none
 | _, _ => none
def nestS : TV → TV → Bool
 | .er _ _ _, .c (.ref _) => true
 | .er _ _ _, .agg l => !(l.all isS)
 | _, _ => false
def fldC (objs : List Ob) (off : Nat) (a : TV) (K : Kont R) : Option R :=
 if aliveT objs a then match a with
 | .fp l => K (.fp (l.drop off)) [] []
 | .c (.box id o) => K (.c (.box id (o + off))) [] []
 | .er id i o => K (.er id i (o + off)) [] []
 | _ => none
 else none
def appC (objs : List Ob) (nid : Nat) (bytes : Nat) (r : CT) (s x : TV) (K : Kont R) : Option R :=
 match s, x with
 | .c s, .c x =>
  match content objs x with
  | some ⟨r', ys⟩ =>
   match cast? r' r ys with
   | some ys =>
    let src : Option (List (Nat × Md)) := if r.flat then some [] else (match x with | .ref j => some [(j, .ob .gone)] | .nilS _ => some [] | _ => none)
    match src with
    | some m =>
     match s with
     | .nilS _ => bif decide (ys.length * bytes ≤ 140737488355328) then K (.c (.ref nid)) [.row r ys] m else none
     | .ref id => match Ob.at objs id with
      | .row r2 xs => (match cast? r2 r xs with
       | some xs => if (m.map (·.1)).contains id then none else bif decide ((xs.length + ys.length) * bytes ≤ 140737488355328) then K (.c (.ref nid)) [.row r (xs ++ ys)] ((id, .ob .gone) :: m) else none
       | none => none)
      | _ => none
     | _ => none
    | none => none
   | none => none
  | none => none
 | _, _ => none
def sliG (l : Option Int) (hi : Option TV) (n : Nat) (f : Nat → Nat → CV) (K : Kont R) : Option R :=
 match l, hi with
 | some a, none => bif decide (0 ≤ a) then (bif decide (a ≤ (n : Int)) then K (.c (f a.toNat n)) [] [] else none) else none
 | some a, some (.c (.int _ b)) => bif decide (0 ≤ a) then (bif decide (a ≤ b) then (bif decide (b ≤ (n : Int)) then K (.c (f a.toNat b.toNat)) [] [] else none) else none) else none
 | _, _ => none
def loOf : Option TV → Option Int
 | none => some 0
 | some (.c (.int _ n)) => some n
 | _ => none
def sliC (objs : List Ob) (te : TI) (x : TV) (lo hi : Option TV) (K : Kont R) : Option R :=
 match x with
 | .c (.ref id) => match Ob.at objs id with | .row r xs => if CT.beq r te.ct then sliG (loOf lo) hi xs.length (fun a b => .sub id a b) K else none | _ => none
 | .c (.pref id i j) => match freezeC objs (.pref id i j) with | some (.fz r ys) => if CT.beq r te.ct then sliG (loOf lo) hi ys.length (fun a b => .psub id i j a b) K else none | _ => none
 | .c (.fz r xs) => if CT.beq r te.ct then sliG (loOf lo) hi xs.length (fun a b => .fz r (win xs a b)) K else none
 | .c (.nilS r) => sliG (loOf lo) hi 0 (fun _ _ => .nilS r) K
 | _ => none
def makC (nid : Nat) (r : CT) (bytes : Nat) (n c : TV) (K : Kont R) : Option R :=
 match n, c with
 | .c (.int .i64 n), .c (.int .i64 c) => bif decide (0 ≤ n) then (bif decide (n ≤ c) then (bif decide (bytes * c.toNat ≤ 140737488355328) then (bif decide (c.toNat < 4398046511104) then K (.c (.ref nid)) [.row r (List.replicate n.toNat (dflt r))] [] else none) else none) else none) else none
 | _, _ => none
def TI.fsz (ti : TI) (i : Nat) : Nat := (match ti.offs[i + 1]? with | some o => o | none => ti.size) - ti.offs.getD i 0
def partsOf (objs : List Ob) (ti : TI) (cells : List CV) : List (Nat × TV) → Option (List CV)
 | [] => some cells
 | (i, v) :: ps => match cellsOf objs v, ti.offs[i]? with
  | some vs, some off => if vs.length = ti.fsz i ∧ off + vs.length ≤ cells.length then partsOf objs ti (setAt cells off vs) ps else none
  | _, _ => none
def builtL (objs : List Ob) (r : CT) : Nat → List (Nat × TV) → Option (List (El r) × List Nat)
 | _, [] => some ([], [])
 | n, (i, v) :: ps =>
  if i = n then
   match cellsOf objs v with
   | some vs => (match decO objs r vs with
    | some (x, [], ids) => (match builtL objs r (n + 1) ps with | some (xs, jds) => some (x :: xs, ids ++ jds) | none => none)
    | _ => none)
   | none => none
  else none
def min4 (a b c d : Int) : Int := let m := if b < a then b else a; let m := if c < m then c else m; if d < m then d else m
def trimA : List TV → List Nat → List TV
 | .fp l :: vs, t :: ts => (match (T.ty t).bind fun ti => T.ty ti.elem with | some te => .fp (l.take te.size) | none => .fp l) :: trimA vs ts
 | v :: vs, _ :: ts => v :: trimA vs ts
 | vs, [] => vs
 | [], _ => []
def lendX (objs : List Ob) (f : Nat) (vs : List TV) : Option (List TV × List CV) :=
 if T.rev f then (match vs with
  | [.c (.psub id i j lo hi)] => (match freezeC objs (.psub id i j lo hi) with | some (.fz r ys) => some ([.c (.new r ys)], [.psub id i j lo hi]) | _ => none)
  | _ => none)
 else if T.wr f then lendA objs vs else (match freezeA objs vs with | some us => some (us, []) | none => none)
def opSem (st : St) (nid : Nat) (o : Oper) (K : Kont R) : Option R :=
 let ρ := opd T st o.type
 match o.op with
 | .move x | .assign x => K (ρ x) [] []
 | .nilCheck x => if aliveT st.objs (ρ x) then K (ρ x) [] [] else none
 | .pick c a b => match ρ c with
  | .c (.bool e) => (match ρ a, ρ b with
   | .c (.bool x), .c (.bool y) => retV K (.bool (bif e then x else y))
   | x, y => bif e then K x [] [] else K y [] [])
  | _ => none
 | .alloc t => match T.ty t with
  | some ti => if ti.ptr then none else K (.c (.box nid 0)) [.box (zeroC ti.ct)] []
  | none => none
 | .box t x => match T.ty t, cellsOf st.objs (opd T st t x) with
  | some ti, some vs => if vs.length = ti.size then K (.c (.box nid 0)) [.box vs] [] else none
  | _, _ => none
 | .build t parts => match T.ty t with
  | some ti => if ti.agg && !ti.ptr then (match partsOf st.objs ti (zeroC ti.ct) (parts.toList.map fun (i, x) => (i, ρ x)) with
   | some l => K (.agg l) [] []
   | none => none) else none
  | none => none
 | .buildSlice t n parts => match T.ty t, elemTy T t with
  | some ts, some ti => (match builtL st.objs ti.ct 0 (parts.toList.map fun (i, x) => (i, opd T st ts.elem x)) with
    | some (xs, ids) => if parts.size = n ∧ nodupB ids = true ∧ n * ti.size ≤ 1000 then K (.c (.ref nid)) [.row ti.ct xs] (ids.map fun i => (i, .ob .gone)) else none
    | none => none)
  | _, _ => none
 | .load t a => match T.ty t with | some ti => loadC st.objs ti (ρ a) K | none => none
 | .store t a x => match T.ty t with | some ti => if (T.np && nestS (ρ a) (opd T st t x)) = true then storeN st.objs ti (ρ a) (opd T st t x) K else storeC st.objs ti (ρ a) (opd T st t x) K | none => none
 | .binOp op t x y _ => binC (isB (T.ty t)) (if T.eq t then (T.ty t).map (fun ti => cellsCT ti.ct) else none) op (opd T st t x) (opd T st t y) K
 | .unOp op _ x => unC op (ρ x) K
 | .convert s t x => match ρ x, T.ty t with
  | .c (.int _ n), some ti => if ti.agg || !(T.ty s).isSome then none else (match ti.ct with | .int k => retV K (.int k (k.wrap n)) | _ => none)
  | .c v, some ti => if ti.agg then none else (match ti.ct, freezeC st.objs v, elemTy T s with
   | .str, some (.fz (.int .u8) xs), some te => (match te.ct, te.agg with | .int .u8, false => retV K (.str ⟨(xs.map fun n => UInt8.ofNat n.toNat).toArray⟩) | _, _ => none)
   | _, _, _ => none)
  | _, _ => none
 | .makeSlice t n c => match elemTy T t with
  | some ti => makC nid ti.ct ti.bytes (ρ n) (ρ c) K
  | none => none
 | .slice t x lo hi none => match ρ x, T.ty t with
  | .c (.str s), some ti => (match ti.ct, ti.agg with | .str, false => sliG (loOf (lo.map ρ)) (hi.map ρ) s.size (fun a b => .str (s.extract a b)) K | _, _ => none)
  | x, _ => (match elemTy T t with | some te => sliC st.objs te x (lo.map ρ) (hi.map ρ) K | none => none)
 | .fieldAddr t x f => match T.ty t with | some ti => if ti.agg then (match ti.offs[f]? with | some off => fldC st.objs off (ρ x) K | none => none) else none | none => none
 | .indexAddr t x i => (match elemTy T t with | some te => ixC st.objs te (ρ x) (ρ i) K | none => none)
 | .index t x i => match ρ x, ρ i, T.ty t with
  | .c (.str s), .c (.int _ i), some ti => if ti.agg then none else (match ti.ct with | .str => bif decide (0 ≤ i) then (bif decide (i < (s.size : Int)) then retV K (.int .u8 (bt s i)) else none) else none | _ => none)
  | _, _, _ => none
 | .extract x i => match ρ x with
  | .tup ps => (match ps[i]? with
   | some (true, l) => K (.agg l) [] []
   | some (false, [v]) => K (.c v) [] []
   | _ => none)
  | _ => none
 | .call { callee := .builtin .len, args, argTypes } => match args[0]?, argTypes[0]? with | some x, some t => lenC T st.objs t (ρ x) K | _, _ => none
 | .call { callee := .builtin .append, args, argTypes } => match args[0]?, args[1]?, (argTypes[0]?).bind (elemTy T) with
  | some s, some x, some te => if argTypes.size = 2 ∧ args.size = 2 ∧ argTypes[0]? = argTypes[1]? then appC st.objs nid te.bytes te.ct (opd T st (argTypes.getD 0 0) s) (opd T st (argTypes.getD 1 0) x) K else none
  | _, _, _ => none
 | .call { callee := .builtin .min, args, .. } => match args[0]?, args[1]?, args[2]? with
  | some x, some y, none => (match ρ x, ρ y with | .c (.int k a), .c (.int k' b) => if k = k' then retV K (.int k (if b < a then b else a)) else none | _, _ => none)
  | some x, some y, some z => (match args[3]?, args[4]? with
   | some u, none => (match ρ x, ρ y, ρ z, ρ u with | .c (.int k a), .c (.int k2 b), .c (.int k3 c), .c (.int k4 d) => if k = k2 ∧ k = k3 ∧ k = k4 then retV K (.int k (min4 a b c d)) else none | _, _, _, _ => none)
   | _, _ => none)
  | _, _, _ => none
 | .call { callee := .builtin .max, args, .. } => match args[0]?, args[1]?, args[2]? with
  | some x, some y, none => (match ρ x, ρ y with | .c (.int k a), .c (.int k' b) => if k = k' then retV K (.int k (if b > a then b else a)) else none | _, _ => none)
  | _, _, _ => none
 | .call { callee := .value x, args, argTypes } => match ρ x with
  | .fn f caps =>
   match lendX T st.objs f (((args.toList.zip argTypes.toList).map fun (x, t) => opd T st t x) ++ caps.map TV.c) with
   | some (vs, back) =>
    if (nodupB (back.flatMap idOf) && args.size == argTypes.size) = true then
     T.call f (trimA T vs argTypes.toList) fun v m =>
      if noFz v = true then
       match giveBack st.objs back m with
       | some u => (match (if (T.frz f && !T.wr f && !T.rev f) = true then frzT v else none) with
        | some v' => K v' [] u
        | none => let (v', os) := openT nid v; K v' os u)
       | none => none
      else none
    else none
   | none => none
  | _ => none
 | _ => none
def setOb (objs : List Ob) : List (Nat × Md) → List Ob
 | [] => objs
 | (i, .ob o) :: l => setOb (objs.set i o) l
 | (i, .cells off vs) :: l => setOb (match Ob.at objs i with | .box c => objs.set i (.box (setAt c off vs)) | _ => objs) l
def npC : CV → Bool
 | .pref _ _ _ | .psub _ _ _ _ _ => false
 | _ => true
def npT : TV → Bool
 | .c v => npC v
 | .agg l => l.all npC
 | .tup ps => ps.all fun p => p.2.all npC
 | .fp l => l.all npC
 | .fn _ l => l.all npC
 | .er _ _ _ => true
def npO : Ob → Bool
 | .box l => l.all npC
 | _ => true
def npM : Md → Bool
 | .ob o => npO o
 | .cells _ l => l.all npC
def npSt (st : St) : Bool := st.tmps.all npT && st.objs.all npO
def npOK (v : TV) (new : List Ob) (mods : List (Nat × Md)) : Bool := !T.np || (npT v && (new.all npO && mods.all fun m => npM m.2))
def St.step (st : St) (d : Option Nat) (v : TV) (new : List Ob) (mods : List (Nat × Md)) : St :=
 ({ tmps := st.tmps, objs := setOb st.objs mods ++ new } : St).put d v
def TV.undef : TV := .tup []
def askG (ops : Array Oper) (st : St) (o : Oper) (yes no : St → Option R) : Option R :=
 match o.guard with
 | none => yes st
 | some (j, want) => match (ops[j]?).bind (·.dst) with
  | some d => (match st.get d with
   | .c (.bool b) => bif b then (if want then yes (st.put (some d) (.c (.bool true))) else no (st.put (some d) (.c (.bool true))))
    else (if want then no (st.put (some d) (.c (.bool false))) else yes (st.put (some d) (.c (.bool false))))
   | .tup [] => no st
   | _ => none)
  | none => none
def evOps (lo : Nat) (ops : Array Oper) : List Oper → St → (St → Option R) → Option R
 | [], st, K => K st
 | o :: rest, st, K => askG ops st o (fun st => opSem T { st with objs := st.objs ++ List.replicate 8 .unborn } st.objs.length o fun v new mods => if (decide (new.length ≤ 8) && ((mods.all fun m => decide (lo ≤ m.1) && decide (m.1 < st.objs.length)) && npOK T v new mods)) = true then evOps lo ops rest (st.step o.dst v new mods) K else none) (fun st => evOps lo ops rest (st.put o.dst .undef) K)
@[reducible] def HT : List CT → Type
 | [] => Unit
 | [c] => El c
 | c :: d :: cs => El c × HT (d :: cs)
def toCV : (c : CT) → El c → CV
 | .int k, x => .int k x
 | .bool, x => .bool x
 | .str, x => .str x
 | .sl r, x => .fz r x
 | .pair _ _, _ => .dead
def toCVs : (cs : List CT) → HT cs → List CV
 | [], _ => []
 | [c], x => [toCV c x]
 | c :: d :: cs, x => toCV c x.1 :: toCVs (d :: cs) x.2
def fromCV : (c : CT) → CV → Option (El c)
 | .int k, .int k' n => if k' = k then some n else none
 | .bool, .bool b => some b
 | .str, .str s => some s
 | .sl r, .fz r' xs => cast? r' r xs
 | _, _ => none
def fromCVs : (cs : List CT) → List CV → Option (HT cs)
 | [], [] => some ()
 | [c], [v] => fromCV c v
 | c :: d :: cs, v :: l => match fromCV c v, fromCVs (d :: cs) l with | some x, some y => some (x, y) | _, _ => none
 | _, _ => none
def putAll (st : St) : List (Nat × CT) → List CV → St
 | (t, _) :: l, v :: vs => putAll (st.put (some t) (.c v)) l vs
 | _, _ => st
def cellsT (st : St) : List (Nat × CT) → Option (List CV)
 | [] => some []
 | (t, _) :: l => match st.get t, cellsT st l with | .c v, some vs => some (v :: vs) | _, _ => none
def killD (st : St) : List Oper → St
 | [] => st
 | o :: l => killD (st.put o.dst .dead) l
def idC : CV → List Nat
 | .ref id => [id]
 | .sub id _ _ => [id]
 | .pref id _ _ => [id]
 | .psub id _ _ _ _ => [id]
 | .box id _ => [id]
 | _ => []
def idT : TV → List Nat
 | .c v => idC v
 | .agg l => l.flatMap idC
 | .tup ps => ps.flatMap fun p => p.2.flatMap idC
 | .fp l => l.flatMap idC
 | .er id _ _ => [id]
 | .fn _ l => l.flatMap idC
structure Pt where
 id : Nat
 lo : Nat
 n : Nat
def Pt.meets (x y : Pt) : Bool := decide (x.id = y.id) && (decide (x.n = 0) || decide (y.n = 0) || (decide (x.lo < y.lo + y.n) && decide (y.lo < x.lo + x.n)))
def closeI (objs : List Ob) (l : List Nat) : List Pt := (l ++ l.flatMap fun id => match Ob.at objs id with | .box c => c.flatMap idC | _ => []).map fun id => ⟨id, 0, 0⟩
def idsOf (T : Tab) (st : St) (o : Oper) : List Pt :=
 let all := closeI st.objs (o.op.operands.toList.flatMap fun | .tmp t => idT (st.get t) | _ => [])
 match o.op with
 | .load t (.tmp a) => (match st.get a, T.ty t with | .c (.box id off), some ti => if ti.size = 0 then all else [⟨id, off, ti.size⟩] | _, _ => all)
 | .store t (.tmp a) x => (match st.get a, T.ty t with | .c (.box _ _), some _ => ((match x with | .tmp t => idT (st.get t) | _ => []).map fun id => ⟨id, 0, 0⟩) | _, _ => all)
 | .move _ => []
 | _ => all
def wrOf : Nat × Md → Pt
 | (id, .ob _) => ⟨id, 0, 0⟩
 | (id, .cells off l) => ⟨id, off, l.length⟩
def disj (a b : List Pt) : Bool := a.all fun x => b.all fun y => !x.meets y
structure Seen where
 o : Oper
 i : Nat
 rd : List Pt
 wr : List Pt
def Seen.apart (ops : Array Oper) (x y : Seen) : Bool := x.o.apart ops y.o && y.o.apart ops x.o && disj x.wr y.rd && disj x.wr y.wr && disj y.wr x.rd
def maskOk (ops : Array Oper) (M : Array Nat) : Bool :=
 (List.range ops.size).all fun j => (List.range ops.size).all fun i => !((M.getD j 0).testBit i) || (match ops[j]? with
  | some o => o.after.toList.any fun e => Region.binds .any e && (e.on == i || (M.getD e.on 0).testBit i)
  | none => false)
def drawOk (ops : Array Oper) : Bool :=
 maskOk ops (Region.before ops) && ((List.range ops.size).all fun j => match ops[j]? with
  | some o => (o.after.toList.all fun e => !Region.binds .any e || decide (e.on < j)) && (match o.op with | .select .. => false | _ => true) && (match o.op with | .call { callee := .invoke .., .. } => false | _ => true)
  | none => false)
def numb {α : Type} (n : Nat) : List α → List (Nat × α)
 | [] => []
 | x :: l => (n, x) :: numb (n + 1) l
def St.upd (st : St) (d : Option Nat) (v : TV) (ups : List (Nat × Md)) : St := ({ tmps := st.tmps, objs := setOb st.objs ups } : St).put d v
def seenOk (ops : Array Oper) (M : Array Nat) (x : Seen) (acc : List Seen) : Bool := acc.all fun y => (M.getD x.i 0).testBit y.i || y.apart ops x
def unbornAt (objs : List Ob) (n : Nat) : Nat → Bool
 | 0 => true
 | k + 1 => (match Ob.at objs (n + k) with | .unborn => true | _ => false) && unbornAt objs n k
def evD (lo : Nat) (ops : Array Oper) (M : Array Nat) (n0 : Nat) : Nat → List Oper → List Seen → St → (St → Option R) → Option R
 | _, [], _, st, K => K st
 | i, o :: rest, acc, st, K => askG ops st o
   (fun st => opSem T st (n0 + 8 * i) o fun v new mods =>
    let ups := mods ++ (numb (n0 + 8 * i) new).map fun p => (p.1, Md.ob p.2)
    let x : Seen := ⟨o, i, idsOf T st o, ups.map wrOf⟩
    if (decide (new.length ≤ 8) && (unbornAt st.objs (n0 + 8 * i) new.length && ((mods.all fun m => decide (lo ≤ m.1)) && (npOK T v new mods && seenOk ops M x acc)))) = true then evD lo ops M n0 (i + 1) rest (acc ++ [x]) (st.upd o.dst v ups) K else none)
   (fun st => let x : Seen := ⟨o, i, [], []⟩
    if seenOk ops M x acc = true then evD lo ops M n0 (i + 1) rest (acc ++ [x]) (st.upd o.dst .undef []) K else none)
def addNew : List Nat → List Nat → List Nat
 | acc, [] => acc
 | acc, x :: l => if acc.contains x then addNew acc l else addNew (acc ++ [x]) l
def kids (objs : List Ob) (l : List Nat) : List Nat := l.flatMap fun id => match Ob.at objs id with | .box c => c.flatMap idC | _ => []
def pos? : List Nat → Nat → Option Nat
 | [], _ => none
 | x :: l, y => if x = y then some 0 else (match pos? l y with | some n => some (n + 1) | none => none)
def renC (sel : List Nat) : CV → CV
 | .ref id => match pos? sel id with | some k => .ref k | none => .dead
 | .sub id lo hi => match pos? sel id with | some k => .sub k lo hi | none => .dead
 | .pref id i j => match pos? sel id with | some k => .pref k i j | none => .dead
 | .psub id i j lo hi => match pos? sel id with | some k => .psub k i j lo hi | none => .dead
 | .box id off => match pos? sel id with | some k => .box k off | none => .dead
 | v => v
def renT (sel : List Nat) : TV → TV
 | .c v => .c (renC sel v)
 | .agg l => .agg (l.map (renC sel))
 | .tup ps => .tup (ps.map fun p => (p.1, p.2.map (renC sel)))
 | .fp l => .fp (l.map (renC sel))
 | .er id i off => match pos? sel id with | some k => .er k i off | none => .dead
 | .fn f l => .fn f (l.map (renC sel))
def renO (sel : List Nat) : Ob → Ob
 | .box l => .box (l.map (renC sel))
 | o => o
def selP (objs : List Ob) (vs : List TV) : List Nat :=
 let s1 := addNew [objs.length] (vs.flatMap idT)
 let s2 := addNew s1 (kids objs s1)
 addNew s2 (kids objs s2)
def backM (sel : List Nat) (nid k : Nat) : Nat := sel.getD k (nid + (k - sel.length))
def mvC (f : Nat → Nat) : CV → CV
 | .ref id => .ref (f id)
 | .sub id lo hi => .sub (f id) lo hi
 | .pref id i j => .pref (f id) i j
 | .psub id i j lo hi => .psub (f id) i j lo hi
 | .box id off => .box (f id) off
 | v => v
def mvO (f : Nat → Nat) : Ob → Ob
 | .box l => .box (l.map (mvC f))
 | o => o
def mvT (f : Nat → Nat) : TV → TV
 | .c v => .c (mvC f v)
 | .tup [] => .tup []
 | _ => .dead
def putBack {α : Type} : List α → List Nat → List α → List α
 | l, i :: is, x :: xs => putBack (l.set i x) is xs
 | l, _, _ => l
def liveO : Ob → Bool
 | .box _ | .row _ _ => true
 | _ => false
def callP (st : St) (f : Nat) (vs : List TV) (K : TV → List Ob → Option R) : Option R :=
 let sel := selP st.objs vs
 if (sel.drop 1).all (fun i => decide (i < st.objs.length) && liveO (Ob.at st.objs i)) = true then
  T.proc f (vs.map (renT sel)) (sel.map fun i => renO sel (Ob.at st.objs i)) fun v l =>
   if sel.length ≤ l.length then
    K (mvT (backM sel st.objs.length) v) (putBack st.objs sel ((l.take sel.length).map (mvO (backM sel st.objs.length))) ++ (l.drop sel.length).map (mvO (backM sel st.objs.length)))
   else none
 else none
def capsOf : List TV → Option (List CV)
 | [] => some []
 | .c v :: l => match capsOf l with | some m => some (v :: m) | none => none
 | _ => none
def specOp (st : St) (o : Oper) (K : TV → List Ob → Option R) (other : Unit → Option R) : Option R :=
 match o.op with
 | .makeFunc (.func f) first caps => if first.size = 0 then (match capsOf (caps.toList.map (opd T st o.type)) with | some l => K (.fn f l) st.objs | none => none) else none
 | .alloc t => match T.ty t with
  | some ti => if ti.ptr then K (.c (.box st.objs.length 0)) (st.objs ++ [.box [.dead]]) else other ()
  | none => none
 | .call { callee := .value x, args, argTypes } => match opd T st o.type x with
  | .fn f caps => if T.isP f then (if args.size = argTypes.size then callP T st f (((args.toList.zip argTypes.toList).map fun (x, t) => opd T st t x) ++ caps.map TV.c) K else none) else other ()
  | _ => other ()
 | _ => other ()
def evOpsP (ops : Array Oper) : List Oper → St → (St → Option R) → Option R
 | [], st, K => K st
 | o :: rest, st, K => askG ops st o (fun st => specOp T st o (fun v objs => evOpsP ops rest (({ tmps := st.tmps, objs := objs } : St).put o.dst v) K)
   (fun _ => opSem T { st with objs := st.objs ++ List.replicate 8 .unborn } st.objs.length o fun v new mods => if (decide (new.length ≤ 8) && (mods.all fun m => decide (m.1 < st.objs.length))) = true then evOpsP ops rest (st.step o.dst v new mods) K else none))
   (fun st => evOpsP ops rest (st.put o.dst .undef) K)
def evReg (lo : Nat) (ops : Array Oper) (draw : Bool) (st : St) (K : St → Option R) : Option R :=
 if draw then (if drawOk ops = true then evD T lo ops (Region.before ops) st.objs.length 0 ops.toList [] { st with objs := st.objs ++ List.replicate (8 * ops.size) .unborn } K else none)
 else evOps T lo ops ops.toList st K
def evJoin (ops : Array Oper) (draw : Bool) (js : List (Nat × CT)) (st : St) (K : St → Option R) : Option R :=
 (evReg T st.objs.length ops draw st fun st1 => (cellsT st1 js).bind (fromCVs (js.map (·.2)))).bind fun x => K (putAll (killD st ops.toList) js (toCVs _ x))
def keyOf : Code → Nat
 | .region id _ _ => id
 | .seq a _ => keyOf a
 | .cond _ a _ => keyOf a
 | .block _ c => keyOf c
 | .loop c => keyOf c
 | .scope c => keyOf c
 | _ => 0
def ev : Code → St → (Ex → St → Option R) → Option R
 | .skip, st, K => K .normal st
 | .region id ops draw, st, K =>
  match T.join id with
  | [] => if (T.hasP && !draw) = true then evOpsP T ops ops.toList st (K .normal) else evReg T 0 ops draw st (K .normal)
  | js => evJoin T ops draw js st (K .normal)
 | .seq a b, st, K => ev a st fun e st' => match e with | .normal => ev b st' K | .exit i => K (.exit i) st' | .ret => K .ret st'
 | .cond c a b, st, K => match opd T st 0 c with
  | .c (.bool e) => bif e then ev a st K else ev b st K
  | _ => none
 | .block id c, st, K => ev c st fun e st' => match e with | .exit i => (if i = id then K .normal st' else K (.exit i) st') | .normal => K .normal st' | .ret => K .ret st'
 | .loop c, st, K => match T.loop (keyOf c) with | some L => L.run st K | none => none
 | .exit id, st, K => K (.exit id) st
 | .ret, st, K => K .ret st
 | _, _, _ => none
end
def keepT : Nat → List Nat → List TV → List TV
 | _, _, [] => []
 | n, live, v :: l => (if live.contains n then v else .dead) :: keepT (n + 1) live l
def nilC (n : Nat) : CV → CV × List Ob
 | .nilS r => (.ref n, [.row r []])
 | v => (v, [])
def nilL (n : Nat) : List CV → List CV × List Ob
 | [] => ([], [])
 | v :: l => let (v', o) := nilC n v; let (l', os) := nilL (n + o.length) l; (v' :: l', o ++ os)
def nilT (n : Nat) : TV → TV × List Ob
 | .c v => let (v', o) := nilC n v; (.c v', o)
 | .agg l => let (l', o) := nilL n l; (.agg l', o)
 | v => (v, [])
def nilTs (n : Nat) : List TV → List TV × List Ob
 | [] => ([], [])
 | v :: l => let (v', o) := nilT n v; let (l', os) := nilTs (n + o.length) l; (v' :: l', o ++ os)
def nilO (n : Nat) : Ob → Ob × List Ob
 | .box l => let (l', o) := nilL n l; (.box l', o)
 | v => (v, [])
def nilOs (n : Nat) : List Ob → List Ob × List Ob
 | [] => ([], [])
 | v :: l => let (v', o) := nilO n v; let (l', os) := nilOs (n + o.length) l; (v' :: l', o ++ os)
def norm (m : Nat) (live : List Nat) (st : St) : St :=
 let t1 := keepT 0 live st.tmps
 let (t2, o2) := nilTs st.objs.length t1
 let (b3, o3) := nilOs (st.objs.length + o2.length) st.objs
 let objs := b3 ++ o2 ++ o3
 let s1 := addNew (List.range m) (t2.flatMap idT)
 let s2 := addNew s1 (kids objs s1)
 let sel := addNew s2 (kids objs s2)
 {tmps := t2.map (renT sel), objs := sel.map fun id => renO sel (Ob.at objs id) }
inductive SC where
 | h
 /-- a truth value that is known -/
 | cb (b : Bool)
 /-- a window of an own row, its bounds as payload -/
 | sub (id : Nat)
 | w
 | ref (id : Nat)
 | box (id off : Nat)
 | dead
inductive TT where
 | c (s : SC)
 | agg (l : List SC)
 | tup (l : List (Bool × List SC))
 | fp (l : List SC)
 | fn (f : Nat) (l : List SC)
inductive OT where
 | gone
 | box (l : List SC)
 | row
def SC.dec : SC → CV → Option (List CV)
 | .h, .int k n => some [.int k n]
 | .h, .bool b => some [.bool b]
 | .h, .str s => some [.str s]
 | .h, .fz r xs => some [.fz r xs]
 | .w, .new r xs => some [.fz r xs]
 | .ref i, .ref j => if i = j then some [] else none
 | .box i o, .box j p => if i = j ∧ o = p then some [] else none
 | .cb b, .bool b' => if b = b' then some [] else none
 | .sub i, .sub j lo hi => if i = j then some [.int .i64 (lo : Int), .int .i64 (hi : Int)] else none
 | .dead, .dead => some []
 | _, _ => none
def SC.inst : SC → List CV → CV × List CV
 | .h, v :: l => (v, l)
 | .w, .fz r xs :: l => (.new r xs, l)
 | .ref i, l => (.ref i, l)
 | .box i o, l => (.box i o, l)
 | .cb b, l => (.bool b, l)
 | .sub i, .int _ lo :: .int _ hi :: l => (.sub i lo.toNat hi.toNat, l)
 | _, l => (.dead, l)
def decL : List SC → List CV → Option (List CV)
 | [], [] => some []
 | s :: ss, v :: vs => match s.dec v, decL ss vs with | some a, some b => some (a ++ b) | _, _ => none
 | _, _ => none
def instL : List SC → List CV → List CV × List CV
 | [], l => ([], l)
 | s :: ss, l => let (v, l1) := s.inst l; let (vs, l2) := instL ss l1; (v :: vs, l2)
def decP : List (Bool × List SC) → List (Bool × List CV) → Option (List CV)
 | [], [] => some []
 | (b, s) :: ss, (b', v) :: vs => if b = b' then (match decL s v, decP ss vs with | some a, some b => some (a ++ b) | _, _ => none) else none
 | _, _ => none
def instP : List (Bool × List SC) → List CV → List (Bool × List CV) × List CV
 | [], l => ([], l)
 | (b, s) :: ss, l => let (v, l1) := instL s l; let (vs, l2) := instP ss l1; ((b, v) :: vs, l2)
def TT.dec : TT → TV → Option (List CV)
 | .c s, .c v => s.dec v
 | .agg s, .agg v => decL s v
 | .tup s, .tup v => decP s v
 | .fp s, .fp v => decL s v
 | .fn f s, .fn g v => if f = g then decL s v else none
 | _, _ => none
def TT.inst : TT → List CV → TV × List CV
 | .c s, l => let (v, l1) := s.inst l; (.c v, l1)
 | .agg s, l => let (v, l1) := instL s l; (.agg v, l1)
 | .tup s, l => let (v, l1) := instP s l; (.tup v, l1)
 | .fp s, l => let (v, l1) := instL s l; (.fp v, l1)
 | .fn f s, l => let (v, l1) := instL s l; (.fn f v, l1)
def OT.dec : OT → Ob → Option (List CV)
 | .gone, .gone => some []
 | .box s, .box v => decL s v
 | .row, .row r xs => some [.fz r xs]
 | _, _ => none
def OT.inst : OT → List CV → Ob × List CV
 | .gone, l => (.gone, l)
 | .box s, l => let (v, l1) := instL s l; (.box v, l1)
 | .row, .fz r xs :: l => (.row r xs, l)
 | .row, l => (.gone, l)
def decTs : List TT → List TV → Option (List CV)
 | [], [] => some []
 | s :: ss, v :: vs => match s.dec v, decTs ss vs with | some a, some b => some (a ++ b) | _, _ => none
 | _, _ => none
def instTs : List TT → List CV → List TV × List CV
 | [], l => ([], l)
 | s :: ss, l => let (v, l1) := s.inst l; let (vs, l2) := instTs ss l1; (v :: vs, l2)
def decOs : List OT → List Ob → Option (List CV)
 | [], [] => some []
 | s :: ss, v :: vs => match s.dec v, decOs ss vs with | some a, some b => some (a ++ b) | _, _ => none
 | _, _ => none
def instOs : List OT → List CV → List Ob × List CV
 | [], l => ([], l)
 | s :: ss, l => let (v, l1) := s.inst l; let (vs, l2) := instOs ss l1; (v :: vs, l2)
structure SF where
 n : Nat
 ts : List (Nat × TT)
 os : List OT
 /-- objects that were handed in to be written: they stay the first ones -/
 m : Nat
def lookT : List (Nat × TT) → Nat → TT
 | [], _ => .c .dead
 | (m, s) :: l, n => if m = n then s else lookT l n
def SF.tmps (f : SF) : List TT := (List.range f.n).map (lookT f.ts)
def SF.live (f : SF) : List Nat := f.ts.map (·.1)
def SF.dec (f : SF) (st : St) : Option (List CV) := match decTs f.tmps st.tmps, decOs f.os st.objs with | some a, some b => some (a ++ b) | _, _ => none
def SF.inst (f : SF) (l : List CV) : St := let (ts, l1) := instTs f.tmps l; { tmps := ts, objs := (instOs f.os l1).1 }
def SF.read (f : SF) (cs : List CT) (st : St) : Option (HT cs) := (f.dec (norm f.m f.live st)).bind (fromCVs cs)
def SF.mk' (f : SF) (cs : List CT) (x : HT cs) : St := f.inst (toCVs cs x)
def loopA (f : SF) (cs : List CT) (e : Nat) (g : SF) (co : List CT) (l : HT cs → Option (HT co)) : LoopI :=
 {live := f.live, run := fun st K => (f.read cs st).bind fun x => (l x).bind fun y => K (.exit e) (g.mk' co y) }
def outA (e : Nat) (g : SF) (co : List CT) (f : SF) (cs : List CT) (l : HT cs → Option (HT co)) (x : Ex) (st : St) : Option (HT co) :=
 match x with
 | .normal => (f.read cs st).bind l
 | .exit i => if i = e then g.read co st else none
 | .ret => none
def loopB (f : SF) (cs : List CT) (e : Nat) (g : SF) (co : List CT) (h : SF) (cr : List CT) (l : HT cs → Option (HT co ⊕ HT cr)) : LoopI :=
 {live := f.live, run := fun st K => (f.read cs st).bind fun x => (l x).bind fun y => match y with | .inl y => K (.exit e) (g.mk' co y) | .inr z => K .ret (h.mk' cr z) }
def outB (e : Nat) (g : SF) (co : List CT) (h : SF) (cr : List CT) (f : SF) (cs : List CT) (l : HT cs → Option (HT co ⊕ HT cr)) (x : Ex) (st : St) : Option (HT co ⊕ HT cr) :=
 match x with
 | .normal => (f.read cs st).bind l
 | .exit i => if i = e then (match g.read co st with | some y => some (.inl y) | none => none) else none
 | .ret => match h.read cr st with | some z => some (.inr z) | none => none
def openA (n : Nat) : List TV → List TV × List Ob
 | [] => ([], [])
 | v :: l => let (v', o) := openT n v; let (l', os) := openA (n + o.length) l; (v' :: l', o ++ os)
def enter (fn : Func) (args : List TV) : St := let (vs, os) := openA 0 args; { tmps := vs ++ List.replicate (fn.ntmps - vs.length) .dead, objs := os }
def closeC (objs : List Ob) : CV → Option (CV × List Nat)
 | .ref id => match Ob.at objs id with | .row r xs => some (.new r xs, [id]) | _ => none
 | .nilS r => some (.new r [], [])
 | .int k n => some (.int k n, [])
 | .bool b => some (.bool b, [])
 | .str s => some (.str s, [])
 | _ => none
def closeL (objs : List Ob) : List CV → Option (List CV × List Nat)
 | [] => some ([], [])
 | v :: l => match closeC objs v, closeL objs l with | some (v', i), some (l', j) => some (v' :: l', i ++ j) | _, _ => none
def resOf (T : Tab) (st : St) : ResultVar → Option (Bool × List CV)
 | .tmp t => match st.get t with | .c v => some (false, [v]) | .agg l => some (true, l) | _ => none
 | .cell a t => match st.get a, T.ty t with
  | .c (.box id off), some ti => (match Ob.at st.objs id with
   | .box l => if ((l.drop off).take ti.size).length = ti.size ∧ (ti.agg = true ∨ ti.size = 1) then some (ti.agg, (l.drop off).take ti.size) else none
   | _ => none)
  | _, _ => none
def resL (T : Tab) (st : St) : List ResultVar → Option (List (Bool × List CV) × List Nat)
 | [] => some ([], [])
 | r :: l => match resOf T st r, resL T st l with
  | some (b, vs), some (ps, js) => (match closeL st.objs vs with | some (ws, is) => some ((b, ws) :: ps, is ++ js) | none => none)
  | _, _ => none
def oneOf : List (Bool × List CV) → TV
 | [(true, l)] => .agg l
 | [(false, [v])] => .c v
 | ps => .tup ps
def mutsOf (objs : List Ob) : Nat → Nat → Option (List CV)
 | _, 0 => some []
 | i, n + 1 => match Ob.at objs i, mutsOf objs (i + 1) n with | .row r xs, some l => some (.fz r xs :: l) | _, _ => none
def finish (T : Tab) (fn : Func) (m : Nat) (st : St) : Option (TV × List CV) :=
 match resL T st fn.results.toList, mutsOf st.objs 0 m with
 | some (ps, ids), some ms => if nodupB ids = true ∧ (ids.all fun i => decide (m ≤ i)) = true ∧ (ps.all fun p => p.1 || decide (p.2.length = 1)) = true then some (oneOf ps, ms) else none
 | _, _ => none
structure FunI where
 at_ : List TT
 cs : List CT
 rt : TT
 co : List CT
 m : Nat
def FunI.call (I : FunI) (F : HT I.cs → Option (HT I.co)) {R : Type} (args : List TV) (K : TV → List CV → Option R) : Option R :=
 ((decTs I.at_ args).bind (fromCVs I.cs)).bind fun x => (F x).bind fun y => let (v, ms) := I.rt.inst (toCVs I.co y); K v ms
def FunI.body (I : FunI) (T : Tab) (fn : Func) (c : Code) (x : HT I.cs) : Option (HT I.co) :=
 ev T c (enter fn (instTs I.at_ (toCVs I.cs x)).1) fun e st => match e with
  | .exit _ => none
  | _ => (finish T fn I.m st).bind fun (v, ms) => match I.rt.dec v with | some hs => fromCVs I.co (hs ++ ms) | none => none
structure ProcI where
 at_ : List TT
 os : List OT
 cs : List CT
 rt : TT
 ot : List OT
 co : List CT
 /-- do rows that were handed in stay where they are? -/
 kr : Bool
def ProcI.call (I : ProcI) (F : HT I.cs → Option (HT I.co)) {R : Type} (args : List TV) (objs : List Ob) (K : TV → List Ob → Option R) : Option R :=
 ((match decTs I.at_ args, decOs I.os objs with | some a, some b => some (a ++ b) | _, _ => none).bind (fromCVs I.cs)).bind fun x => (F x).bind fun y =>
  let (v, l) := I.rt.inst (toCVs I.co y); K v (instOs I.ot l).1
def enterP (fn : Func) (args : List TV) (objs : List Ob) : St := { tmps := args ++ List.replicate (fn.ntmps - args.length) .dead, objs := objs }
def baseF (kr : Bool) (m : Nat) (objs : List Ob) : List Nat := (List.range m).map fun k => match kr, Ob.at objs k with | false, .row _ _ => objs.length + k | _, _ => k
def normF (kr : Bool) (m : Nat) (st : St) : List Ob :=
 let (b3, o3) := nilOs st.objs.length st.objs
 let objs := b3 ++ o3
 let s1 := addNew (baseF kr m objs) []
 let s2 := addNew s1 (kids objs s1)
 let sel := addNew s2 (kids objs s2)
 sel.map fun id => renO sel (Ob.at objs id)
def finishP (T : Tab) (fn : Func) (kr : Bool) (m : Nat) (st : St) : Option (TV × List Ob) :=
 match resL T st fn.results.toList with
 | some (ps, _) => if m ≤ st.objs.length ∧ (openP 0 ps).2.isEmpty = true ∧ (ps.all fun p => p.1 || decide (p.2.length = 1)) = true then some (oneOf ps, normF kr m st) else none
 | none => none
def ProcI.body (I : ProcI) (T : Tab) (fn : Func) (c : Code) (x : HT I.cs) : Option (HT I.co) :=
 let (args, l) := instTs I.at_ (toCVs I.cs x)
 ev T c (enterP fn args (instOs I.os l).1) fun e st => match e with
  | .exit _ => none
  | _ => (finishP T fn I.kr I.os.length st).bind fun (v, objs) => match I.rt.dec v, decOs I.ot objs with | some a, some b => fromCVs I.co (a ++ b) | _, _ => none
end Go.Proofs.YtgcioclfplafkaaGreatV
