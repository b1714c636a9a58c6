/-
  Memory words of this proof: a slice that reads as a list of values, of nodes, of tokens, of texts; errors as values.
  Package name: letter, digit, Check and Plain return what the plain functions nameErrB, plainErr tell; nothing that was there changes.
  Package word, leaves: digit, inName; tree.Reserved.
  (*word.reader).while: it goes on as long as bytes are so, hands back what it passed, and leaves the reader behind it.
  '==' and '!=' between two errors that are numbers of the type Errno.
  (*word.reader).named: the name that begins where the reader stands, as a token; or a panic with what is wrong with it.
  strings.Builder: copyCheck and WriteByte at a builder that the call itself has made: one byte more; what lay below is as it was.
  (*word.reader).quoted: the text between the quotes, as a token; or a panic with what is wrong.
  word.sign: the sign that a text begins with, the longest one.
  (*word.reader).word: the token that begins where the reader stands; or a panic with what is wrong.
-/
import Derived.Test.YtfaadlfaimhbbaaGreatDoorProg
import Derived.WalkKit
import Derived.WalkSpells
import Derived.WalkLawsBesides
import Derived.Outline
import Derived.Laws.OwnMore
import Derived.Deep.AppendLies
import Derived.Deep.Draws
import Derived.Maps.AppendAt
import Derived.RegionTactic
import Derived.OwnWalk
import Derived.Lib.Hide
import Derived.Deep.QuietTactic
import Derived.BigQuiet
import Derived.Lib.ConvBytes
import Derived.Lib.Strings
import Derived.Lib.IndexBytes
import Derived.LaidEql
import Derived.Test.YtfaadlfaimhbbaaGreatDoorShelf
namespace Go.Proofs.YtfaadlfaimhbbaaGreatDoor
open Go.RowKit

/-! ## rows that read as lists -/
theorem block_of_add (a : Addr) (n : Nat) : (a.add n).block = a.block := by unfold Addr.add; split <;> rfl
theorem add_of_add (a : Addr) (i j : Nat) : (a.add i).add j = a.add (i + j) := by
  unfold Addr.add
  by_cases hi : i = 0 <;> by_cases hj : j = 0 <;> simp [hi, hj, Nat.add_assoc]
theorem add_plain (b off n : Nat) : (⟨b, off, none⟩ : Addr).add n = ⟨b, off + n, none⟩ := by
  unfold Addr.add
  by_cases h : n = 0 <;> simp [h]

def Arr (w : World) (k : Nat) (A : Option Addr) (n : Nat) (xs : List Value) : Prop :=
  xs.length = n * k ∧ (0 < n → ∃ b off, A = some ⟨b, off, none⟩ ∧ b < w.heap.size ∧ ∀ j u, xs[j]? = some u → w.cell? ⟨b, off + j, none⟩ = some u)

section
variable {w w' : World} {k n : Nat} {A : Option Addr} {xs : List Value}
theorem Arr.none_ : Arr w k A 0 [] := ⟨by simp, fun h => absurd h (by omega)⟩
theorem Arr.keepOn (h : Arr w k A n xs) (hs : w.heap.size ≤ w'.heap.size) (hk : ∀ p : Addr, p.block < w.heap.size → w'.cell? p = w.cell? p) : Arr w' k A n xs :=
  ⟨h.1, fun hn => by
    obtain ⟨b, off, e, hb, hc⟩ := h.2 hn
    exact ⟨b, off, e, by omega, fun j u hu => (hk _ hb).trans (hc j u hu)⟩⟩
theorem Arr.below (h : Arr w k A n xs) (hb : Below w.heap.size w w') : Arr w' k A n xs := h.keepOn hb.size fun _ hp => hb.cell hp
theorem Arr.drewN (h : Arr w k A n xs) (m : Nat) : Arr (w.drewN m) k A n xs := h
theorem Arr.drew (h : Arr w k A n xs) : Arr w.drew k A n xs := h
theorem Arr.alloc (h : Arr w k A n xs) (o : Obj) : Arr (w.alloc o) k A n xs := h.keepOn (by simp) fun p hp => World.cell?_alloc_lt w o p hp
end

theorem below_drewN {B : Nat} {a w : World} (h : Below B a w) (n : Nat) : Below B a (w.drewN n) := ⟨h.os, h.tape, h.output, h.size, h.block⟩

/-! ## nodes, tokens -/
structure Node where
  op : Int
  n : Int
  s : ByteArray
  t : ByteArray
  deriving DecidableEq, Inhabited
structure Tok where
  kind : Int
  s : ByteArray
  pos : Int
  deriving DecidableEq, Inhabited
def Node.cells (x : Node) : List Value := [.int .i64 x.op, .int .i64 x.n, .string x.s, .string x.t]
def Tok.cells (x : Tok) : List Value := [.int .i64 x.kind, .string x.s, .int .i64 x.pos]
def Node.val (x : Node) : Value := .agg #[.int .i64 x.op, .int .i64 x.n, .string x.s, .string x.t]
def Tok.val (x : Tok) : Value := .agg #[.int .i64 x.kind, .string x.s, .int .i64 x.pos]

def NodesAt (w : World) (A : Option Addr) (l : List Node) : Prop := Arr w 4 A l.length (l.flatMap Node.cells)
def ToksAt (w : World) (A : Option Addr) (l : List Tok) : Prop := Arr w 3 A l.length (l.flatMap Tok.cells)
def StrsAt (w : World) (A : Option Addr) (l : List ByteArray) : Prop := Arr w 1 A l.length (l.map Value.string)

theorem getElem?_flatMap_const {α β : Type} (f : α → List β) (k : Nat) (hf : ∀ x, (f x).length = k) : ∀ (l : List α) (i j : Nat) (x : α), l[i]? = some x → j < k → (l.flatMap f)[i * k + j]? = (f x)[j]?
  | [], i, j, x, h, _ => by simp at h
  | y :: l, 0, j, x, h, hj => by
    simp only [List.getElem?_cons_zero, Option.some.injEq] at h
    subst h
    simp only [List.flatMap_cons, Nat.zero_mul, Nat.zero_add]
    rw [List.getElem?_append_left (by rw [hf]; exact hj)]
  | y :: l, i + 1, j, x, h, hj => by
    simp only [List.getElem?_cons_succ] at h
    simp only [List.flatMap_cons]
    rw [List.getElem?_append_right (by rw [hf, Nat.add_mul]; omega), hf]
    have := getElem?_flatMap_const f k hf l i j x h hj
    rw [← this]
    congr 1
    rw [Nat.add_mul]; omega

theorem lt_of_some {α : Type} {l : List α} {k : Nat} {x : α} (h : l[k]? = some x) : k < l.length := by
  rcases Nat.lt_or_ge k l.length with h' | h'
  · exact h'
  · rw [List.getElem?_eq_none h'] at h; cases h

theorem NodesAt.at_ {w : World} {A : Option Addr} {l : List Node} (h : NodesAt w A l) {k : Nat} {x : Node} (hx : l[k]? = some x) :
    ∃ b off, A = some ⟨b, off, none⟩ ∧ b < w.heap.size ∧ w.cell? ⟨b, off + k * 4, none⟩ = some (.int .i64 x.op) ∧ w.cell? ⟨b, off + k * 4 + 1, none⟩ = some (.int .i64 x.n) ∧
      w.cell? ⟨b, off + k * 4 + 2, none⟩ = some (.string x.s) ∧ w.cell? ⟨b, off + k * 4 + 3, none⟩ = some (.string x.t) := by
  obtain ⟨b, off, e, hb, hc⟩ := h.2 (by have := lt_of_some hx; omega)
  have g := fun j hj => getElem?_flatMap_const Node.cells 4 (fun _ => rfl) l k j x hx hj
  refine ⟨b, off, e, hb, ?_, ?_, ?_, ?_⟩
  · exact hc (k * 4) _ (g 0 (by omega))
  · exact hc (k * 4 + 1) _ (g 1 (by omega))
  · exact hc (k * 4 + 2) _ (g 2 (by omega))
  · exact hc (k * 4 + 3) _ (g 3 (by omega))
theorem ToksAt.at_ {w : World} {A : Option Addr} {l : List Tok} (h : ToksAt w A l) {k : Nat} {x : Tok} (hx : l[k]? = some x) :
    ∃ b off, A = some ⟨b, off, none⟩ ∧ b < w.heap.size ∧ w.cell? ⟨b, off + k * 3, none⟩ = some (.int .i64 x.kind) ∧ w.cell? ⟨b, off + k * 3 + 1, none⟩ = some (.string x.s) ∧
      w.cell? ⟨b, off + k * 3 + 2, none⟩ = some (.int .i64 x.pos) := by
  obtain ⟨b, off, e, hb, hc⟩ := h.2 (by have := lt_of_some hx; omega)
  have g := fun j hj => getElem?_flatMap_const Tok.cells 3 (fun _ => rfl) l k j x hx hj
  refine ⟨b, off, e, hb, ?_, ?_, ?_⟩
  · exact hc (k * 3) _ (g 0 (by omega))
  · exact hc (k * 3 + 1) _ (g 1 (by omega))
  · exact hc (k * 3 + 2) _ (g 2 (by omega))
theorem StrsAt.at_ {w : World} {A : Option Addr} {l : List ByteArray} (h : StrsAt w A l) {k : Nat} {x : ByteArray} (hx : l[k]? = some x) :
    ∃ b off, A = some ⟨b, off, none⟩ ∧ b < w.heap.size ∧ w.cell? ⟨b, off + k, none⟩ = some (.string x) := by
  obtain ⟨b, off, e, hb, hc⟩ := h.2 (by have := lt_of_some hx; omega)
  exact ⟨b, off, e, hb, hc k _ (by simp [hx])⟩
theorem NodesAt.below {w w' : World} {A : Option Addr} {l : List Node} (h : NodesAt w A l) (hb : Below w.heap.size w w') : NodesAt w' A l := Arr.below h hb
theorem ToksAt.below {w w' : World} {A : Option Addr} {l : List Tok} (h : ToksAt w A l) (hb : Below w.heap.size w w') : ToksAt w' A l := Arr.below h hb
theorem StrsAt.below {w w' : World} {A : Option Addr} {l : List ByteArray} (h : StrsAt w A l) (hb : Below w.heap.size w w') : StrsAt w' A l := Arr.below h hb

/-! ## errors -/
def errV (e : Int) : Value := if e = 0 then .nilIface else .iface 40 (.int .i64 e)
theorem errV_zero : errV 0 = .nilIface := rfl
theorem errV_ne {e : Int} (h : e ≠ 0) : errV e = .iface 40 (.int .i64 e) := if_neg h

theorem ret_int {k : IntKind} {a b : Int} (h : a = b) : Ending.returned (.int k a) = .returned (.int k b) := by rw [h]
theorem ret_bool {a b : Bool} (h : a = b) : Ending.returned (.bool a) = .returned (.bool b) := by rw [h]
theorem ret_val {a b : Value} (h : a = b) : Ending.returned a = .returned b := by rw [h]

/-! ## a block that is known whole; only one block has changed -/
def Blk (w : World) (g : Nat) (t : TypeId) (cs : Array Value) : Prop := w.heap[g]? = some (.cells cs t (0, 0))
section
variable {w w' a : World} {g : Nat} {t : TypeId} {cs : Array Value}
theorem Blk.lt (h : Blk w g t cs) : g < w.heap.size := by
  rcases Nat.lt_or_ge g w.heap.size with hlt | hge
  · exact hlt
  · unfold Blk at h; rw [Array.getElem?_eq_none hge] at h; cases h
theorem Blk.cell (h : Blk w g t cs) (i : Nat) : w.cell? ⟨g, i, none⟩ = cs[i]? := by
  unfold Blk at h; simp [World.cell?, h]
theorem Blk.frozen (h : Blk w g t cs) (i : Nat) : w.frozen? ⟨g, i, none⟩ = false := by
  unfold Blk at h; simp [World.frozen?, h]
theorem Blk.new (w : World) (t : TypeId) (cs : Array Value) : Blk (w.alloc (.cells cs t)) w.heap.size t cs := by
  unfold Blk; simp [World.alloc, -World.alloc_eq]
theorem Blk.drewN (h : Blk w g t cs) (n : Nat) : Blk (w.drewN n) g t cs := h
theorem Blk.drew (h : Blk w g t cs) : Blk w.drew g t cs := h
theorem Blk.alloc (h : Blk w g t cs) (o : Obj) : Blk (w.alloc o) g t cs := (Below.heap_alloc w o g h.lt).trans h
theorem Blk.set_ (h : Blk w g t cs) (i : Nat) (u : Value) : Blk (w.setCell ⟨g, i, none⟩ u) g t (cs.setIfInBounds i u) := by
  unfold Blk at h ⊢
  simp [World.setCell, Array.getElem?_modify, h]
theorem Blk.far (h : Blk w g t cs) {p : Addr} (hp : g ≠ p.block) (u : Value) : Blk (w.setCell p u) g t cs := (Below.heap_setCell w p u g hp).trans h
theorem Blk.below {B : Nat} (h : Blk w g t cs) (hb : Below B w w') (hg : g < B) : Blk w' g t cs := (hb.block g hg).trans h
theorem Blk.belowS (h : Blk w g t cs) (hb : Below w.heap.size w w') : Blk w' g t cs := h.below hb h.lt

/-- Only block g, and what is new, has changed. -/
abbrev Only (g : Nat) (a w : World) : Prop := a.grownBy w (some g)
theorem Only.refl (g : Nat) (w : World) : Only g w w := World.grownBy.refl w _
theorem Only.trans {b c : World} (h : Only g a b) (k : Only g b c) : Only g a c :=
  ⟨k.os.trans h.os, k.tape.trans h.tape, k.output.trans h.output, Nat.le_trans h.size k.size, fun i hi hne => (k.block i (Nat.lt_of_lt_of_le hi h.size) hne).trans (h.block i hi hne)⟩
theorem Only.drewN (h : Only g a w) (n : Nat) : Only g a (w.drewN n) := ⟨h.os, h.tape, h.output, h.size, h.block⟩
theorem Only.alloc (h : Only g a w) (o : Obj) : Only g a (w.alloc o) :=
  ⟨h.os, h.tape, h.output, Nat.le_trans h.size (by simp), fun i hi hne => (Below.heap_alloc w o i (Nat.lt_of_lt_of_le hi h.size)).trans (h.block i hi hne)⟩
theorem Only.set_ (h : Only g a w) (i : Nat) (u : Value) : Only g a (w.setCell ⟨g, i, none⟩ u) :=
  ⟨h.os, h.tape, h.output, by simpa [World.setCell] using h.size, fun j hj hne => (Below.heap_setCell w ⟨g, i, none⟩ u j (fun e => hne (by rw [e]))).trans (h.block j hj hne)⟩
theorem Only.ofBelow (h : Below a.heap.size a w) : Only g a w := ⟨h.os, h.tape, h.output, h.size, fun i hi _ => h.block i hi⟩
theorem Only.thenBelow (h : Only g a w) (k : Below w.heap.size w w') : Only g a w' := h.trans (Only.ofBelow k)
theorem Only.below {B : Nat} (h : Only g a w) (hB : B ≤ a.heap.size) (hg : B ≤ g) : Below B a w :=
  ⟨h.os, h.tape, h.output, h.size, fun i hi => h.block i (by omega) (fun e => by injection e; omega)⟩
theorem Only.arr {k n : Nat} {A : Option Addr} {xs : List Value} (h : Only g a w) (hr : Arr a k A n xs) (hne : ∀ b off sp, A = some ⟨b, off, sp⟩ → b ≠ g) : Arr w k A n xs :=
  ⟨hr.1, fun hn => by
    obtain ⟨b, off, e, hb, hc⟩ := hr.2 hn
    refine ⟨b, off, e, Nat.lt_of_lt_of_le hb h.size, fun j u hu => (World.cell?_of_block (h.block b hb (fun e' => hne b off _ e (by injection e')))).trans (hc j u hu)⟩⟩
theorem Only.blk (h : Only g a w) {b : Nat} (hr : Blk a b t cs) (hne : b ≠ g) : Blk w b t cs := (h.block b hr.lt (fun e => hne (by injection e))).trans hr
end
/-- The int in a cell. -/
def cellNat (w : World) (a : Addr) : Nat := match w.cell? a with | some (.int _ n) => n.toNat | _ => 0
theorem cellNat_eq {w : World} {a : Addr} {k : IntKind} {n : Nat} (h : w.cell? a = some (.int k (n : Int))) : cellNat w a = n := by simp [cellNat, h]

/-! ## quiet calls: contracts that state 'w = w'' -/
theorem quiet_left {P : Program} {f : FuncId} {args : Array Value} {w : World} {n : Nat} {v : Value}
    (h : Calls P f args (w.drewN n) fun e w' => e = .returned v ∧ w.drewN n = w') : Calls P f args (w.drewN n) fun e w'' => e = .returned v ∧ ∃ m, w'' = w.drewN m :=
  h.mono fun _ _ ⟨he, hm⟩ => ⟨he, n, hm.symm⟩
theorem quiet_add {P : Program} {f : FuncId} {args : Array Value} {w : World} {a n : Nat} {v : Value}
    (h : Calls P f args (w.drewN (a + n)) fun e w' => e = .returned v ∧ w.drewN (a + n) = w') : Calls P f args (w.drewN (a + n)) fun e w'' => e = .returned v ∧ ∃ m, w'' = w.drewN (a + m) :=
  h.mono fun _ _ ⟨he, hm⟩ => ⟨he, n, hm.symm⟩

/-! ## a name for the world in which the walk stands -/
theorem name_world {P : Program} {c : Code} {Q : Exit → Act → World → Prop} {a : Act} {w : World} (h : ∀ w1, w1 = w → Code.wp P c Q a w1) : Code.wp P c Q a w := h w rfl
end Go.Proofs.YtfaadlfaimhbbaaGreatDoor

namespace Go.Proofs.YtfaadlfaimhbbaaGreatDoor
open Go.RowKit

def letterI (b : Int) : Bool := decide (97 ≤ b ∧ b ≤ 122 ∨ 65 ≤ b ∧ b ≤ 90 ∨ b = 95)
def digitI (b : Int) : Bool := decide (48 ≤ b ∧ b ≤ 57)
def nameByte (c : UInt8) : Bool := letterI (c.toNat : Int) || digitI (c.toNat : Int)
def nameErr (l : List UInt8) : Int :=
  match l with
  | [] => 1
  | c :: _ => if letterI (c.toNat : Int) then (if l.all nameByte then (if 20 < l.length then 4 else 0) else 1) else 1

theorem bytes_conv {P : Program} (src dst e : TypeId) {u : TypeDesc} (hs : P.underlying src = some u) (hd : P.underlying dst = some (.slice e)) (he : P.underlying e = some (.int .u8)) (w : World) (s : ByteArray) :
    ∃ w1 c, (convert src dst (.string s)).run P w = .ok (.slice (some ⟨w.heap.size, 0, none⟩) s.size c) w1 ∧ Below w.heap.size w w1 ∧ w1.heap.size = w.heap.size + 1 ∧
      ∀ (j : Nat) (x : UInt8), s.data.toList[j]? = some x → w1.cell? ⟨w.heap.size, j, none⟩ = some (.int .u8 x.toNat) := by
  refine ⟨_, _, Lib.run_convert_string_bytes w src dst e s hs hd he, ?_, Lib.bytesWorld_size w e s, fun j x hx => ?_⟩
  · refine ⟨rfl, rfl, rfl, by rw [Lib.bytesWorld_size]; omega, fun k hk => Lib.bytesWorld_at_old w e s k hk⟩
  · have hj := lt_of_some hx
    rw [Lib.bytesWorld_cell w e s j (by rw [Lib.size_eq]; exact hj)]
    simp [List.getD, hx]

set_option maxRecDepth 100000 in
set_option maxHeartbeats 400000 in
theorem letter_c (b : Int) (w : World) :
    Calls Tryz.prog 131 #[.int .u8 b] w fun e w' => e = .returned (.bool (letterI b)) ∧ w = w' := by
  go_enter Tryz.func131, Tryz.ntmps131
  go_wp2
  all_goals (go_ret; exact ⟨ret_bool (by unfold letterI; rw [Bool.eq_iff_iff]; simp; try omega), rfl⟩)
set_option maxHeartbeats 400000 in
theorem digit_c (b : Int) (w : World) :
    Calls Tryz.prog 132 #[.int .u8 b] w fun e w' => e = .returned (.bool (digitI b)) ∧ w = w' := by
  go_enter Tryz.func132, Tryz.ntmps132
  go_wp2
  all_goals (go_ret; exact ⟨ret_bool (by unfold digitI; rw [Bool.eq_iff_iff]; simp; try omega), rfl⟩)

theorem take_all {l : List UInt8} {k : Nat} {x : UInt8} {p : UInt8 → Bool} (hx : l[k]? = some x) : (l.take (k + 1)).all p = ((l.take k).all p && p x) := by
  rw [List.take_add_one, hx]; simp



def nameErrB (s : ByteArray) : Int := nameErr s.data.toList
theorem size_pos_of {s : ByteArray} (h : s.toList.isEmpty = false) : 0 < s.size := by
  rw [Lib.toList_data] at h
  rw [Lib.size_eq]
  cases hl : s.data.toList with
  | nil => rw [hl] at h; cases h
  | cons => simp
theorem nameErr_nil {s : ByteArray} (h : s.toList.isEmpty = true) : nameErrB s = 1 := by
  rw [Lib.toList_data] at h
  unfold nameErrB
  cases hl : s.data.toList with
  | nil => rfl
  | cons => rw [hl] at h; cases h
theorem data_cons {s : ByteArray} (h : 0 < s.size) : ∃ r, s.data.toList = s[0] :: r := by
  have h1 := Lib.data_getElem? s 0 h
  cases hl : s.data.toList with
  | nil => rw [hl] at h1; simp at h1
  | cons a r => rw [hl] at h1; simp at h1; exact ⟨r, by rw [h1]⟩
theorem nameErr_first {s : ByteArray} (h : 0 < s.size) (hl : letterI (s[0]).toNat = false) : nameErrB s = 1 := by
  obtain ⟨r, hr⟩ := data_cons h
  unfold nameErrB nameErr
  rw [hr]
  simp [hl]
theorem nameErr_bad {s : ByteArray} (h : 0 < s.size) {x : UInt8} {k : Nat} (hx : s.data.toList[k]? = some x) (hl : nameByte x = false) : nameErrB s = 1 := by
  have hm := List.mem_of_getElem? hx
  obtain ⟨r, hr⟩ := data_cons h
  have : s.data.toList.all nameByte = false := by rw [List.all_eq_false]; exact ⟨x, hm, by simp [hl]⟩
  unfold nameErrB nameErr
  rw [hr] at this ⊢
  simp only [this]
  simp
theorem nameErr_good {s : ByteArray} (h : 0 < s.size) (h0 : letterI (s[0]).toNat = true) (ha : (s.data.toList.take s.size).all nameByte = true) : nameErrB s = if 20 < s.size then 4 else 0 := by
  have hz := Lib.size_eq s
  rw [List.take_of_length_le (by omega)] at ha
  obtain ⟨r, hr⟩ := data_cons h
  unfold nameErrB nameErr
  rw [hr] at ha hz ⊢
  simp only [ha, h0, if_true, hz]

set_option maxRecDepth 100000 in
set_option maxHeartbeats 400000 in
theorem check_c (s : ByteArray) (w : World) (hs : s.size ≤ 9223372036854775807) :
    Calls Tryz.prog 102 #[.string s] w fun e w' => e = .returned (errV (nameErrB s)) ∧ Below w.heap.size w w' := by
  obtain ⟨w1, c, hconv, hb1, hsz1, hcell⟩ := bytes_conv (P := Tryz.prog) 9 109 5 Tryz.underlying9 Tryz.underlying109 Tryz.underlying5 w s
  have HZ := Lib.hid (Lib.size_eq s)
  have HSZ := Lib.hid hsz1
  have HCELL := Lib.hid hcell
  clear hsz1 hcell
  cases hemp : s.toList.isEmpty with
  | true =>
    have HE := Lib.hid hemp
    go_enter Tryz.func102, Tryz.ntmps102
    go_wp2_with fail
    go_ret
    exact ⟨ret_val (by rw [nameErr_nil HE.out]; rfl), Below.refl _ _⟩
  | false =>
    have h0 := size_pos_of hemp
    cases hf : letterI ↑s[0].toNat with
    | false =>
      have HF := Lib.hid hf
      clear hf
      go_enter Tryz.func102, Tryz.ntmps102
      go_wp2_with (first
        | (go_at_call 131; refine (letter_c _ _).mono ?_; rintro e w' ⟨rfl, rfl⟩; rw [HF.out]))
      go_ret
      exact ⟨ret_val (by rw [nameErr_first h0 HF.out]; rfl), Below.refl _ _⟩
    | true =>
      have HF := Lib.hid hf
      clear hf
      go_enter Tryz.func102, Tryz.ntmps102
      go_wp2_with (first
        | (go_at_call 131; refine (letter_c _ _).mono ?_; rintro e w' ⟨rfl, rfl⟩; rw [HF.out]))
      clear hconv
      go_loop [17] (fun i => ∃ k : Nat, k ≤ s.size ∧ i = .int .i64 k ∧ Hid ((s.data.toList.take k).all nameByte = true)) (fun i => s.size - (intOf i).toNat)
      case atStart => exact ⟨0, Nat.zero_le _, rfl, Lib.hid rfl⟩
      case round =>
        obtain ⟨k, hk, rfl, hall⟩ := hrel
        by_cases hlt : k < s.size
        · obtain ⟨x, hx⟩ : ∃ x, s.data.toList[k]? = some x := ⟨_, List.getElem?_eq_getElem (by rw [← HZ.out]; exact hlt)⟩
          have hcx := HCELL.out k x hx
          have HX := Lib.hid hx
          have HTA := Lib.hid (take_all (p := nameByte) hx)
          clear hx
          have hlt' : (k : Int) < s.size := by omega
          go_wp2_with (first
            | (go_at_call 131; refine (letter_c _ _).mono ?_; rintro e w' ⟨rfl, rfl⟩)
            | (go_at_call 132; refine (digit_c _ _).mono ?_; rintro e w' ⟨rfl, rfl⟩))
          · have HLX := Lib.hid ‹letterI ↑x.toNat = true›
            go_round
            case rel => exact ⟨k + 1, by omega, by go_num, Lib.hid (by rw [HTA.out, hall.out]; simp [nameByte, HLX.out])⟩
            case measure => simp [intOf]; omega
          · go_ret
            exact ⟨ret_val (by rw [nameErr_bad h0 HX.out (by simp_all [nameByte])]; rfl), hb1⟩
          · have HDX := Lib.hid (p := digitI ↑x.toNat = true) (by simpa using ‹(!digitI ↑x.toNat) = false›)
            go_round
            case rel => exact ⟨k + 1, by omega, by go_num, Lib.hid (by rw [HTA.out, hall.out]; simp [nameByte, HDX.out])⟩
            case measure => simp [intOf]; omega
        · have HK := Lib.hid (show k = s.size by omega)
          have hge : (s.size : Int) ≤ k := by omega
          by_cases h20 : 20 < s.size
          · have h20' : (20 : Int) < s.size := by omega
            go_wp2_with fail
            go_ret
            exact ⟨ret_val (by rw [nameErr_good h0 HF.out (by rw [← HK.out]; exact hall.out), if_pos h20]; rfl), hb1⟩
          · have h20' : (s.size : Int) ≤ 20 := by omega
            go_wp2_with fail
            go_ret
            exact ⟨ret_val (by rw [nameErr_good h0 HF.out (by rw [← HK.out]; exact hall.out), if_neg h20]; rfl), hb1⟩

/-! ## Plain -/
def plainByte (c : UInt8) : Bool := decide (32 ≤ (c.toNat : Int) ∧ (c.toNat : Int) ≤ 126)
def plainErr (s : ByteArray) : Int := if 60 < s.size then 4 else if s.data.toList.all plainByte then 0 else 1
theorem plainErr_bad {s : ByteArray} (h : ¬ 60 < s.size) {x : UInt8} {k : Nat} (hx : s.data.toList[k]? = some x) (hl : plainByte x = false) : plainErr s = 1 := by
  have hm := List.mem_of_getElem? hx
  have : s.data.toList.all plainByte = false := by rw [List.all_eq_false]; exact ⟨x, hm, by simp [hl]⟩
  unfold plainErr
  rw [if_neg h, this]; rfl
theorem plainErr_good {s : ByteArray} (h : ¬ 60 < s.size) (ha : (s.data.toList.take s.size).all plainByte = true) : plainErr s = 0 := by
  have hz := Lib.size_eq s
  rw [List.take_of_length_le (by omega)] at ha
  unfold plainErr
  rw [if_neg h, ha]; rfl

set_option maxRecDepth 100000 in
set_option maxHeartbeats 400000 in
theorem plain_c (s : ByteArray) (w : World) (hs : s.size ≤ 9223372036854775807) :
    Calls Tryz.prog 103 #[.string s] w fun e w' => e = .returned (errV (plainErr s)) ∧ Below w.heap.size w w' := by
  obtain ⟨w1, c, hconv, hb1, hsz1, hcell⟩ := bytes_conv (P := Tryz.prog) 9 109 5 Tryz.underlying9 Tryz.underlying109 Tryz.underlying5 w s
  have HZ := Lib.hid (Lib.size_eq s)
  have HSZ := Lib.hid hsz1
  have HCELL := Lib.hid hcell
  clear hsz1 hcell
  by_cases h60 : 60 < s.size
  · have h60' : (60 : Int) < s.size := by omega
    go_enter Tryz.func103, Tryz.ntmps103
    go_wp2_with fail
    go_ret
    exact ⟨ret_val (by rw [plainErr, if_pos h60]; rfl), Below.refl _ _⟩
  · have h60' : (s.size : Int) ≤ 60 := by omega
    go_enter Tryz.func103, Tryz.ntmps103
    go_wp2_with fail
    clear hconv
    go_loop [12] (fun i => ∃ k : Nat, k ≤ s.size ∧ i = .int .i64 k ∧ Hid ((s.data.toList.take k).all plainByte = true)) (fun i => s.size - (intOf i).toNat)
    case atStart => exact ⟨0, Nat.zero_le _, rfl, Lib.hid rfl⟩
    case round =>
      obtain ⟨k, hk, rfl, hall⟩ := hrel
      by_cases hlt : k < s.size
      · obtain ⟨x, hx⟩ : ∃ x, s.data.toList[k]? = some x := ⟨_, List.getElem?_eq_getElem (by rw [← HZ.out]; exact hlt)⟩
        have hcx := HCELL.out k x hx
        have HX := Lib.hid hx
        have HTA := Lib.hid (take_all (p := plainByte) hx)
        clear hx
        have hlt' : (k : Int) < s.size := by omega
        by_cases hp : (32 : Int) ≤ x.toNat ∧ (x.toNat : Int) ≤ 126
        · obtain ⟨hp1, hp2⟩ := hp
          go_wp2_with fail
          go_round
          case rel => exact ⟨k + 1, by omega, by go_num, Lib.hid (by rw [HTA.out, hall.out]; simp only [plainByte, Bool.true_and, decide_eq_true_eq]; omega)⟩
          case measure => simp [intOf]; omega
        · have hb : plainByte x = false := by unfold plainByte; simp only [decide_eq_false_iff_not]; exact hp
          have HB := Lib.hid hb
          clear hb
          by_cases hp1 : (x.toNat : Int) < 32
          · go_wp2_with fail
            go_ret
            exact ⟨ret_val (by rw [plainErr_bad h60 HX.out HB.out]; rfl), hb1⟩
          · have hp2 : (126 : Int) < x.toNat := by omega
            go_wp2_with fail
            go_ret
            exact ⟨ret_val (by rw [plainErr_bad h60 HX.out HB.out]; rfl), hb1⟩
      · have HK := Lib.hid (show k = s.size by omega)
        have hge : (s.size : Int) ≤ k := by omega
        go_wp2_with fail
        go_ret
        exact ⟨ret_val (by rw [plainErr_good h60 (by rw [← HK.out]; exact hall.out)]; rfl), hb1⟩
end Go.Proofs.YtfaadlfaimhbbaaGreatDoor

namespace Go.Proofs.YtfaadlfaimhbbaaGreatDoor
open Go.RowKit

def inNameI (b : Int) : Bool := letterI b || digitI b
set_option maxRecDepth 100000 in
set_option maxHeartbeats 400000 in
theorem wdigit_c (b : Int) (w : World) :
    Calls Tryz.prog 135 #[.int .u8 b] w fun e w' => e = .returned (.bool (digitI b)) ∧ w = w' := by
  go_enter Tryz.func135, Tryz.ntmps135
  go_wp2
  all_goals (go_ret; exact ⟨ret_bool (by unfold digitI; rw [Bool.eq_iff_iff]; simp; try omega), rfl⟩)
set_option maxRecDepth 100000 in
set_option maxHeartbeats 400000 in
theorem inName_c (b : Int) (w : World) :
    Calls Tryz.prog 137 #[.int .u8 b] w fun e w' => e = .returned (.bool (inNameI b)) ∧ w = w' := by
  by_cases h1 : 97 ≤ b
  all_goals by_cases h2 : b ≤ 122
  all_goals by_cases h3 : 65 ≤ b
  all_goals by_cases h4 : b ≤ 90
  all_goals by_cases h5 : b = 95
  all_goals try (exfalso; omega)
  all_goals
    go_enter Tryz.func137, Tryz.ntmps137
    go_wp2_with (first
      | (go_at_call 135; refine (wdigit_c _ _).mono ?_; rintro e w' ⟨rfl, rfl⟩))
    all_goals go_ret
    refine ⟨ret_bool ?_, rfl⟩
    try subst h5
    first
      | rfl
      | (unfold inNameI letterI digitI; rw [Bool.eq_iff_iff]; simp; omega)
      | (unfold inNameI letterI digitI; simp; omega)
      | (unfold inNameI letterI digitI; rw [Bool.eq_iff_iff]; simp)

/-- The words of the language. -/
def reservedL : List (List UInt8) := [[105, 102], [116, 104, 101, 110], [101, 108, 115, 101], [116, 114, 117, 101], [102, 97, 108, 115, 101], [105, 110], [104, 97, 115], [108, 105, 107, 101], [105, 115]]
def reserved (s : ByteArray) : Bool := reservedL.contains s.toList
set_option maxRecDepth 100000 in
set_option maxHeartbeats 800000 in
theorem reserved_c (s : ByteArray) (w : World) :
    Calls Tryz.prog 130 #[.string s] w fun e w' => e = .returned (.bool (reserved s)) ∧ w = w' := by
  go_enter Tryz.func130, Tryz.ntmps130
  go_wp2_with fail
  all_goals go_ret
  all_goals refine ⟨ret_bool ?_, rfl⟩
  all_goals first
    | (simp only [reserved, reservedL, List.contains_cons, *]; rfl)
    | (exfalso; simp_all; done)
end Go.Proofs.YtfaadlfaimhbbaaGreatDoor

namespace Go.Proofs.YtfaadlfaimhbbaaGreatDoor
open Go.RowKit

/-- How many bytes from a place on are so. -/
def runLen (p : Int → Bool) (l : List UInt8) (i : Nat) : Nat := ((l.drop i).takeWhile fun c => p c.toNat).length
theorem runLen_le (p : Int → Bool) (l : List UInt8) (i : Nat) (hi : i ≤ l.length) : i + runLen p l i ≤ l.length := by
  have : runLen p l i ≤ (l.drop i).length := (List.takeWhile_sublist _).length_le
  rw [List.length_drop] at this; omega
theorem runLen_yes {p : Int → Bool} {l : List UInt8} {i : Nat} {x : UInt8} (hx : l[i]? = some x) (hp : p x.toNat = true) : runLen p l i = runLen p l (i + 1) + 1 := by
  have hl := lt_of_some hx
  unfold runLen
  rw [List.drop_eq_getElem_cons hl]
  have : l[i] = x := by rw [List.getElem?_eq_getElem hl] at hx; simpa using hx
  rw [this, List.takeWhile_cons, if_pos hp]; simp
theorem runLen_no {p : Int → Bool} {l : List UInt8} {i : Nat} {x : UInt8} (hx : l[i]? = some x) (hp : p x.toNat = false) : runLen p l i = 0 := by
  have hl := lt_of_some hx
  unfold runLen
  rw [List.drop_eq_getElem_cons hl]
  have : l[i] = x := by rw [List.getElem?_eq_getElem hl] at hx; simpa using hx
  rw [this, List.takeWhile_cons, if_neg (by rw [hp]; simp)]; rfl
theorem runLen_end {p : Int → Bool} {l : List UInt8} {i : Nat} (h : l.length ≤ i) : runLen p l i = 0 := by
  unfold runLen; rw [List.drop_eq_nil_of_le h]; rfl

/-- The reader of a line at block b. -/
def RdAt (w : World) (b : Nat) (s : ByteArray) (i : Nat) : Prop := Blk w b 148 #[.string s, .int .i64 i]

theorem RdAt.cells {w : World} {b : Nat} {s : ByteArray} {i : Nat} (h : RdAt w b s i) : w.cell? ⟨b, 0, none⟩ = some (.string s) ∧ w.cell? ⟨b, 1, none⟩ = some (.int .i64 i) ∧ w.frozen? ⟨b, 1, none⟩ = false :=
  ⟨Blk.cell h 0, Blk.cell h 1, Blk.frozen h 1⟩

set_option maxRecDepth 100000 in
set_option maxHeartbeats 1000000 in
theorem while_c (f : FuncId) (p : Int → Bool) (hcall : ∀ (args : Array Value) (w : World), (callFunc f args).run Tryz.prog w = .ok (.enter f args) w)
    (hf : ∀ (x : Int) (w : World), Calls Tryz.prog f #[.int .u8 x] w fun e w' => e = .returned (.bool (p x)) ∧ w = w')
    (b : Nat) (s : ByteArray) (i : Nat) (w : World) (hs : s.size ≤ 9223372036854775807) (hi : i ≤ s.size) (h : RdAt w b s i) :
    Calls Tryz.prog 107 #[.pointer (some ⟨b, 0, none⟩), .func (.func f) #[] #[]] w fun e w' =>
      e = .returned (.string (s.extract i (i + runLen p s.data.toList i))) ∧ RdAt w' b s (i + runLen p s.data.toList i) ∧ Only b w w' := by
  have HZ := Lib.hid (Lib.size_eq s)
  have HF := Lib.hid hf
  clear hf
  obtain ⟨hc0, hc1, hz1⟩ := h.cells
  go_enter Tryz.func107, Tryz.ntmps107
  go_wp2_with fail
  clear hc0 hc1 hz1
  go_loopw [] (fun wr => ∃ j : Nat, i ≤ j ∧ j ≤ s.size ∧ Hid (RdAt wr b s j) ∧ Hid (Only b w wr) ∧ Hid (j + runLen p s.data.toList j = i + runLen p s.data.toList i)) (fun wr => s.size - cellNat wr ⟨b, 1, none⟩)
  case atStart => exact ⟨i, Nat.le_refl _, hi, Lib.hid h, Lib.hid (Only.refl _ _), Lib.hid rfl⟩
  case round =>
    obtain ⟨j, hij, hj, hr, ho, hq⟩ := hrel
    obtain ⟨hc0, hc1, hz1⟩ := hr.out.cells
    by_cases hlt : j < s.size
    · obtain ⟨x, hx⟩ : ∃ x, s.data.toList[j]? = some x := ⟨_, List.getElem?_eq_getElem (by rw [← HZ.out]; exact hlt)⟩
      have hxx : s[j] = x := by have := Lib.data_getElem? s j hlt; rw [hx] at this; simpa using this.symm
      have HX := Lib.hid hx
      have HXX := Lib.hid hxx
      clear hx hxx
      have hd : decide ((j : Int) < s.size) = true := by simp; omega
      go_wp2_with fail
      go_quiet ((exact quiet_left (HF.out _ _)))
      rw [HXX.out]
      cases hp : p x.toNat with
      | true =>
        have HP := Lib.hid hp
        clear hp
        go_wp2_with fail
        refine ⟨⟨j + 1, by omega, by omega, Lib.hid ?_, Lib.hid ((ho.out.drewN _).set_ _ _), Lib.hid ?_⟩, ?_⟩
        · exact Blk.set_ (hr.out.drewN nq) 1 _
        · have h1 := runLen_yes HX.out HP.out
          have h2 := hq.out
          omega
        · rw [cellNat_eq hc1, cellNat_eq (k := .i64) (n := j + 1) (by rw [Blk.cell (Blk.set_ (hr.out.drewN nq) 1 _) 1]; rfl)]
          omega
      | false =>
        have HP := Lib.hid hp
        clear hp
        go_wp2_with fail
        go_quiet (fail)
        go_wp2_with fail
        go_ret
        have he : i + runLen p s.data.toList i = j := by
          have h1 := runLen_no HX.out HP.out
          have h2 := hq.out
          omega
        rw [he]
        exact ⟨rfl, hr.out, (ho.out.drewN _).drewN _⟩
    · have hge : (s.size : Int) ≤ j := by omega
      have hd : decide ((j : Int) < s.size) = false := by simp; omega
      go_wp2_with fail
      go_quiet (fail)
      go_wp2_with fail
      go_quiet (fail)
      go_wp2_with fail
      go_ret
      have he : i + runLen p s.data.toList i = j := by
        have h1 := runLen_end (p := p) (l := s.data.toList) (i := j) (by rw [← HZ.out]; omega)
        have h2 := hq.out
        omega
      rw [he]
      exact ⟨rfl, hr.out, (ho.out.drewN _).drewN _⟩
end Go.Proofs.YtfaadlfaimhbbaaGreatDoor

namespace Go.Proofs.YtfaadlfaimhbbaaGreatDoor
open Go.RowKit

section
variable {P : Program} (w : World)
theorem run_equalIn_num (d : Nat) {ti tn : TypeId} {ms : Array (String × TypeId)} {i : TypeInfo} {k : IntKind} (a b : Int)
    (hi : P.underlying ti = some (.interface ms)) (hn : P.underlying tn = some (.int k)) (hinfo : P.info? tn = some i) (hcomp : i.comparable = true) :
    (Op.equalIn (d + 2) ti (.iface tn (.int k a)) (.iface tn (.int k b))).run P w = .ok (a == b) w := by
  simp [Op.equalIn, run_underlying hi, run_underlying hn, typeInfo, hinfo, hcomp]
theorem run_eql_num {ti tn : TypeId} {ms : Array (String × TypeId)} {i : TypeInfo} {k : IntKind} (a b : Int)
    (hi : P.underlying ti = some (.interface ms)) (hn : P.underlying tn = some (.int k)) (hinfo : P.info? tn = some i) (hcomp : i.comparable = true) :
    (binOp .eql ti (.iface tn (.int k a)) (.iface tn (.int k b))).run P w = .ok (.bool (a == b)) w := by
  simp only [binOp]
  simp [Op.equal, Op.maxDepth, run_equalIn_num w 9998 a b hi hn hinfo hcomp]
end

theorem errno_info : (Tryz.prog.info? 40).map (fun i => i.comparable) = some true := by kernel_rfl
theorem errno_eql (a b : Int) (w : World) : (binOp .eql 25 (.iface 40 (.int .i64 a)) (.iface 40 (.int .i64 b))).run Tryz.prog w = .ok (.bool (a == b)) w := by
  obtain ⟨i, hi, hc⟩ := Option.map_eq_some_iff.1 errno_info
  exact run_eql_num w a b Tryz.underlying25 Tryz.underlying40 hi hc

theorem Only.setNew {g : Nat} {a w : World} (h : Only g a w) {p : Addr} (hp : a.heap.size ≤ p.block) (u : Value) : Only g a (w.setCell p u) :=
  ⟨h.os, h.tape, h.output, by simpa [World.setCell] using h.size, fun j hj hne => (Below.heap_setCell w p u j (by omega)).trans (h.block j hj hne)⟩
theorem Blk.three {w : World} {g : Nat} {t : TypeId} {x y z : Value} (h : Blk w g t #[x, y, z]) (a b c : Value) :
    Blk (((w.setCell ⟨g, 0, none⟩ a).setCell ⟨g, 1, none⟩ b).setCell ⟨g, 2, none⟩ c) g t #[a, b, c] := ((h.set_ 0 a).set_ 1 b).set_ 2 c
theorem Blk.four {w : World} {g : Nat} {t : TypeId} {x y z u : Value} (h : Blk w g t #[x, y, z, u]) (a b c d : Value) :
    Blk ((((w.setCell ⟨g, 0, none⟩ a).setCell ⟨g, 1, none⟩ b).setCell ⟨g, 2, none⟩ c).setCell ⟨g, 3, none⟩ d) g t #[a, b, c, d] := (((h.set_ 0 a).set_ 1 b).set_ 2 c).set_ 3 d
theorem Blk.cells3 {w : World} {g : Nat} {t : TypeId} {x y z : Value} (h : Blk w g t #[x, y, z]) :
    w.cell? ⟨g, 0, none⟩ = some x ∧ w.cell? ⟨g, 1, none⟩ = some y ∧ w.cell? ⟨g, 2, none⟩ = some z ∧ w.frozen? ⟨g, 0, none⟩ = false ∧ w.frozen? ⟨g, 1, none⟩ = false ∧ w.frozen? ⟨g, 2, none⟩ = false :=
  ⟨h.cell 0, h.cell 1, h.cell 2, h.frozen 0, h.frozen 1, h.frozen 2⟩
theorem tok_result {fn : Func} {p : Tmp} (h : fn.results = #[.cell p 34]) (tmps : Array Value) (w : World) (g : Nat) (cs : Array Value) (hp : tmps.getD p undef = .pointer (some ⟨g, 0, none⟩)) (hg : Blk w g 34 cs) (hs : cs.size = 3) :
    (results fn tmps).run Tryz.prog w = .ok (.agg cs) w :=
  results_cell_row h tmps w g _ cs (0, 0) _ hp hg Tryz.underlying34 rfl (by rw [hs]; kernel_rfl)
end Go.Proofs.YtfaadlfaimhbbaaGreatDoor

namespace Go.Proofs.YtfaadlfaimhbbaaGreatDoor
open Go.RowKit

inductive WRes where
  | ok (t : Tok) (next : Nat)
  | bad (err : Int) (at_ : Nat)

def faultV (e : Int) (i : Int) : Value := .iface 145 (.agg #[.int .i64 e, .int .i64 i])
def pan (v : Value) : Ending := .panicked [{ v := v, recovered := false }]

def WordPost (b : Nat) (s : ByteArray) (w : World) (r : WRes) (e : Ending) (w' : World) : Prop :=
  match r with
  | .ok t n => e = .returned t.val ∧ RdAt w' b s n ∧ Only b w w'
  | .bad err i => e = pan (faultV err i) ∧ Only b w w'

def namedW (kind : Int) (s : ByteArray) (i fr : Nat) : WRes :=
  if nameErrB (s.extract i (i + runLen inNameI s.data.toList i)) = 0 then .ok ⟨kind, s.extract i (i + runLen inNameI s.data.toList i), fr⟩ (i + runLen inNameI s.data.toList i)
  else .bad (nameErrB (s.extract i (i + runLen inNameI s.data.toList i))) fr

theorem nameErr_cases (s : ByteArray) : nameErrB s = 0 ∨ nameErrB s = 1 ∨ nameErrB s = 4 := by
  unfold nameErrB nameErr
  split
  · simp
  · split <;> (try split) <;> (try split) <;> simp

theorem enters_inName (args : Array Value) (w : World) : (callFunc 137 args).run Tryz.prog w = .ok (.enter 137 args) w := by
  exact enters_of Tryz.func137 (by kernel_rfl) rfl args w
theorem enters_digit (args : Array Value) (w : World) : (callFunc 135 args).run Tryz.prog w = .ok (.enter 135 args) w := by
  exact enters_of Tryz.func135 (by kernel_rfl) rfl args w

set_option maxRecDepth 100000 in
set_option maxHeartbeats 1000000 in
theorem named_c (kind : Int) (b : Nat) (s : ByteArray) (i fr : Nat) (w : World) (hs : s.size ≤ 9223372036854775807) (hi : i ≤ s.size) (h : RdAt w b s i) :
    Calls Tryz.prog 138 #[.pointer (some ⟨b, 0, none⟩), .int .i64 kind, .int .i64 fr] w (WordPost b s w (namedW kind s i fr)) := by
  have hb := Blk.lt h
  have hsz : (s.extract i (i + runLen inNameI s.data.toList i)).size ≤ 9223372036854775807 := by
    have : (s.extract i (i + runLen inNameI s.data.toList i)).size ≤ s.size := by rw [ByteArray.size_extract]; omega
    omega
  have q := errno_eql
  have HS := Lib.hid hsz
  clear hsz
  rcases nameErr_cases (s.extract i (i + runLen inNameI s.data.toList i)) with he | he | he
  · have HE := Lib.hid he
    clear he
    go_enter Tryz.func138, Tryz.ntmps138
    go_wp2_with fail
    refine (while_c 137 inNameI enters_inName inName_c b s i _ hs hi (Blk.alloc h _)).mono ?_
    rintro e w1 ⟨rfl, hr1, ho1⟩
    go_wp2_with fail
    refine (check_c _ _ HS.out).mono ?_
    rintro e w2 ⟨rfl, hb2⟩
    rw [HE.out, errV_zero]
    have hR := (ho1.blk (Blk.new _ _ _) (Nat.ne_of_gt hb)).belowS hb2
    have hsz1 := ho1.size
    obtain ⟨c0, c1, c2, z0, z1, z2⟩ := hR.cells3
    have HO := Lib.hid ho1
    clear ho1
    go_wp2_with fail
    refine bodyPost_ret (tok_result rfl _ _ w.heap.size _ rfl (hR.three _ _ _) rfl) rfl ?_
    unfold namedW
    rw [if_pos HE.out]
    refine ⟨rfl, ?_, ?_⟩
    · exact (((Blk.belowS hr1 hb2).far (Nat.ne_of_lt hb) _).far (Nat.ne_of_lt hb) _).far (Nat.ne_of_lt hb) _
    · exact (((((Only.refl b w).alloc _).trans (HO.out.thenBelow hb2)).setNew (Nat.le_refl _) _).setNew (Nat.le_refl _) _).setNew (Nat.le_refl _) _
  all_goals
    have HE := Lib.hid he
    clear he
    go_enter Tryz.func138, Tryz.ntmps138
    go_wp2_with fail
    refine (while_c 137 inNameI enters_inName inName_c b s i _ hs hi (Blk.alloc h _)).mono ?_
    rintro e w1 ⟨rfl, hr1, ho1⟩
    have HO := Lib.hid ho1
    clear ho1
    go_wp2_with fail
    refine (check_c _ _ HS.out).mono ?_
    rintro e w2 ⟨rfl, hb2⟩
    rw [HE.out, errV_ne (by decide)]
    go_wp2_with fail
    refine ⟨rfl, ?_⟩
    unfold namedW
    rw [if_neg (by rw [HE.out]; decide), HE.out]
    exact ⟨rfl, ((Only.refl b w).alloc _).trans (HO.out.thenBelow hb2)⟩
end Go.Proofs.YtfaadlfaimhbbaaGreatDoor

namespace Go.Proofs.YtfaadlfaimhbbaaGreatDoor
open Go.RowKit

theorem sizeBuilder : (Tryz.prog.info? 111).map (fun i => i.size) = some 2 := by kernel_rfl
theorem byteInfo : (Tryz.prog.info? 5).map (fun i => (i.zero, i.size, i.bytes)) = some (some (.int .u8 0), 1, 1) := by kernel_rfl

set_option maxHeartbeats 1000000 in
set_option maxRecDepth 100000 in
theorem copyCheck_used (b : Nat) (w : World) (h0 : w.cell? ⟨b, 0, none⟩ = some (.pointer (some ⟨b, 0, none⟩))) :
    Calls Tryz.prog 110 #[.pointer (some ⟨b, 0, none⟩)] w fun e w' => e = .returned (.tuple #[]) ∧ w' = w := by
  obtain ⟨j, hj, _⟩ := Option.map_eq_some_iff.1 sizeBuilder
  go_enter Tryz.func110, Tryz.ntmps110
  go_wp2
  rw [Lib.run_neq_ptr_same w _ Tryz.underlying108 hj]
  go_wp2
  go_end0
  exact ⟨rfl, rfl⟩

set_option maxHeartbeats 1000000 in
set_option maxRecDepth 100000 in
theorem copyCheck_fresh (b : Nat) (w : World) (h0 : w.cell? ⟨b, 0, none⟩ = some (.pointer none)) (hsh : w.shape? b = some (111, 2)) (hfz : w.frozen? ⟨b, 0, none⟩ = false) :
    Calls Tryz.prog 110 #[.pointer (some ⟨b, 0, none⟩)] w fun e w' => e = .returned (.tuple #[]) ∧ w' = w.setCell ⟨b, 0, none⟩ (.pointer (some ⟨b, 0, none⟩)) := by
  obtain ⟨j, hj, hjs⟩ := Option.map_eq_some_iff.1 sizeBuilder
  go_enter Tryz.func110, Tryz.ntmps110
  go_wp2
  rw [Lib.run_to_unsafe w ⟨b, 0, none⟩ Tryz.underlying108 Tryz.underlying125 hj (by rw [hjs]; decide) hsh (Nat.zero_lt_succ 1)]
  simp only [Result.andThen]
  rw [Oper.upon_value]
  go_wp2
  rw [run_callFunc_extern Tryz.func141 (by kernel_rfl) (by kernel_rfl) (by kernel_rfl) (e := Extern.AbiNoEscape.same) (by kernel_rfl)]
  rw [Lib.run_noEscape]
  simp only [Result.andThen]
  rw [Oper.upon_value]
  go_wp2
  rw [Lib.run_from_unsafe w ⟨b, 0, none⟩ Tryz.underlying125 Tryz.underlying108 hj hsh (by kernel_rfl)]
  simp only [Result.andThen]
  rw [Oper.upon_value]
  go_wp2
  go_end0
  exact ⟨rfl, rfl⟩

abbrev Bld (B b : Nat) (l : List UInt8) (w : World) : Prop := Lib.IsBuilder 111 5 B b (Lib.byteCells l) w

theorem copyCheck_c (B b : Nat) (bs : List Value) (w : World) (h : Lib.IsBuilder 111 5 B b bs w) :
    Calls Tryz.prog 110 #[.pointer (some ⟨b, 0, none⟩)] w fun e w' => e = .returned (.tuple #[]) ∧ (Lib.BuilderAt 111 5 B b (.pointer (some ⟨b, 0, none⟩)) bs w' ∧ Below B w w') := by
  rcases h with h | h
  · refine (copyCheck_fresh b w h.cell0 h.shape h.frozen0).mono ?_
    rintro e w' ⟨rfl, rfl⟩
    exact ⟨rfl, h.used _, (Below.refl B w).setCell (p := ⟨b, 0, none⟩) h.1 _⟩
  · refine (copyCheck_used b w h.cell0).mono ?_
    rintro e w' ⟨rfl, rfl⟩
    exact ⟨rfl, h, Below.refl B _⟩

set_option maxHeartbeats 2000000 in
set_option maxRecDepth 100000 in
theorem writeByte_c (B b : Nat) (l : List UInt8) (c : UInt8) (w : World) (h : Bld B b l w) (hlen : l.length + 1 ≤ 140737488355328) (hBw : B ≤ w.heap.size) :
    Calls Tryz.prog 156 #[.pointer (some ⟨b, 0, none⟩), .int .u8 c.toNat] w fun e w' => e = .returned .nilIface ∧ Bld B b (l ++ [c]) w' ∧ Below B w w' := by
  obtain ⟨i0, hi, hz0, hz1, hz2⟩ := info_parts byteInfo
  have hbl : (Lib.byteCells l).length = l.length := Lib.byteCells_length l
  have HBL := Lib.hid hbl
  clear hbl
  go_enter Tryz.func156, Tryz.ntmps156
  go_wp2_with fail
  refine (copyCheck_c B b _ _ h).mono ?_
  rintro e w1 ⟨rfl, h1, hb1⟩
  obtain ⟨hB, v, hbk, hown, hne⟩ := h1
  have c0 : w1.cell? ⟨b, 0, none⟩ = some (.pointer (some ⟨b, 0, none⟩)) := by rw [Lib.cell_of_heap hbk]; rfl
  have c1 : w1.cell? ⟨b, 1, none⟩ = some v := by rw [Lib.cell_of_heap hbk]; rfl
  go_wp2_with (at_builtin; refine wpList_append_own _ rfl _ _ 109 rfl B 5 i0 (.int .u8 0) 1 1 Tryz.underlying109 hi hz0 hz1 hz2 rfl (by decide) _ _ _ rfl (hown.alloc _) ⟨w1.heap.size, 0, none⟩ 1 1 [.int .u8 c.toNat] rfl rfl ?c1 ?c2 ?c3 ?c4 ?c5 ?_)
  case c1 =>
    intro j u hj
    match j, hj with
    | 0, hj => simp at hj; subst hj; simp [Addr.add]
  case c2 => intro u hu; simp at hu; subst hu; rfl
  case c3 => rw [HBL.out]; unfold maxLen; omega
  case c4 => rw [HBL.out]; omega
  case c5 => have := hb1.size; simp; omega
  intro v' w2 hown' hgrow _
  have hlt : b < w1.heap.size := by
    rcases Nat.lt_or_ge b w1.heap.size with h' | h'
    · exact h'
    · simp [Array.getElem?_eq_none h'] at hbk
  have hb2 : w2.heap[b]? = some (.cells #[.pointer (some ⟨b, 0, none⟩), v] 111 (0, 0)) := by
    rw [hgrow.block b (by simp; omega) (fun e => hne e.symm), Lib.alloc_old w1 _ b hlt]
    exact hbk
  have d0 : w2.cell? ⟨b, 0, none⟩ = some (.pointer (some ⟨b, 0, none⟩)) := by rw [Lib.cell_of_heap hb2]; rfl
  have d1 : w2.cell? ⟨b, 1, none⟩ = some v := by rw [Lib.cell_of_heap hb2]; rfl
  have f1 : w2.frozen? ⟨b, 1, none⟩ = false := Lib.frozen_of_heap hb2 1
  obtain ⟨g, cap, rfl⟩ : ∃ g cap, v' = .slice (some ⟨g, 0, none⟩) ((Lib.byteCells l).length + 1) cap := by
    rcases hown'.2 with ⟨_, h0⟩ | ⟨g, cap, cur, hv, _⟩
    · omega
    · exact ⟨g, cap, hv⟩
  go_wp2
  go_ret
  refine ⟨rfl, .inr ?_, ?_⟩
  · rw [Lib.byteCells_append]
    exact Lib.BuilderAt.put (T := 111) (e := 5) hB hb2 (bs' := Lib.byteCells l ++ Lib.byteCells [c]) (by simpa [Lib.byteCells] using hown') (by decide)
  · exact ((hb1.alloc (by have := hb1.size; omega) _).grown hgrow (by have := hb1.size; simp; omega) (fun k hk => (hown.lt k hk).1)).setCell (p := ⟨b, 1, none⟩) hB _

/-- A fresh builder. -/
theorem bld_new (w : World) (B : Nat) (hB : B ≤ w.heap.size) : Bld B w.heap.size [] (w.alloc (.cells #[.pointer none, .slice none 0 0] 111)) :=
  .inl ⟨hB, .slice none 0 0, Blk.new _ _ _, World.ownsRow_nil _ _ _ _, by simp [Value.ownBlock]⟩
theorem bld_len (B b : Nat) (l : List UInt8) (w : World) (h : Bld B b l w) :
    Calls Tryz.prog 157 #[.pointer (some ⟨b, 0, none⟩)] w fun e w' => e = .returned (.int .i64 l.length) ∧ w = w' :=
  (Tryz.Builder_Len B b _ w h).mono fun _ _ ⟨he, hw⟩ => ⟨by rw [he, Lib.byteCells_length], hw.symm⟩
theorem bld_string (B b : Nat) (l : List UInt8) (w : World) (h : Bld B b l w) (hBw : B ≤ w.heap.size) :
    Calls Tryz.prog 75 #[.pointer (some ⟨b, 0, none⟩)] w fun e w' => e = .returned (.string ⟨l.toArray⟩) ∧ Below B w w' := Tryz.Builder_String_any B b l w h hBw
/-- A store below the builder, a draw, a new block: it stays. -/
theorem Bld.draw {B b : Nat} {l : List UInt8} {w : World} (h : Bld B b l w) (n : Nat) : Bld B b l (w.drewN n) := h
theorem bldAt_set {B b : Nat} {p : Value} {bs : List Value} {w : World} (h : Lib.BuilderAt 111 5 B b p bs w) {a : Addr} (ha : a.block < B) (u : Value) : Lib.BuilderAt 111 5 B b p bs (w.setCell a u) := by
  obtain ⟨hB, v, hb, ho, hn⟩ := h
  exact ⟨hB, v, (Below.heap_setCell w a u b (by omega)).trans hb, ownsRow_setCell_below ho ha u, hn⟩
theorem bld_set {B b : Nat} {l : List UInt8} {w : World} (h : Bld B b l w) {a : Addr} (ha : a.block < B) (u : Value) : Bld B b l (w.setCell a u) :=
  h.elim (fun x => .inl (bldAt_set x ha u)) (fun x => .inr (bldAt_set x ha u))
end Go.Proofs.YtfaadlfaimhbbaaGreatDoor

namespace Go.Proofs.YtfaadlfaimhbbaaGreatDoor
open Go.RowKit

/-- What stands behind an opening quote: the text, and how many bytes it takes with its closing quote. -/
def quotedGo : List UInt8 → Option (List UInt8 × Nat)
  | [] => none
  | c :: r =>
    if c = 34 then some ([], 1)
    else if c = 92 then
      match r with
      | [] => none
      | d :: r' => if d = 34 ∨ d = 92 then (quotedGo r').map fun p => (d :: p.1, p.2 + 2) else none
    else if plainByte c then (quotedGo r).map fun p => (c :: p.1, p.2 + 1)
    else none

theorem quotedGo_cons (c : UInt8) (r : List UInt8) : quotedGo (c :: r) = if c = 34 then some ([], 1)
    else if c = 92 then
      match r with
      | [] => none
      | d :: r' => if d = 34 ∨ d = 92 then (quotedGo r').map fun p => (d :: p.1, p.2 + 2) else none
    else if plainByte c then (quotedGo r).map fun p => (c :: p.1, p.2 + 1)
    else none := by rw [quotedGo.eq_def]

def quotedW (s : ByteArray) (i : Nat) : WRes :=
  match quotedGo (s.data.toList.drop (i + 1)) with
  | none => .bad 1 i
  | some (t, n) => if 60 < t.length then .bad 4 i else .ok ⟨3, ⟨t.toArray⟩, i⟩ (i + 1 + n)

theorem str_index (s : ByteArray) (j : Nat) (x : UInt8) (hx : s.data.toList[j]? = some x) (w : World) :
    (Instr.index 9 (.string s) (.int .i64 (j : Int))).run Tryz.prog w = .ok (.int .u8 (x.toNat : Int)) w := by
  have hj := lt_of_some hx
  have hjs : j < s.size := by rw [Lib.size_eq]; exact hj
  have h1 := Lib.data_getElem? s j hjs
  rw [hx] at h1
  have hxx : s[j] = x := by simpa using h1.symm
  have : (j : Int) < s.size := by omega
  rw [← hxx]
  simp [go_sem, hjs]


theorem drop_at {l : List UInt8} {j : Nat} {x : UInt8} (hx : l[j]? = some x) : l.drop j = x :: l.drop (j + 1) := by
  have hj := lt_of_some hx
  rw [List.drop_eq_getElem_cons hj]
  rw [List.getElem?_eq_getElem hj] at hx
  injection hx with hx
  rw [hx]

/-- What is known at the loop's head: what the whole gives is what is left gives, behind what was read. -/
def QInv (l : List UInt8) (i j : Nat) (acc : List UInt8) : Prop :=
  i + 1 ≤ j ∧ quotedGo (l.drop (i + 1)) = (quotedGo (l.drop j)).map fun p => (acc ++ p.1, p.2 + (j - (i + 1)))

theorem qinv_start (l : List UInt8) (i : Nat) : QInv l i (i + 1) [] := by
  refine ⟨Nat.le_refl _, ?_⟩
  cases quotedGo (l.drop (i + 1)) <;> simp
theorem qinv_plain {l : List UInt8} {i j : Nat} {acc : List UInt8} {x : UInt8} (h : QInv l i j acc) (hx : l[j]? = some x) (h1 : x ≠ 34) (h2 : x ≠ 92) (hp : plainByte x = true) : QInv l i (j + 1) (acc ++ [x]) := by
  obtain ⟨hi, hq⟩ := h
  refine ⟨by omega, ?_⟩
  rw [hq, drop_at hx, quotedGo_cons, if_neg h1, if_neg h2, if_pos hp]
  cases quotedGo (l.drop (j + 1)) with
  | none => rfl
  | some p => simp; omega
theorem qinv_esc {l : List UInt8} {i j : Nat} {acc : List UInt8} {y : UInt8} (h : QInv l i j acc) (hx : l[j]? = some 92) (hy : l[j + 1]? = some y) (h1 : y = 34 ∨ y = 92) : QInv l i (j + 2) (acc ++ [y]) := by
  obtain ⟨hi, hq⟩ := h
  refine ⟨by omega, ?_⟩
  rw [hq, drop_at hx, quotedGo_cons, if_neg (by decide), if_pos rfl, drop_at hy]
  simp only [h1, if_true]
  cases quotedGo (l.drop (j + 2)) with
  | none => rfl
  | some p => simp; omega
theorem qend_close {l : List UInt8} {i j : Nat} {acc : List UInt8} (h : QInv l i j acc) (hx : l[j]? = some 34) : quotedGo (l.drop (i + 1)) = some (acc, j - i) := by
  obtain ⟨hi, hq⟩ := h
  rw [hq, drop_at hx, quotedGo_cons, if_pos rfl]
  simp; omega
theorem qend_end {l : List UInt8} {i j : Nat} {acc : List UInt8} (h : QInv l i j acc) (hx : l.length ≤ j) : quotedGo (l.drop (i + 1)) = none := by
  rw [h.2, List.drop_eq_nil_of_le hx]; rfl
theorem qend_bad {l : List UInt8} {i j : Nat} {acc : List UInt8} {x : UInt8} (h : QInv l i j acc) (hx : l[j]? = some x) (h1 : x ≠ 34) (h2 : x ≠ 92) (hp : plainByte x = false) : quotedGo (l.drop (i + 1)) = none := by
  rw [h.2, drop_at hx, quotedGo_cons, if_neg h1, if_neg h2, if_neg (by rw [hp]; decide)]; rfl
theorem qend_esc_end {l : List UInt8} {i j : Nat} {acc : List UInt8} (h : QInv l i j acc) (hx : l[j]? = some 92) (hy : l.length ≤ j + 1) : quotedGo (l.drop (i + 1)) = none := by
  rw [h.2, drop_at hx, quotedGo_cons, if_neg (by decide), if_pos rfl, List.drop_eq_nil_of_le hy]; rfl
theorem qend_esc_bad {l : List UInt8} {i j : Nat} {acc : List UInt8} {y : UInt8} (h : QInv l i j acc) (hx : l[j]? = some 92) (hy : l[j + 1]? = some y) (h1 : y ≠ 34) (h2 : y ≠ 92) : quotedGo (l.drop (i + 1)) = none := by
  rw [h.2, drop_at hx, quotedGo_cons, if_neg (by decide), if_pos rfl, drop_at hy]
  simp [h1, h2]
theorem qlen {l : List UInt8} {_i j : Nat} {acc : List UInt8} {x : UInt8} (hacc : acc.length ≤ j) (_hx : l[j]? = some x) : (acc ++ [x]).length ≤ j + 1 := by simp; omega

theorem u8_ne {x : UInt8} {n : Nat} (_hn : n < 256) (h : x ≠ UInt8.ofNat n) : ((x.toNat : Int) == (n : Int)) = false := by
  rw [beq_eq_false_iff_ne]
  intro he
  apply h
  have : x.toNat = n := by omega
  rw [← this]; simp

theorem Only.thenBelowB {g B : Nat} {a w w' : World} (h : Only g a w) (k : Below B w w') (hB : a.heap.size ≤ B) : Only g a w' :=
  ⟨k.os.trans h.os, k.tape.trans h.tape, k.output.trans h.output, Nat.le_trans h.size k.size, fun i hi hne => (k.block i (by omega)).trans (h.block i hi hne)⟩

set_option maxRecDepth 100000 in
set_option maxHeartbeats 1000000 in
theorem quoted_c (b : Nat) (s : ByteArray) (i : Nat) (w : World) (hs : s.size ≤ 100000000) (hi : i < s.size) (h : RdAt w b s i) :
    Calls Tryz.prog 139 #[.pointer (some ⟨b, 0, none⟩)] w (WordPost b s w (quotedW s i)) := by
  have hb := Blk.lt h
  have HZ := Lib.hid (Lib.size_eq s)
  obtain ⟨hc0, hc1, hz1⟩ := h.cells
  go_enter Tryz.func139, Tryz.ntmps139
  go_wp2_with fail
  refine name_world ?_
  intro w1 hw1
  have HW1 := Lib.hid hw1
  have hr1 : RdAt w1 b s (i + 1) := by
    rw [hw1]
    exact Blk.alloc (Blk.alloc (Blk.set_ h 1 _) _) _
  have ho1 : Only b w w1 := by
    rw [hw1]
    exact (((Only.refl b w).set_ 1 _).alloc _).alloc _
  have hR1 : Blk w1 w.heap.size 34 #[.int .i64 0, .string ⟨#[]⟩, .int .i64 0] := by
    rw [hw1]
    have := (Blk.new (w.setCell ⟨b, 1, none⟩ (.int .i64 (↑i + 1))) 34 #[.int .i64 0, .string ⟨#[]⟩, .int .i64 0]).alloc (.cells #[.pointer none, .slice none 0 0] 111)
    simpa using this
  have hB1 : Bld (w.heap.size + 1) (w.heap.size + 1) [] w1 := by
    rw [hw1]
    have := bld_new ((w.setCell ⟨b, 1, none⟩ (.int .i64 (↑i + 1))).alloc (.cells #[.int .i64 0, .string ⟨#[]⟩, .int .i64 0] 34)) (w.heap.size + 1) (by simp)
    simpa using this
  have hsz1 : w.heap.size + 2 ≤ w1.heap.size := by rw [hw1]; simp [World.setCell]
  clear hw1 hc0 hc1 hz1
  go_loopw [] (fun wr => ∃ (j : Nat) (acc : List UInt8), j ≤ s.size ∧ acc.length ≤ j ∧ w.heap.size + 2 ≤ wr.heap.size ∧ Hid (RdAt wr b s j) ∧ Hid (Only b w wr) ∧ Hid (Blk wr w.heap.size 34 #[.int .i64 0, .string ⟨#[]⟩, .int .i64 0]) ∧ Hid (Bld (w.heap.size + 1) (w.heap.size + 1) acc wr) ∧ Hid (QInv s.data.toList i j acc))
    (fun wr => s.size - cellNat wr ⟨b, 1, none⟩)
  case atStart => exact ⟨i + 1, [], by omega, by simp, hsz1, Lib.hid hr1, Lib.hid ho1, Lib.hid hR1, Lib.hid hB1, Lib.hid (qinv_start _ _)⟩
  case round =>
    obtain ⟨j, acc, hj, hacc, hszr, hr, ho, hR, hB, hq⟩ := hrel
    obtain ⟨hc0, hc1, hz1⟩ := hr.out.cells
    have hbB : (⟨b, 1, none⟩ : Addr).block < w.heap.size + 1 := by show b < _; omega
    by_cases hlt : j < s.size
    · obtain ⟨x, hx⟩ : ∃ x, s.data.toList[j]? = some x := ⟨_, List.getElem?_eq_getElem (by rw [← HZ.out]; exact hlt)⟩
      have hidx := str_index s j x hx
      have HX := Lib.hid hx
      clear hx
      have hlt' : (j : Int) < s.size := by omega
      by_cases h34 : x = 34
      · subst h34
        go_wp2_with fail
        go_quiet (fail)
        revert nq; intro n1
        go_wp2_with fail
        go_quiet (fail)
        revert nq; intro n2
        go_wp2_with fail
        have hcl := qend_close hq.out HX.out
        have HCL := Lib.hid hcl
        clear hcl
        by_cases h60 : 60 < acc.length
        · have h60' : (60 : Int) < acc.length := by omega
          refine (bld_len (w.heap.size + 1) (w.heap.size + 1) acc _ (bld_set (hB.out.draw _) (a := ⟨b, 1, none⟩) hbB _)).mono ?_
          rintro e w2 ⟨rfl, rfl⟩
          go_wp2_with fail
          refine ⟨rfl, ?_⟩
          unfold quotedW
          rw [HCL.out]
          simp only [h60, if_true]
          exact ⟨rfl, (ho.out.drewN _).set_ _ _⟩
        · have h60' : (acc.length : Int) ≤ 60 := by omega
          refine (bld_len (w.heap.size + 1) (w.heap.size + 1) acc _ (bld_set (hB.out.draw _) (a := ⟨b, 1, none⟩) hbB _)).mono ?_
          rintro e w2 ⟨rfl, rfl⟩
          go_wp2_with fail
          refine (bld_string (w.heap.size + 1) (w.heap.size + 1) acc _ (bld_set (hB.out.draw _) (a := ⟨b, 1, none⟩) hbB _) (by simp; omega)).mono ?_
          rintro e w3 ⟨rfl, hb3⟩
          have hR3 := Blk.below ((hR.out.drewN (n1 + n2)).far (p := ⟨b, 1, none⟩) (Nat.ne_of_gt hb) (.int .i64 (↑j + 1))) hb3 (Nat.lt_succ_self _)
          obtain ⟨c0, c1, c2, z0, z1, z2⟩ := hR3.cells3
          go_wp2_with fail
          refine bodyPost_ret (tok_result rfl _ _ w.heap.size _ rfl (hR3.three _ _ _) rfl) rfl ?_
          unfold quotedW
          rw [HCL.out]
          simp only [h60, if_false]
          have hr3 : RdAt w3 b s (j + 1) := Blk.below (Blk.set_ (hr.out.drewN (n1 + n2)) 1 (.int .i64 (↑j + 1))) hb3 (by omega)
          have ho3 := (ho.out.drewN (n1 + n2)).set_ 1 (.int .i64 (↑j + 1))
          have ho4 : Only b w w3 := ho3.thenBelowB hb3 (by omega)
          refine ⟨rfl, ?_, ?_⟩
          · have : i + 1 + (j - i) = j + 1 := by have := hq.out.1; omega
            rw [this]
            exact (((Blk.far hr3 (Nat.ne_of_lt hb) _).far (Nat.ne_of_lt hb) _).far (Nat.ne_of_lt hb) _)
          · exact ((ho4.setNew (Nat.le_refl _) _).setNew (Nat.le_refl _) _).setNew (Nat.le_refl _) _
      · have e1 : ((x.toNat : Int) == 34) = false := u8_ne (by decide) h34
        by_cases h92 : x = 92
        · have e2 : ((x.toNat : Int) == 92) = true := by rw [h92]; rfl
          have HX : Hid (s.data.toList[j]? = some 92) := by rw [← h92]; exact HX
          clear h92 h34
          by_cases hl2 : j + 1 < s.size
          · obtain ⟨y, hy⟩ : ∃ y, s.data.toList[j + 1]? = some y := ⟨_, List.getElem?_eq_getElem (by rw [← HZ.out]; exact hl2)⟩
            have hidy := str_index s (j + 1) y hy
            have HY := Lib.hid hy
            clear hy
            have hl2' : (j : Int) + 1 < s.size := by omega
            simp only [Int.natCast_add, Int.cast_ofNat_Int] at hidy
            have hd : decide ((s.size : Int) ≤ (j : Int) + 1) = false := by simp; omega
            by_cases hyy : y = 34 ∨ y = 92
            · have hqi := Lib.hid (qinv_esc hq.out HX.out HY.out hyy)
              have hf : (((y.toNat : Int) != 34) = false ∨ (((y.toNat : Int) != 34) = true ∧ ((y.toNat : Int) != 92) = false)) ∧ (32 : Int) ≤ y.toNat ∧ (y.toNat : Int) ≤ 126 := by
                rcases hyy with rfl | rfl <;> decide
              clear hyy
              obtain ⟨hff, hf3, hf4⟩ := hf
              rcases hff with hf1 | ⟨hf1, hf2⟩
              all_goals
                go_wp2_with fail
                go_quiet (fail)
                revert nq; intro n1
                go_wp2_with fail
                go_quiet (fail)
                revert nq; intro n2
                go_wp2_with fail
                go_quiet (fail)
                revert nq; intro n3
                go_wp2_with fail
                go_quiet (fail)
                revert nq; intro n4
                go_wp2_with fail
                refine (writeByte_c (w.heap.size + 1) (w.heap.size + 1) acc _ _ (Bld.draw (bld_set (hB.out.draw _) (a := ⟨b, 1, none⟩) hbB _) _) (by omega) (by simp; omega)).mono ?_
                rintro e w3 ⟨rfl, hB3, hb3⟩
                have HB3 := Lib.hid hB3
                have hs3 := hb3.size
                simp only [World.size_setCell, World.heap_drewN] at hs3
                have hr3 : RdAt w3 b s (j + 1) := Blk.below (Blk.drewN (Blk.set_ (hr.out.drewN _) 1 (.int .i64 (↑j + 1))) _) hb3 (by omega)
                have HR3 := Lib.hid hr3
                have ho3 := Lib.hid ((((ho.out.drewN _).set_ 1 (.int .i64 (↑j + 1))).drewN _).thenBelowB hb3 (by omega))
                have hR3 := Lib.hid (Blk.below (Blk.drewN ((hR.out.drewN _).far (p := ⟨b, 1, none⟩) (Nat.ne_of_gt hb) (.int .i64 (↑j + 1))) _) hb3 (Nat.lt_succ_self _))
                clear hB3 hb3 hr3
                obtain ⟨d0, d1, y1⟩ := HR3.out.cells
                go_wp2_with fail
                refine ⟨⟨j + 2, acc ++ [y], by omega, by simp; omega, by simp; omega, Lib.hid ?_, Lib.hid (ho3.out.set_ _ _), Lib.hid (hR3.out.far (Nat.ne_of_gt hb) _), Lib.hid (bld_set HB3.out (a := ⟨b, 1, none⟩) hbB _), hqi⟩, ?_⟩
                · exact Blk.set_ HR3.out 1 _
                · rw [cellNat_eq hc1, cellNat_eq (k := .i64) (n := j + 2) (by rw [Blk.cell (Blk.set_ HR3.out 1 _) 1]; rfl)]
                  omega
            · have hbad := Lib.hid (qend_esc_bad hq.out HX.out HY.out (fun e => hyy (.inl e)) (fun e => hyy (.inr e)))
              have hf1 : ((y.toNat : Int) != 34) = true := by have h := u8_ne (n := 34) (by decide) (fun e => hyy (.inl e)); exact (congrArg (!·) h : _)
              have hf2 : ((y.toNat : Int) != 92) = true := by have h := u8_ne (n := 92) (by decide) (fun e => hyy (.inr e)); exact (congrArg (!·) h : _)
              clear hyy
              go_wp2_with fail
              go_quiet (fail)
              revert nq; intro n1
              go_wp2_with fail
              go_quiet (fail)
              revert nq; intro n2
              go_wp2_with fail
              go_quiet (fail)
              revert nq; intro n3
              go_wp2_with fail
              refine ⟨rfl, ?_⟩
              unfold quotedW
              rw [hbad.out]
              exact ⟨rfl, ((ho.out.drewN _).set_ _ _).drewN _⟩
          · have hbad := Lib.hid (qend_esc_end hq.out HX.out (by rw [← HZ.out]; omega))
            have hd : decide ((s.size : Int) ≤ (j : Int) + 1) = true := by simp; omega
            go_wp2_with fail
            go_quiet (fail)
            revert nq; intro n1
            go_wp2_with fail
            go_quiet (fail)
            revert nq; intro n2
            go_wp2_with fail
            go_quiet (fail)
            revert nq; intro n3
            go_wp2_with fail
            refine ⟨rfl, ?_⟩
            unfold quotedW
            rw [hbad.out]
            exact ⟨rfl, ((ho.out.drewN _).set_ _ _).drewN _⟩
        · have e2 : ((x.toNat : Int) == 92) = false := u8_ne (by decide) h92
          by_cases hp : (32 : Int) ≤ x.toNat ∧ (x.toNat : Int) ≤ 126
          · have hpl : plainByte x = true := by unfold plainByte; simpa using hp
            have hqi := Lib.hid (qinv_plain hq.out HX.out h34 h92 hpl)
            clear hpl h34 h92
            obtain ⟨hp1, hp2⟩ := hp
            go_wp2_with fail
            go_quiet (fail)
            revert nq; intro n1
            go_wp2_with fail
            go_quiet (fail)
            revert nq; intro n2
            go_wp2_with fail
            refine (writeByte_c (w.heap.size + 1) (w.heap.size + 1) acc _ _ (hB.out.draw _) (by omega) (by simp; omega)).mono ?_
            rintro e w3 ⟨rfl, hB3, hb3⟩
            have HB3 := Lib.hid hB3
            have hs3 := hb3.size
            simp only [World.heap_drewN] at hs3
            have hr3 : RdAt w3 b s j := Blk.below (hr.out.drewN _) hb3 (by omega)
            have HR3 := Lib.hid hr3
            have ho3 := Lib.hid ((ho.out.drewN _).thenBelowB hb3 (by omega))
            have hR3 := Lib.hid (Blk.below (hR.out.drewN _) hb3 (Nat.lt_succ_self _))
            clear hB3 hb3 hr3
            obtain ⟨d0, d1, y1⟩ := HR3.out.cells
            go_wp2_with fail
            refine ⟨⟨j + 1, acc ++ [x], by omega, by simp; omega, by simp; omega, Lib.hid ?_, Lib.hid (ho3.out.set_ _ _), Lib.hid (hR3.out.far (Nat.ne_of_gt hb) _), Lib.hid (bld_set HB3.out (a := ⟨b, 1, none⟩) hbB _), hqi⟩, ?_⟩
            · exact Blk.set_ HR3.out 1 _
            · rw [cellNat_eq hc1, cellNat_eq (k := .i64) (n := j + 1) (by rw [Blk.cell (Blk.set_ HR3.out 1 _) 1]; rfl)]
              omega
          · have hpl : plainByte x = false := by unfold plainByte; simp only [decide_eq_false_iff_not]; exact hp
            have hbad := Lib.hid (qend_bad hq.out HX.out h34 h92 hpl)
            clear hpl h34 h92
            by_cases hp1 : (x.toNat : Int) < 32
            · go_wp2_with fail
              go_quiet (fail)
              revert nq; intro n1
              go_wp2_with fail
              go_quiet (fail)
              revert nq; intro n2
              go_wp2_with fail
              refine ⟨rfl, ?_⟩
              unfold quotedW
              rw [hbad.out]
              exact ⟨rfl, ho.out.drewN _⟩
            · have hp2 : (126 : Int) < x.toNat := by omega
              go_wp2_with fail
              go_quiet (fail)
              revert nq; intro n1
              go_wp2_with fail
              go_quiet (fail)
              revert nq; intro n2
              go_wp2_with fail
              refine ⟨rfl, ?_⟩
              unfold quotedW
              rw [hbad.out]
              exact ⟨rfl, ho.out.drewN _⟩
    · have hbad := Lib.hid (qend_end hq.out (by rw [← HZ.out]; omega))
      have hge : (s.size : Int) ≤ j := by omega
      go_wp2_with fail
      go_quiet (fail)
      revert nq; intro n1
      go_wp2_with fail
      refine ⟨rfl, ?_⟩
      unfold quotedW
      rw [hbad.out]
      exact ⟨rfl, ho.out.drewN _⟩
end Go.Proofs.YtfaadlfaimhbbaaGreatDoor

namespace Go.Proofs.YtfaadlfaimhbbaaGreatDoor
open Go.RowKit

/-- The signs in the order in which they are tried. -/
def signsL : List (List UInt8) := [[58, 58], [61, 61], [60, 61], [38, 38], [124, 124], [40], [41], [91], [93], [123], [125], [44], [58], [46], [60], [33], [43], [45], [42]]
def signOf (l : List UInt8) : List UInt8 := (signsL.find? fun x => Lib.hasPrefix l x).getD []

def signsV : List Value := signsL.map fun x => Value.string ⟨x.toArray⟩

theorem hasPrefix_c (s p : ByteArray) (w : World) : Calls Tryz.prog 158 #[.string s, .string p] w fun e w' => e = .returned (.bool (Lib.hasPrefix s.data.toList p.data.toList)) ∧ w = w' :=
  (Tryz.strings_HasPrefix s p w).mono fun _ _ ⟨he, hw⟩ => ⟨he, hw.symm⟩

theorem find_step {α : Type} {l : List α} {p : α → Bool} {k : Nat} {x : α} (hx : l[k]? = some x) (hk : ∀ (j : Nat) (y : α), j < k → l[j]? = some y → p y = false) (hp : p x = true) : l.find? p = some x := by
  induction l generalizing k with
  | nil => simp at hx
  | cons a l ih =>
    cases k with
    | zero => simp at hx; subst hx; simp [hp]
    | succ k =>
      have h0 := hk 0 a (by omega) rfl
      simp only [List.find?_cons, h0]
      exact ih (by simpa using hx) fun j y hj hy => hk (j + 1) y (by omega) (by simpa using hy)
theorem find_none {α : Type} {l : List α} {p : α → Bool} (hk : ∀ (j : Nat) (y : α), l[j]? = some y → p y = false) : l.find? p = none := by
  rw [List.find?_eq_none]
  intro x hx
  obtain ⟨j, hj⟩ := List.getElem?_of_mem hx
  rw [hk j x hj]; simp

set_option maxRecDepth 100000 in
set_option maxHeartbeats 1000000 in
theorem sign_c (s : ByteArray) (w : World) :
    Calls Tryz.prog 140 #[.string s] w fun e w' => e = .returned (.string ⟨(signOf s.data.toList).toArray⟩) ∧ Below w.heap.size w w' := by
  go_enter Tryz.func140, Tryz.ntmps140
  go_wp2_with fail
  refine name_world ?_
  intro w1 hw1
  have hblk : Blk w1 w.heap.size 9 signsV.toArray := by rw [hw1]; exact Blk.new w _ _
  have hb1 : Below w.heap.size w w1 := by rw [hw1]; exact (Below.refl _ _).alloc (Nat.le_refl _) _
  have HC : Hid (∀ (k : Nat) (x : List UInt8), signsL[k]? = some x → w1.cell? ⟨w.heap.size, k, none⟩ = some (.string ⟨x.toArray⟩)) := by
    intro k x hx
    rw [Blk.cell hblk k]
    simp [signsV, hx]
  clear hw1 hblk
  go_loop [7] (fun i => ∃ k : Nat, k ≤ 19 ∧ i = .int .i64 k ∧ Hid (∀ (j : Nat) (y : List UInt8), j < k → signsL[j]? = some y → Lib.hasPrefix s.data.toList y = false)) (fun i => 19 - (intOf i).toNat)
  case atStart => exact ⟨0, by omega, rfl, fun j y h => absurd h (by omega)⟩
  case round =>
    obtain ⟨k, hk, rfl, hno⟩ := hrel
    by_cases hlt : k < 19
    · obtain ⟨x, hx⟩ : ∃ x, signsL[k]? = some x := ⟨_, List.getElem?_eq_getElem hlt⟩
      have hcx := HC.out k x hx
      have hlt' : (k : Int) < 19 := by omega
      have HX := Lib.hid hx
      clear hx
      cases hp : Lib.hasPrefix s.data.toList x with
      | true =>
        have HP := Lib.hid hp
        clear hp
        go_wp2_with fail
        refine (hasPrefix_c _ _ _).mono ?_
        rintro e w' ⟨rfl, rfl⟩
        rw [HP.out]
        go_wp2_with fail
        go_ret
        refine ⟨ret_val ?_, hb1⟩
        have hf := find_step (p := fun x => Lib.hasPrefix s.data.toList x) HX.out hno.out HP.out
        simp only [signOf, hf]
        rfl
      | false =>
        have HP := Lib.hid hp
        clear hp
        go_wp2_with fail
        refine (hasPrefix_c _ _ _).mono ?_
        rintro e w' ⟨rfl, rfl⟩
        rw [HP.out]
        go_wp2_with fail
        go_round
        case rel =>
          refine ⟨k + 1, by omega, by go_num, fun j y hj hy => ?_⟩
          rcases Nat.lt_or_ge j k with h | h
          · exact hno.out j y h hy
          · have : j = k := by omega
            subst this
            have := HX.out
            rw [hy] at this
            injection this with this
            rw [this]; exact HP.out
        case measure => simp [intOf]; omega
    · have hge : (19 : Int) ≤ k := by omega
      go_wp2_with fail
      go_ret
      refine ⟨ret_val ?_, hb1⟩
      have hf : (signsL.find? fun x => Lib.hasPrefix s.data.toList x) = none := find_none fun j y hy => hno.out j y (by have h1 := lt_of_some hy; have h2 : signsL.length = 19 := rfl; omega) hy
      simp only [signOf, hf]
      rfl
end Go.Proofs.YtfaadlfaimhbbaaGreatDoor

namespace Go.Proofs.YtfaadlfaimhbbaaGreatDoor
open Go.RowKit

def numT (s : ByteArray) (i : Nat) : List UInt8 := Lib.trimLeftB (s.extract i (i + runLen digitI s.data.toList i)).data.toList 48
def numberW (s : ByteArray) (i : Nat) : WRes :=
  if 19 < (numT s i).length then .bad 4 i
  else .ok ⟨2, ⟨(if numT s i = [] then [48] else numT s i).toArray⟩, i⟩ (i + runLen digitI s.data.toList i)
def signW (s : ByteArray) (i : Nat) : WRes :=
  if signOf (s.data.toList.drop i) = [] then .bad 1 i
  else .ok ⟨5, ⟨(signOf (s.data.toList.drop i)).toArray⟩, i⟩ (i + (signOf (s.data.toList.drop i)).length)
def wordW (s : ByteArray) (i : Nat) : WRes :=
  match s.data.toList[i]? with
  | none => .bad 0 i
  | some c =>
    if digitI c.toNat then numberW s i
    else if inNameI c.toNat then namedW 1 s i i
    else if c = 34 then quotedW s i
    else if c = 63 then namedW 4 s (i + 1) i
    else signW s i

theorem trimLeft_c (s : ByteArray) (w : World) : Calls Tryz.prog 136 #[.string s, .string ⟨#[48]⟩] w fun e w' => e = .returned (.string ⟨(Lib.trimLeftB s.data.toList 48).toArray⟩) ∧ w = w' :=
  (Tryz.strings_TrimLeft_one s 48 (by decide) w).mono fun _ _ ⟨he, hw⟩ => ⟨he, hw.symm⟩

theorem tok_new {b : Nat} {s : ByteArray} {i : Nat} {w w1 : World} (hb : b < w.heap.size) (_hr : RdAt w1 b s i) (ho : Only b (w.alloc (.cells #[.int .i64 0, .string ⟨#[]⟩, .int .i64 0] 34)) w1) :
    Blk w1 w.heap.size 34 #[.int .i64 0, .string ⟨#[]⟩, .int .i64 0] := ho.blk (Blk.new _ _ _) (Nat.ne_of_gt hb)

/-- The end of a way that stores a token into the result's slot. -/
theorem tok_end {b : Nat} {s : ByteArray} {i : Nat} {w w1 : World} {o : Obj} (hb : b < w.heap.size) (hr : RdAt w1 b s i) (ho : Only b (w.alloc o) w1) (t : Tok) :
    WordPost b s w (.ok t i) (.returned t.val) (((w1.setCell ⟨w.heap.size, 0, none⟩ (.int .i64 t.kind)).setCell ⟨w.heap.size, 1, none⟩ (.string t.s)).setCell ⟨w.heap.size, 2, none⟩ (.int .i64 t.pos)) :=
  ⟨rfl, ((Blk.far hr (Nat.ne_of_lt hb) _).far (Nat.ne_of_lt hb) _).far (Nat.ne_of_lt hb) _,
    (((((Only.refl b w).alloc _).trans ho).setNew (Nat.le_refl _) _).setNew (Nat.le_refl _) _).setNew (Nat.le_refl _) _⟩

set_option maxRecDepth 100000 in
set_option maxHeartbeats 1000000 in
theorem word_digit (b : Nat) (s : ByteArray) (i : Nat) (w : World) (hs : s.size ≤ 100000000) (h : RdAt w b s i) (c : UInt8) (hx : s.data.toList[i]? = some c) (hd : digitI c.toNat = true) :
    Calls Tryz.prog 109 #[.pointer (some ⟨b, 0, none⟩)] w (WordPost b s w (numberW s i)) := by
  have hb := Blk.lt h
  have hi : i ≤ s.size := by have := lt_of_some hx; rw [Lib.size_eq]; omega
  obtain ⟨hc0, hc1, hz1⟩ := h.cells
  have hidx := str_index s i c hx
  have HD := Lib.hid hd
  have HX := Lib.hid hx
  clear hd hx
  have hlt : (i : Int) < s.size := by have := lt_of_some HX.out; have := Lib.size_eq s; omega
  obtain ⟨T, hT, hTn⟩ : ∃ T : ByteArray, T = ⟨(numT s i).toArray⟩ ∧ T.data.toList = numT s i := ⟨_, rfl, rfl⟩
  have hTs : T.size = (numT s i).length := by rw [Lib.size_eq, hTn]
  have cT : ∀ w : World, Calls Tryz.prog 136 #[.string (s.extract i (i + runLen digitI s.data.toList i)), .string ⟨#[48]⟩] w fun e w' => e = .returned (.string T) ∧ w = w' := by
    intro w; rw [hT]; exact trimLeft_c _ w
  have CT := Lib.hid cT
  have HT := Lib.hid hT
  have HTN := Lib.hid hTn
  have HTS := Lib.hid hTs
  clear cT hT hTn hTs
  by_cases h19 : 19 < T.size
  · have h19' : (19 : Int) < T.size := by omega
    go_enter Tryz.func109, Tryz.ntmps109
    go_wp2_with fail
    go_quiet (fail)
    go_wp2_with fail
    refine (wdigit_c _ _).mono ?_
    rintro e w' ⟨rfl, rfl⟩
    rw [HD.out]
    go_wp2_with fail
    refine (while_c 135 digitI enters_digit wdigit_c b s i _ (by omega) hi (Blk.drewN (Blk.alloc h _) _)).mono ?_
    rintro e w1 ⟨rfl, hr1, ho1⟩
    have HR1 := Lib.hid hr1
    have HO1 := Lib.hid ho1
    clear hr1 ho1
    go_wp2_with fail
    refine (CT.out _).mono ?_
    rintro e w' ⟨rfl, rfl⟩
    go_wp2_with fail
    refine ⟨rfl, ?_⟩
    unfold numberW
    rw [if_pos (by rw [← HTS.out]; exact h19)]
    exact ⟨rfl, (((Only.refl b w).alloc _).drewN _).trans HO1.out⟩
  · have h19' : (T.size : Int) ≤ 19 := by omega
    have hnw : numberW s i = .ok ⟨2, ⟨(if numT s i = [] then [48] else numT s i).toArray⟩, i⟩ (i + runLen digitI s.data.toList i) := by
      unfold numberW; rw [if_neg (by rw [← HTS.out]; exact h19)]
    rw [hnw]
    clear hnw
    have hTl : T.toList = numT s i := by rw [Lib.toList_data, HTN.out]
    by_cases hem : numT s i = []
    · rw [if_pos hem]
      have hl : T.toList = [] := by rw [hTl, hem]
      clear hTl hem
      go_enter Tryz.func109, Tryz.ntmps109
      go_wp2_with fail
      go_quiet (fail)
      go_wp2_with fail
      refine (wdigit_c _ _).mono ?_
      rintro e w' ⟨rfl, rfl⟩
      rw [HD.out]
      go_wp2_with fail
      refine (while_c 135 digitI enters_digit wdigit_c b s i _ (by omega) hi (Blk.drewN (Blk.alloc h _) _)).mono ?_
      rintro e w1 ⟨rfl, hr1, ho1⟩
      have HR1 := Lib.hid hr1
      have HO1 := Lib.hid ho1
      have hR := tok_new hb hr1 ((((Only.refl b _).drewN _).trans ho1))
      clear hr1 ho1
      go_wp2_with fail
      refine (CT.out _).mono ?_
      rintro e w' ⟨rfl, rfl⟩
      obtain ⟨q0, q1, q2, z0, z1, z2⟩ := hR.cells3
      have HQ := Lib.hid hR
      clear hR
      go_wp2_with fail
      refine bodyPost_ret (tok_result rfl _ _ w.heap.size _ rfl (HQ.out.three _ _ _) rfl) rfl ?_
      exact tok_end hb HR1.out (((Only.refl b _).drewN _).trans HO1.out) ⟨2, ⟨#[48]⟩, i⟩
    · rw [if_neg hem]
      have hl : T.toList.isEmpty = false := by rw [hTl]; cases hn : numT s i with | nil => exact absurd hn hem | cons => rfl
      clear hTl hem
      go_enter Tryz.func109, Tryz.ntmps109
      go_wp2_with fail
      go_quiet (fail)
      go_wp2_with fail
      refine (wdigit_c _ _).mono ?_
      rintro e w' ⟨rfl, rfl⟩
      rw [HD.out]
      go_wp2_with fail
      refine (while_c 135 digitI enters_digit wdigit_c b s i _ (by omega) hi (Blk.drewN (Blk.alloc h _) _)).mono ?_
      rintro e w1 ⟨rfl, hr1, ho1⟩
      have HR1 := Lib.hid hr1
      have HO1 := Lib.hid ho1
      have hR := tok_new hb hr1 ((((Only.refl b _).drewN _).trans ho1))
      clear hr1 ho1
      go_wp2_with fail
      refine (CT.out _).mono ?_
      rintro e w' ⟨rfl, rfl⟩
      obtain ⟨q0, q1, q2, z0, z1, z2⟩ := hR.cells3
      have HQ := Lib.hid hR
      clear hR
      go_wp2_with fail
      refine bodyPost_ret (tok_result rfl _ _ w.heap.size _ rfl (HQ.out.three _ _ _) rfl) rfl ?_
      rw [← HT.out]
      exact tok_end hb HR1.out (((Only.refl b _).drewN _).trans HO1.out) ⟨2, T, i⟩
end Go.Proofs.YtfaadlfaimhbbaaGreatDoor
