/-
  Reading as a relation: what stands at a place is an expression, and where it ends; a rule for each form.
  PhraseLeft in plain Lean: three expressions in brackets with the same sign between are read from the left.
  PhraseLeft: the law's walk.
  Arguments that are words or nodes, opened to what the walks ask of them.
-/
import Derived.Test.YtfaadlfaimhbbaaGreatDoorM6
import Derived.Test.YtfaadlfaimhbbaaGreatDoorM7
namespace Go.Proofs.YtfaadlfaimhbbaaGreatDoor
open Go.RowKit

def Rd (us : List Tok) (pf : PF) (i : Nat) (ns : List Node) (j : Nat) : Prop := ∃ f, run us f pf i = some (.ok (ns, j))
section
variable {us : List Tok} {i j k l : Nat} {a b c e x r acc : List Node}
theorem isAt_tok {t : Tok} (ht : us[i]? = some t) (s : List UInt8) : isAt us i s = ((t.kind == 1 || t.kind == 5) && t.s.toList == s) := by unfold isAt; rw [ht]
theorem isAt_one {s s' : List UInt8} (h : isAt us i s = true) (hne : s ≠ s') : isAt us i s' = false := by
  unfold isAt at h ⊢
  cases ht : us[i]? with
  | none => rfl
  | some t =>
    rw [ht] at h
    simp only [Bool.and_eq_true, beq_iff_eq] at h
    simp only [Bool.and_eq_false_iff, beq_eq_false_iff_ne]
    right
    rw [h.2]; exact hne
theorem isAt_some {s : List UInt8} (h : isAt us i s = true) : ∃ t, us[i]? = some t ∧ (t.kind = 1 ∨ t.kind = 5) ∧ t.s.toList = s := by
  unfold isAt at h
  cases ht : us[i]? with
  | none => rw [ht] at h; cases h
  | some t =>
    rw [ht] at h
    simp only [Bool.and_eq_true, Bool.or_eq_true, beq_iff_eq] at h
    exact ⟨t, rfl, h.1, h.2⟩
theorem Rd.whole_if (h0 : isAt us i [105, 102] = true) (h1 : isAt us (i + 1) [58, 58] = false) (hc : Rd us .whole (i + 1) c j) (ht : isAt us j [116, 104, 101, 110] = true)
    (ha : Rd us .whole (j + 1) a k) (he : isAt us k [101, 108, 115, 101] = true) (hb : Rd us .whole (k + 1) b l) : Rd us .whole i (opN 13 :: (c ++ (a ++ b))) l := by
  obtain ⟨f1, e1⟩ := hc
  obtain ⟨f2, e2⟩ := ha
  obtain ⟨f3, e3⟩ := hb
  refine ⟨max f1 (max f2 f3) + 1, ?_⟩
  unfold run
  rw [if_pos (by rw [h0, h1]; rfl), run_le e1 (by omega), PR.then_ok, needP, if_pos ht, run_le e2 (by omega), PR.then_ok, needP, if_pos he, run_le e3 (by omega), PR.then_ok]
theorem Rd.whole (h : (isAt us i [105, 102] && !isAt us (i + 1) [58, 58]) = false) (he : Rd us .either i e j) : Rd us .whole i e j := by
  obtain ⟨f, h1⟩ := he
  refine ⟨f + 1, ?_⟩
  unfold run
  rw [if_neg (by rw [h]; decide)]; exact h1
theorem Rd.either (ha : Rd us .both i e j) (hr : Rd us (.chain .or_ e) j r k) : Rd us .either i r k := by
  obtain ⟨f1, e1⟩ := ha
  obtain ⟨f2, e2⟩ := hr
  refine ⟨max f1 f2 + 1, ?_⟩
  unfold run
  rw [run_le e1 (by omega), PR.then_ok]; exact run_le e2 (by omega)
theorem Rd.both (ha : Rd us .rel i e j) (hr : Rd us (.chain .and_ e) j r k) : Rd us .both i r k := by
  obtain ⟨f1, e1⟩ := ha
  obtain ⟨f2, e2⟩ := hr
  refine ⟨max f1 f2 + 1, ?_⟩
  unfold run
  rw [run_le e1 (by omega), PR.then_ok]; exact run_le e2 (by omega)
theorem Rd.sum (ha : Rd us .prod i e j) (hr : Rd us (.chain .add_ e) j r k) : Rd us .sum i r k := by
  obtain ⟨f1, e1⟩ := ha
  obtain ⟨f2, e2⟩ := hr
  refine ⟨max f1 f2 + 1, ?_⟩
  unfold run
  rw [run_le e1 (by omega), PR.then_ok]; exact run_le e2 (by omega)
theorem Rd.prod (ha : Rd us .sign i e j) (hr : Rd us (.chain .mul_ e) j r k) : Rd us .prod i r k := by
  obtain ⟨f1, e1⟩ := ha
  obtain ⟨f2, e2⟩ := hr
  refine ⟨max f1 f2 + 1, ?_⟩
  unfold run
  rw [run_le e1 (by omega), PR.then_ok]; exact run_le e2 (by omega)
/-- A chain goes on here? -/
def goesOn (us : List Tok) (i : Nat) (L : CL) : Bool :=
  match us[i]? with
  | none => false
  | some t => t.kind == 5 && (L.sign t.s.toList).isSome
theorem Rd.stop {L : CL} (h : goesOn us i L = false) : Rd us (.chain L acc) i acc i := by
  refine ⟨1, ?_⟩
  unfold run
  unfold goesOn at h
  cases ht : us[i]? with
  | none => rfl
  | some t =>
    rw [ht] at h
    simp only at h ⊢
    by_cases hk : t.kind = 5
    · rw [if_pos hk]
      cases hs : L.sign t.s.toList with
      | none => rfl
      | some o => rw [hs, hk] at h; cases h
    · rw [if_neg hk]
theorem Rd.more {L : CL} {t : Tok} {o : Int} (ht : us[i]? = some t) (hk : t.kind = 5) (hs : L.sign t.s.toList = some o) (hx : Rd us L.part (i + 1) x j) (hr : Rd us (.chain L (opN o :: (acc ++ x))) j r k) : Rd us (.chain L acc) i r k := by
  obtain ⟨f1, e1⟩ := hx
  obtain ⟨f2, e2⟩ := hr
  refine ⟨max f1 f2 + 1, ?_⟩
  unfold run
  rw [ht]
  simp only [hk, hs, if_true]
  rw [run_le e1 (by omega), PR.then_ok]; exact run_le e2 (by omega)
/-- A word of a rel stands here? -/
def relAt (us : List Tok) (i : Nat) : Bool := isAt us i [61, 61] || isAt us i [60] || isAt us i [60, 61] || isAt us i [105, 110] || isAt us i [104, 97, 115] || isAt us i [105, 115] || isAt us i [108, 105, 107, 101]
theorem Rd.rel (he : Rd us .sum i e j) (h : relAt us j = false) : Rd us .rel i e j := by
  obtain ⟨f, h1⟩ := he
  refine ⟨f + 1, ?_⟩
  unfold relAt at h
  simp only [Bool.or_eq_false_iff] at h
  obtain ⟨⟨⟨⟨⟨⟨q1, q2⟩, q3⟩, q4⟩, q5⟩, q6⟩, q7⟩ := h
  unfold run
  rw [h1, PR.then_ok]
  simp only [q1, q2, q3, q4, q5, q6, q7, Bool.false_eq_true, if_false]
/-- The word of a rel with two parts. -/
def relOp (s : List UInt8) : Option Int := if s = [61, 61] then some 14 else if s = [60] then some 15 else if s = [60, 61] then some 16 else if s = [105, 110] then some 20 else none
theorem Rd.rel_two {s : List UInt8} {o : Int} (he : Rd us .sum i e j) (h : isAt us j s = true) (ho : relOp s = some o) (hx : Rd us .sum (j + 1) x k) : Rd us .rel i (opN o :: (e ++ x)) k := by
  obtain ⟨f1, e1⟩ := he
  obtain ⟨f2, e2⟩ := hx
  refine ⟨max f1 f2 + 1, ?_⟩
  unfold run
  rw [run_le e1 (by omega), PR.then_ok]
  unfold relOp at ho
  by_cases h1 : s = [61, 61]
  · rw [if_pos h1] at ho; injection ho with ho; subst h1; subst ho
    rw [if_pos h, run_le e2 (by omega), PR.then_ok]
  rw [if_neg h1] at ho
  rw [if_neg (by rw [isAt_one h h1]; decide)]
  by_cases h2 : s = [60]
  · rw [if_pos h2] at ho; injection ho with ho; subst h2; subst ho
    rw [if_pos h, run_le e2 (by omega), PR.then_ok]
  rw [if_neg h2] at ho
  rw [if_neg (by rw [isAt_one h h2]; decide)]
  by_cases h3 : s = [60, 61]
  · rw [if_pos h3] at ho; injection ho with ho; subst h3; subst ho
    rw [if_pos h, run_le e2 (by omega), PR.then_ok]
  rw [if_neg h3] at ho
  rw [if_neg (by rw [isAt_one h h3]; decide)]
  by_cases h4 : s = [105, 110]
  · rw [if_pos h4] at ho; injection ho with ho; subst h4; subst ho
    rw [if_pos h, run_le e2 (by omega), PR.then_ok]
  rw [if_neg h4] at ho; cases ho
/-- The word of a rel with one part, and the kind of the word behind it. -/
def relWord (s : List UInt8) : Option (Int × Int) := if s = [104, 97, 115] then some (21, 1) else if s = [105, 115] then some (24, 1) else if s = [108, 105, 107, 101] then some (23, 3) else none
theorem Rd.rel_one {s : List UInt8} {o kd : Int} {t : Tok} (he : Rd us .sum i e j) (h : isAt us j s = true) (ho : relWord s = some (o, kd)) (ht : us[j + 1]? = some t) (hk : t.kind = kd) : Rd us .rel i (⟨o, 0, t.s, ⟨#[]⟩⟩ :: e) (j + 2) := by
  obtain ⟨f1, e1⟩ := he
  refine ⟨f1 + 1, ?_⟩
  have w1 : s ≠ [61, 61] ∧ s ≠ [60] ∧ s ≠ [60, 61] ∧ s ≠ [105, 110] := by
    refine ⟨?_, ?_, ?_, ?_⟩ <;> rintro rfl <;> cases ho
  unfold run
  rw [e1, PR.then_ok, if_neg (by rw [isAt_one h w1.1]; decide), if_neg (by rw [isAt_one h w1.2.1]; decide), if_neg (by rw [isAt_one h w1.2.2.1]; decide), if_neg (by rw [isAt_one h w1.2.2.2]; decide)]
  unfold relWord at ho
  by_cases h1 : s = [104, 97, 115]
  · rw [if_pos h1] at ho; injection ho with ho; injection ho with ho1 ho2; subst h1; subst ho1; subst ho2
    rw [if_pos h, wordP, ht]; simp only [hk, if_true]
  rw [if_neg h1] at ho
  rw [if_neg (by rw [isAt_one h h1]; decide)]
  by_cases h2 : s = [105, 115]
  · rw [if_pos h2] at ho; injection ho with ho; injection ho with ho1 ho2; subst h2; subst ho1; subst ho2
    rw [if_pos h, wordP, ht]; simp only [hk, if_true]
  rw [if_neg h2] at ho
  rw [if_neg (by rw [isAt_one h h2]; decide)]
  by_cases h3 : s = [108, 105, 107, 101]
  · rw [if_pos h3] at ho; injection ho with ho; injection ho with ho1 ho2; subst h3; subst ho1; subst ho2
    rw [if_pos h, wordP, ht]; simp only [hk, if_true]
  rw [if_neg h3] at ho; cases ho
theorem Rd.sign_not (h : isAt us i [33] = true) (hx : Rd us .sign (i + 1) x j) : Rd us .sign i (opN 9 :: x) j := by
  obtain ⟨f, e1⟩ := hx
  refine ⟨f + 1, ?_⟩
  unfold run
  rw [if_pos h, e1, PR.then_ok]
theorem Rd.sign_neg (h : isAt us i [45] = true) (hk : kindAt us (i + 1) ≠ 2) (hx : Rd us .sign (i + 1) x j) : Rd us .sign i (opN 10 :: x) j := by
  obtain ⟨f, e1⟩ := hx
  refine ⟨f + 1, ?_⟩
  unfold run
  rw [if_neg (by rw [isAt_one h (by decide)]; decide), if_pos (by rw [h, beq_eq_false_iff_ne.2 hk]; rfl), e1, PR.then_ok]
theorem Rd.sign (h1 : isAt us i [33] = false) (h2 : (isAt us i [45] && !(kindAt us (i + 1) == 2)) = false) (hx : Rd us .post i x j) : Rd us .sign i x j := by
  obtain ⟨f, e1⟩ := hx
  refine ⟨f + 1, ?_⟩
  unfold run
  rw [if_neg (by rw [h1]; decide), if_neg (by rw [h2]; decide)]; exact e1
theorem Rd.post (ha : Rd us .atom i e j) (hr : Rd us (.posts e) j r k) : Rd us .post i r k := by
  obtain ⟨f1, e1⟩ := ha
  obtain ⟨f2, e2⟩ := hr
  refine ⟨max f1 f2 + 1, ?_⟩
  unfold run
  rw [run_le e1 (by omega), PR.then_ok]; exact run_le e2 (by omega)
theorem Rd.posts_stop (h : isAt us i [46] = false) : Rd us (.posts acc) i acc i := by
  refine ⟨1, ?_⟩
  unfold run
  rw [if_neg (by rw [h]; decide)]
theorem Rd.posts_get {t : Tok} (h : isAt us i [46] = true) (ht : us[i + 1]? = some t) (hk : t.kind = 1) (ho : postOp t.s.toList = 0 ∨ isAt us (i + 2) [40] = false) (hr : Rd us (.posts (⟨22, 0, t.s, ⟨#[]⟩⟩ :: acc)) (i + 2) r k) : Rd us (.posts acc) i r k := by
  obtain ⟨f, e1⟩ := hr
  refine ⟨f + 1, ?_⟩
  unfold run
  rw [if_pos h, wordP, ht]
  simp only [hk, if_true]
  rw [if_pos (by rcases ho with ho | ho <;> simp [ho])]; exact e1
theorem Rd.posts_call {t : Tok} (h : isAt us i [46] = true) (ht : us[i + 1]? = some t) (hk : t.kind = 1) (ho : postOp t.s.toList ≠ 0) (h40 : isAt us (i + 2) [40] = true) (hx : Rd us .whole (i + 3) x j) (h41 : isAt us j [41] = true)
    (hr : Rd us (.posts (opN (postOp t.s.toList) :: (acc ++ x))) (j + 1) r k) : Rd us (.posts acc) i r k := by
  obtain ⟨f1, e1⟩ := hx
  obtain ⟨f2, e2⟩ := hr
  refine ⟨max f1 f2 + 1, ?_⟩
  unfold run
  rw [if_pos h, wordP, ht]
  simp only [hk, if_true]
  rw [if_neg (by simp [ho, h40]), run_le e1 (by omega), PR.then_ok, needP, if_pos h41]; exact run_le e2 (by omega)
theorem kind_tok {t : Tok} (ht : us[i]? = some t) : kindAt us i = t.kind := by unfold kindAt; rw [ht]
theorem Rd.number {t : Tok} {v : Int} (ht : us[i]? = some t) (hk : t.kind = 2) (hp : Lib.parseIntB 64 t.s.data.toList = .ok v) : Rd us .atom i [⟨2, v, ⟨#[]⟩, ⟨#[]⟩⟩] (i + 1) := by
  refine ⟨1, ?_⟩
  unfold run
  rw [kind_tok ht, if_pos hk, numberP, wordP, ht]
  simp only [hk, if_true, List.nil_append]
  rw [hp]
theorem Rd.minus {t : Tok} {v : Int} (h : isAt us i [45] = true) (h5 : kindAt us i = 5) (ht : us[i + 1]? = some t) (hk : t.kind = 2) (hp : Lib.parseIntB 64 ([45] ++ t.s.data.toList) = .ok v) : Rd us .atom i [⟨2, v, ⟨#[]⟩, ⟨#[]⟩⟩] (i + 2) := by
  refine ⟨1, ?_⟩
  unfold run
  rw [h5, if_neg (by decide), if_neg (by decide), if_neg (by decide), if_neg (by decide), if_pos h, numberP, wordP, ht]
  simp only [hk, if_true]
  rw [hp]
theorem Rd.quoted {t : Tok} (ht : us[i]? = some t) (hk : t.kind = 3) : Rd us .atom i [⟨3, 0, t.s, ⟨#[]⟩⟩] (i + 1) := by
  refine ⟨1, ?_⟩
  unfold run
  rw [kind_tok ht, if_neg (by rw [hk]; decide), if_pos hk, wordP, ht]
  simp only [hk, if_true]
theorem Rd.slot {t : Tok} (ht : us[i]? = some t) (hk : t.kind = 4) : Rd us .atom i [⟨8, 0, ⟨#[63]⟩ ++ t.s, ⟨#[]⟩⟩] (i + 1) := by
  refine ⟨1, ?_⟩
  unfold run
  rw [kind_tok ht, if_neg (by rw [hk]; decide), if_neg (by rw [hk]; decide), if_pos hk, wordP, ht]
  simp only [hk, if_true]
theorem Rd.named {t : Tok} (ht : us[i]? = some t) (hk : t.kind = 1) (hn : namedP us i = some (.ok (x, j))) : Rd us .atom i x j := by
  refine ⟨1, ?_⟩
  unfold run
  rw [kind_tok ht, if_neg (by rw [hk]; decide), if_neg (by rw [hk]; decide), if_neg (by rw [hk]; decide), if_pos hk]; exact hn
theorem Rd.uid {t u : Tok} (ht : us[i]? = some t) (hk : t.kind = 1) (h : isAt us (i + 1) [58, 58] = true) (hu : us[i + 2]? = some u) (hku : u.kind = 3) : Rd us .atom i [⟨4, 0, t.s, u.s⟩] (i + 3) := by
  refine .named ht hk ?_
  unfold namedP
  rw [if_pos h, wordP, ht]
  simp only [hk, if_true]
  rw [wordP, hu]
  simp only [hku, if_true]
theorem Rd.true_ (h1 : kindAt us i = 1) (h2 : isAt us i [116, 114, 117, 101] = true) (h : isAt us (i + 1) [58, 58] = false) : Rd us .atom i [⟨1, 1, ⟨#[]⟩, ⟨#[]⟩⟩] (i + 1) := by
  obtain ⟨t, ht, _⟩ := isAt_some h2
  rw [kind_tok ht] at h1
  refine .named ht h1 ?_
  unfold namedP
  rw [if_neg (by rw [h]; decide), if_pos h2]
theorem Rd.false_ (h1 : kindAt us i = 1) (h2 : isAt us i [102, 97, 108, 115, 101] = true) (h : isAt us (i + 1) [58, 58] = false) : Rd us .atom i [⟨1, 0, ⟨#[]⟩, ⟨#[]⟩⟩] (i + 1) := by
  obtain ⟨t, ht, _⟩ := isAt_some h2
  rw [kind_tok ht] at h1
  refine .named ht h1 ?_
  unfold namedP
  rw [if_neg (by rw [h]; decide), if_neg (by rw [isAt_one h2 (by decide)]; decide), if_pos h2]
theorem reserved_true : reserved ⟨#[116, 114, 117, 101]⟩ = true := by kernel_rfl
theorem reserved_false : reserved ⟨#[102, 97, 108, 115, 101]⟩ = true := by kernel_rfl
theorem Rd.var_ {t : Tok} (ht : us[i]? = some t) (hk : t.kind = 1) (hr : reserved t.s = false) (h : isAt us (i + 1) [58, 58] = false) : Rd us .atom i [⟨8, 0, t.s, ⟨#[]⟩⟩] (i + 1) := by
  refine .named ht hk ?_
  have hb : ∀ s : ByteArray, t.s.toList = s.toList → t.s = s := fun s h => by
    rw [ByteArray.toList_eq, ByteArray.toList_eq] at h
    exact ByteArray.ext (Array.ext' h)
  have n1 : isAt us i [116, 114, 117, 101] = false := by
    rw [isAt_tok ht]
    cases hq : t.s.toList == [116, 114, 117, 101] with
    | false => simp
    | true =>
      have := hb ⟨#[116, 114, 117, 101]⟩ (by rw [beq_iff_eq] at hq; rw [hq, ByteArray.toList_eq])
      rw [this, reserved_true] at hr; cases hr
  have n2 : isAt us i [102, 97, 108, 115, 101] = false := by
    rw [isAt_tok ht]
    cases hq : t.s.toList == [102, 97, 108, 115, 101] with
    | false => simp
    | true =>
      have := hb ⟨#[102, 97, 108, 115, 101]⟩ (by rw [beq_iff_eq] at hq; rw [hq, ByteArray.toList_eq])
      rw [this, reserved_false] at hr; cases hr
  unfold namedP
  rw [if_neg (by rw [h]; decide), if_neg (by rw [n1]; decide), if_neg (by rw [n2]; decide), wordP, ht]
  simp only [hk, if_true, hr, Bool.false_eq_true, if_false]
theorem Rd.bracket (h5 : kindAt us i = 5) (h : isAt us i [40] = true) (hx : Rd us .whole (i + 1) x j) (hc : isAt us j [41] = true) : Rd us .atom i x (j + 1) := by
  obtain ⟨f, e1⟩ := hx
  refine ⟨f + 1, ?_⟩
  unfold run
  rw [h5, if_neg (by decide), if_neg (by decide), if_neg (by decide), if_neg (by decide), if_neg (by rw [isAt_one h (by decide)]; decide), if_pos h, e1, PR.then_ok, needP, if_pos hc]
theorem Rd.set (h5 : kindAt us i = 5) (h : isAt us i [91] = true) (hx : Rd us (.set []) (i + 1) x j) : Rd us .atom i x j := by
  obtain ⟨f, e1⟩ := hx
  refine ⟨f + 1, ?_⟩
  unfold run
  rw [h5, if_neg (by decide), if_neg (by decide), if_neg (by decide), if_neg (by decide), if_neg (by rw [isAt_one h (by decide)]; decide), if_neg (by rw [isAt_one h (by decide)]; decide), if_pos h]; exact e1
theorem Rd.recd (h5 : kindAt us i = 5) (h : isAt us i [123] = true) (hx : Rd us (.recd [] ⟨#[]⟩) (i + 1) x j) : Rd us .atom i x j := by
  obtain ⟨f, e1⟩ := hx
  refine ⟨f + 1, ?_⟩
  unfold run
  rw [h5, if_neg (by decide), if_neg (by decide), if_neg (by decide), if_neg (by decide), if_neg (by rw [isAt_one h (by decide)]; decide), if_neg (by rw [isAt_one h (by decide)]; decide), if_neg (by rw [isAt_one h (by decide)]; decide), if_pos h]; exact e1
theorem Rd.set_end {parts : List (List Node)} (h : isAt us i [93] = true) : Rd us (.set parts) i (⟨5, parts.length, ⟨#[]⟩, ⟨#[]⟩⟩ :: parts.flatten) (i + 1) := by
  refine ⟨1, ?_⟩
  unfold run
  rw [if_pos h]
theorem Rd.set_first (h : isAt us i [93] = false) (hx : Rd us .whole i x j) (hr : Rd us (.set [x]) j r k) : Rd us (.set []) i r k := by
  obtain ⟨f1, e1⟩ := hx
  obtain ⟨f2, e2⟩ := hr
  refine ⟨max f1 f2 + 1, ?_⟩
  unfold run
  rw [if_neg (by rw [h]; decide)]
  simp only [List.length_nil, if_true, List.nil_append]
  rw [run_le e1 (by omega), PR.then_ok]; exact run_le e2 (by omega)
theorem Rd.set_next {parts : List (List Node)} (h0 : parts.length ≠ 0) (h : isAt us i [44] = true) (hx : Rd us .whole (i + 1) x j) (hr : Rd us (.set (parts ++ [x])) j r k) : Rd us (.set parts) i r k := by
  obtain ⟨f1, e1⟩ := hx
  obtain ⟨f2, e2⟩ := hr
  refine ⟨max f1 f2 + 1, ?_⟩
  unfold run
  rw [if_neg (by rw [isAt_one h (by decide)]; decide), if_neg h0, needP, if_pos h, run_le e1 (by omega), PR.then_ok]; exact run_le e2 (by omega)
theorem Rd.rec_end {parts : List (List Node)} {last : ByteArray} (h : isAt us i [125] = true) : Rd us (.recd parts last) i (⟨6, parts.length, ⟨#[]⟩, ⟨#[]⟩⟩ :: parts.flatten) (i + 1) := by
  refine ⟨1, ?_⟩
  unfold run
  rw [if_pos h]
theorem Rd.rec_first {last : ByteArray} {t : Tok} (h : isAt us i [125] = false) (ht : us[i]? = some t) (hk : t.kind = 1) (hle : strLe t.s last = false) (h58 : isAt us (i + 1) [58] = true) (hx : Rd us .whole (i + 2) x j)
    (hr : Rd us (.recd [⟨7, 0, t.s, ⟨#[]⟩⟩ :: x] t.s) j r k) : Rd us (.recd [] last) i r k := by
  obtain ⟨f1, e1⟩ := hx
  obtain ⟨f2, e2⟩ := hr
  refine ⟨max f1 f2 + 1, ?_⟩
  unfold run
  rw [if_neg (by rw [h]; decide)]
  simp only [List.length_nil, if_true]
  rw [wordP, ht]
  simp only [hk, if_true, hle, Bool.false_eq_true, if_false]
  rw [needP, if_pos h58, run_le e1 (by omega), PR.then_ok]; exact run_le e2 (by omega)
theorem Rd.rec_next {parts : List (List Node)} {last : ByteArray} {t : Tok} (h0 : parts.length ≠ 0) (h : isAt us i [44] = true) (ht : us[i + 1]? = some t) (hk : t.kind = 1) (hle : strLe t.s last = false) (h58 : isAt us (i + 2) [58] = true) (hx : Rd us .whole (i + 3) x j)
    (hr : Rd us (.recd (parts ++ [⟨7, 0, t.s, ⟨#[]⟩⟩ :: x]) t.s) j r k) : Rd us (.recd parts last) i r k := by
  obtain ⟨f1, e1⟩ := hx
  obtain ⟨f2, e2⟩ := hr
  refine ⟨max f1 f2 + 1, ?_⟩
  unfold run
  rw [if_neg (by rw [isAt_one h (by decide)]; decide)]
  simp only [h0, if_false]
  rw [needP, if_pos h, wordP, ht]
  simp only [hk, if_true, hle, Bool.false_eq_true, if_false]
  rw [needP, if_pos h58, run_le e1 (by omega), PR.then_ok]; exact run_le e2 (by omega)
/-- The fuel that Parse's own reading has is enough. -/
theorem Rd.all (h : Rd us .whole 0 e us.length) : run us (fuel us) .whole 0 = some (.ok (e, us.length)) := by
  obtain ⟨f, hf⟩ := h
  have hs := run_some us (fuel us) .whole 0 (Nat.zero_le _) (by unfold fuel; simp only [PF.lv]; omega)
  unfold SomeP at hs
  obtain ⟨y, hy⟩ : ∃ y, run us (fuel us) .whole 0 = some y := by
    cases hq : run us (fuel us) .whole 0 with
    | none => exact absurd hq hs
    | some y => exact ⟨y, rfl⟩
  have h1 := run_le hf (Nat.le_max_left f (fuel us))
  have h2 := run_le hy (Nat.le_max_right f (fuel us))
  rw [h1] at h2
  injection h2 with h2
  rw [hy, ← h2]
end
end Go.Proofs.YtfaadlfaimhbbaaGreatDoor

namespace Go.Proofs.YtfaadlfaimhbbaaGreatDoor
open Go.RowKit

section
variable {us : List Tok} {i j p : Nat} {x y z : List Node}
theorem In.of {l1 a l2 : List Tok} (h : us = l1 ++ (a ++ closeT :: l2)) (hp : l1.length = p) : In p a us := by
  subst hp
  refine ⟨fun i hi => ?_, 0, ?_⟩
  · rw [h, List.getElem?_append_right (by omega), show l1.length + i - l1.length = i by omega, List.getElem?_append_left hi]
  · rw [h, List.getElem?_append_right (by omega), show l1.length + a.length - l1.length = a.length by omega, List.getElem?_append_right (Nat.le_refl _), Nat.sub_self]; rfl
theorem isAt_sign {s : ByteArray} {q : Int} (ht : us[j]? = some ⟨5, s, q⟩) (w : List UInt8) : isAt us j w = (s.toList == w) := by
  rw [isAt_tok ht]; simp
theorem isAt_end (w : List UInt8) : isAt us us.length w = false := by unfold isAt; rw [List.getElem?_eq_none (Nat.le_refl _)]
theorem goesOn_end (L : CL) : goesOn us us.length L = false := by unfold goesOn; rw [List.getElem?_eq_none (Nat.le_refl _)]
theorem relAt_end : relAt us us.length = false := by unfold relAt; simp only [isAt_end]; rfl
theorem goesOn_sign {s : ByteArray} {q : Int} (ht : us[j]? = some ⟨5, s, q⟩) (L : CL) : goesOn us j L = (L.sign s.toList).isSome := by
  unfold goesOn; rw [ht]; simp
theorem rd_bracketed {a : List Tok} (hin : In (p + 1) a us) (h0 : us[p]? = some openT) (hr : run a (fuel a) .whole 0 = some (.ok (x, a.length))) : Rd us .atom p x (p + a.length + 2) := by
  have h1 := run_inside hin (fuel a) .whole 0 (Nat.zero_le _) x a.length hr
  obtain ⟨q, hq⟩ := hin.close
  rw [Nat.add_zero] at h1
  have h2 : isAt us (p + 1 + a.length) [41] = true := by rw [isAt_sign hq, ByteArray.toList_eq]; rfl
  have h3 : isAt us p [40] = true := by rw [isAt_sign (q := 0) h0, ByteArray.toList_eq]; rfl
  have := Rd.bracket (kind_tok h0) h3 ⟨_, h1⟩ h2
  rwa [show p + 1 + a.length + 1 = p + a.length + 2 by omega] at this
theorem rd_sign_of (h : Rd us .atom i x j) (h0 : us[i]? = some openT) (h46 : isAt us j [46] = false) : Rd us .sign i x j := by
  refine .sign ?_ ?_ (.post h (.posts_stop h46))
  · rw [isAt_sign (q := 0) h0, ByteArray.toList_eq]; rfl
  · rw [isAt_sign (q := 0) h0, ByteArray.toList_eq]; rfl
theorem rd_prod_of (h : Rd us .sign i x j) (h1 : goesOn us j .mul_ = false) : Rd us .prod i x j := .prod h (.stop h1)
theorem rd_rel_of (h : Rd us .prod i x j) (h2 : goesOn us j .add_ = false) (h3 : relAt us j = false) : Rd us .rel i x j := .rel (.sum h (.stop h2)) h3
theorem rd_both_of (h : Rd us .rel i x j) (h4 : goesOn us j .and_ = false) : Rd us .both i x j := .both h (.stop h4)
theorem rd_whole_of (h : Rd us .either i x j) (h0 : us[i]? = some openT) : Rd us .whole i x j := by
  refine .whole ?_ h
  rw [isAt_sign (q := 0) h0, ByteArray.toList_eq]; rfl
end

/-- The five signs, their operations and chains. -/
def leftS : List (ByteArray × Int × CL) := [(⟨#[124, 124]⟩, 12, .or_), (⟨#[38, 38]⟩, 11, .and_), (⟨#[43]⟩, 17, .add_), (⟨#[45]⟩, 18, .add_), (⟨#[42]⟩, 19, .mul_)]
def leftT (s : ByteArray) (a b c : List Tok) : List Tok := openT :: (a ++ closeT :: ⟨5, s, 0⟩ :: openT :: (b ++ closeT :: ⟨5, s, 0⟩ :: openT :: (c ++ [closeT])))
theorem leftT_len (s : ByteArray) (a b c : List Tok) : (leftT s a b c).length = a.length + b.length + c.length + 8 := by
  simp only [leftT, List.length_cons, List.length_append, List.length_nil]; omega

theorem left_rd {s : ByteArray} {o : Int} {L : CL} (hs : (s, o, L) ∈ leftS) {a b c : List Tok} {x y z : List Node}
    (ha : run a (fuel a) .whole 0 = some (.ok (x, a.length))) (hb : run b (fuel b) .whole 0 = some (.ok (y, b.length))) (hc : run c (fuel c) .whole 0 = some (.ok (z, c.length))) :
    Rd (leftT s a b c) .whole 0 (opN o :: ((opN o :: (x ++ y)) ++ z)) (leftT s a b c).length := by
  have hlen := leftT_len s a b c
  obtain ⟨us, hus⟩ : ∃ us, us = leftT s a b c := ⟨_, rfl⟩
  have u1 : us = [openT] ++ (a ++ closeT :: (⟨5, s, 0⟩ :: openT :: (b ++ closeT :: ⟨5, s, 0⟩ :: openT :: (c ++ [closeT])))) := by rw [hus]; rfl
  have u2 : us = (openT :: (a ++ [closeT, ⟨5, s, 0⟩, openT])) ++ (b ++ closeT :: (⟨5, s, 0⟩ :: openT :: (c ++ [closeT]))) := by rw [hus]; simp [leftT]
  have u3 : us = (openT :: (a ++ closeT :: ⟨5, s, 0⟩ :: openT :: (b ++ [closeT, ⟨5, s, 0⟩, openT]))) ++ (c ++ closeT :: []) := by rw [hus]; simp [leftT]
  have i1 : In (0 + 1) a us := In.of u1 rfl
  have i2 : In (a.length + 3 + 1) b us := In.of u2 (by simp)
  have i3 : In (a.length + b.length + 6 + 1) c us := In.of u3 (by simp; omega)
  have g0 : us[0]? = some openT := by rw [u1]; rfl
  have gs1 : us[0 + a.length + 2]? = some ⟨5, s, 0⟩ := by
    rw [u1, List.getElem?_append_right (by simp), List.getElem?_append_right (by simp <;> omega)]
    rw [show 0 + a.length + 2 - [openT].length - a.length = 1 by simp <;> omega]; rfl
  have g1 : us[a.length + 3]? = some openT := by
    rw [u1, List.getElem?_append_right (by simp), List.getElem?_append_right (by simp <;> omega)]
    rw [show a.length + 3 - [openT].length - a.length = 2 by simp <;> omega]; rfl
  have gs2 : us[a.length + 3 + b.length + 2]? = some ⟨5, s, 0⟩ := by
    rw [u2, List.getElem?_append_right (by simp <;> omega), List.getElem?_append_right (by simp <;> omega)]
    rw [show a.length + 3 + b.length + 2 - (openT :: (a ++ [closeT, ⟨5, s, 0⟩, openT])).length - b.length = 1 by simp <;> omega]; rfl
  have g2 : us[a.length + b.length + 6]? = some openT := by
    rw [u2, List.getElem?_append_right (by simp <;> omega), List.getElem?_append_right (by simp <;> omega)]
    rw [show a.length + b.length + 6 - (openT :: (a ++ [closeT, ⟨5, s, 0⟩, openT])).length - b.length = 2 by simp <;> omega]; rfl
  rw [← hus] at hlen ⊢
  have he : a.length + b.length + 6 + c.length + 2 = us.length := by omega
  have A1 := rd_bracketed i1 g0 ha
  have A2 := rd_bracketed i2 g1 hb
  have A3 := rd_bracketed i3 g2 hc
  rw [he] at A3
  have n2 : 0 + a.length + 2 + 1 = a.length + 3 := by omega
  have n3 : a.length + 3 + b.length + 2 + 1 = a.length + b.length + 6 := by omega
  have S3 := rd_sign_of A3 g2 (isAt_end _)
  clear hus u1 u2 u3 i1 i2 i3 ha hb hc A3
  have nd : s.toList ≠ [46] → (isAt us (0 + a.length + 2) [46] = false ∧ isAt us (a.length + 3 + b.length + 2) [46] = false) := fun h => by
    rw [isAt_sign gs1, isAt_sign gs2, beq_eq_false_iff_ne.2 h]; exact ⟨rfl, rfl⟩
  simp only [leftS, List.mem_cons, Prod.mk.injEq, List.not_mem_nil, or_false] at hs
  have rel_no : ∀ j, us[j]? = some ⟨5, s, 0⟩ → (∀ w ∈ [[61, 61], [60], [60, 61], [105, 110], [104, 97, 115], [105, 115], [108, 105, 107, 101]], s.toList ≠ w) → relAt us j = false := by
    intro j hj hw
    have e : ∀ w ∈ ([[61, 61], [60], [60, 61], [105, 110], [104, 97, 115], [105, 115], [108, 105, 107, 101]] : List (List UInt8)), isAt us j w = false := fun w h => by
      rw [isAt_sign hj]; exact beq_eq_false_iff_ne.2 (hw w h)
    unfold relAt
    rw [e _ (by simp), e _ (by simp), e _ (by simp), e _ (by simp), e _ (by simp), e _ (by simp), e _ (by simp)]
    rfl
  rcases hs with ⟨rfl, rfl, rfl⟩ | ⟨rfl, rfl, rfl⟩ | ⟨rfl, rfl, rfl⟩ | ⟨rfl, rfl, rfl⟩ | ⟨rfl, rfl, rfl⟩
  · obtain ⟨d1, d2⟩ := nd (by rw [ByteArray.toList_eq]; decide)
    have P1 := rd_both_of (rd_rel_of (rd_prod_of (rd_sign_of A1 g0 d1) (by rw [goesOn_sign gs1, ByteArray.toList_eq]; rfl)) (by rw [goesOn_sign gs1, ByteArray.toList_eq]; rfl) (rel_no _ gs1 (by rw [ByteArray.toList_eq]; decide))) (by rw [goesOn_sign gs1, ByteArray.toList_eq]; rfl)
    have P2 := rd_both_of (rd_rel_of (rd_prod_of (rd_sign_of A2 g1 d2) (by rw [goesOn_sign gs2, ByteArray.toList_eq]; rfl)) (by rw [goesOn_sign gs2, ByteArray.toList_eq]; rfl) (rel_no _ gs2 (by rw [ByteArray.toList_eq]; decide))) (by rw [goesOn_sign gs2, ByteArray.toList_eq]; rfl)
    have P3 := rd_both_of (rd_rel_of (rd_prod_of S3 (goesOn_end _)) (goesOn_end _) relAt_end) (goesOn_end _)
    refine rd_whole_of (.either P1 ?_) g0
    exact .more gs1 rfl (by rw [ByteArray.toList_eq]; rfl) (by rw [n2]; exact P2) (.more gs2 rfl (by rw [ByteArray.toList_eq]; rfl) (by rw [n3]; exact P3) (.stop (goesOn_end _)))
  · obtain ⟨d1, d2⟩ := nd (by rw [ByteArray.toList_eq]; decide)
    have P1 := rd_rel_of (rd_prod_of (rd_sign_of A1 g0 d1) (by rw [goesOn_sign gs1, ByteArray.toList_eq]; rfl)) (by rw [goesOn_sign gs1, ByteArray.toList_eq]; rfl) (rel_no _ gs1 (by rw [ByteArray.toList_eq]; decide))
    have P2 := rd_rel_of (rd_prod_of (rd_sign_of A2 g1 d2) (by rw [goesOn_sign gs2, ByteArray.toList_eq]; rfl)) (by rw [goesOn_sign gs2, ByteArray.toList_eq]; rfl) (rel_no _ gs2 (by rw [ByteArray.toList_eq]; decide))
    have P3 := rd_rel_of (rd_prod_of S3 (goesOn_end _)) (goesOn_end _) relAt_end
    refine rd_whole_of (.either (.both P1 ?_) (.stop (goesOn_end _))) g0
    exact .more gs1 rfl (by rw [ByteArray.toList_eq]; rfl) (by rw [n2]; exact P2) (.more gs2 rfl (by rw [ByteArray.toList_eq]; rfl) (by rw [n3]; exact P3) (.stop (goesOn_end _)))
  · obtain ⟨d1, d2⟩ := nd (by rw [ByteArray.toList_eq]; decide)
    have P1 := rd_prod_of (rd_sign_of A1 g0 d1) (by rw [goesOn_sign gs1, ByteArray.toList_eq]; rfl)
    have P2 := rd_prod_of (rd_sign_of A2 g1 d2) (by rw [goesOn_sign gs2, ByteArray.toList_eq]; rfl)
    have P3 := rd_prod_of S3 (goesOn_end _)
    refine rd_whole_of (.either (.both (.rel (.sum P1 ?_) relAt_end) (.stop (goesOn_end _))) (.stop (goesOn_end _))) g0
    exact .more gs1 rfl (by rw [ByteArray.toList_eq]; rfl) (by rw [n2]; exact P2) (.more gs2 rfl (by rw [ByteArray.toList_eq]; rfl) (by rw [n3]; exact P3) (.stop (goesOn_end _)))
  · obtain ⟨d1, d2⟩ := nd (by rw [ByteArray.toList_eq]; decide)
    have P1 := rd_prod_of (rd_sign_of A1 g0 d1) (by rw [goesOn_sign gs1, ByteArray.toList_eq]; rfl)
    have P2 := rd_prod_of (rd_sign_of A2 g1 d2) (by rw [goesOn_sign gs2, ByteArray.toList_eq]; rfl)
    have P3 := rd_prod_of S3 (goesOn_end _)
    refine rd_whole_of (.either (.both (.rel (.sum P1 ?_) relAt_end) (.stop (goesOn_end _))) (.stop (goesOn_end _))) g0
    exact .more gs1 rfl (by rw [ByteArray.toList_eq]; rfl) (by rw [n2]; exact P2) (.more gs2 rfl (by rw [ByteArray.toList_eq]; rfl) (by rw [n3]; exact P3) (.stop (goesOn_end _)))
  · obtain ⟨d1, d2⟩ := nd (by rw [ByteArray.toList_eq]; decide)
    have P1 := rd_sign_of A1 g0 d1
    have P2 := rd_sign_of A2 g1 d2
    refine rd_whole_of (.either (.both (.rel (.sum (.prod P1 ?_) (.stop (goesOn_end _))) relAt_end) (.stop (goesOn_end _))) (.stop (goesOn_end _))) g0
    exact .more gs1 rfl (by rw [ByteArray.toList_eq]; rfl) (by rw [n2]; exact P2) (.more gs2 rfl (by rw [ByteArray.toList_eq]; rfl) (by rw [n3]; exact S3) (.stop (goesOn_end _)))

theorem good_signs : leftS.all (fun x => !badTok ⟨5, x.1, 0⟩) = true := by kernel_rfl
theorem parseW_left {s : ByteArray} {o : Int} {L : CL} (hs : (s, o, L) ∈ leftS) {a b c : List Tok} {x y z : List Node} (ha : parseW a = .ok x) (hb : parseW b = .ok y) (hc : parseW c = .ok z) (hl : a.length + b.length + c.length + 8 ≤ 300) (hn : x.length + y.length + z.length + 2 ≤ 200) :
    parseW (leftT s a b c) = .ok (opN o :: opN o :: (x ++ (y ++ z))) := by
  obtain ⟨_, a2, a3, _⟩ := parseW_ok ha
  obtain ⟨_, b2, b3, _⟩ := parseW_ok hb
  obtain ⟨_, c2, c3, _⟩ := parseW_ok hc
  have h := (left_rd hs a3 b3 c3).all
  have e : opN o :: ((opN o :: (x ++ y)) ++ z) = opN o :: opN o :: (x ++ (y ++ z)) := by simp
  rw [e] at h
  refine parseW_of (by rw [leftT_len]; exact hl) ?_ h (by simp only [List.length_cons, List.length_append]; omega)
  have g : badTok ⟨5, s, 0⟩ = false := by simpa using List.all_eq_true.1 good_signs _ hs
  rw [findIdx_none] at a2 b2 c2 ⊢
  intro t ht
  simp only [leftT, List.mem_cons, List.mem_append, List.not_mem_nil, or_false] at ht
  rcases ht with rfl | ht | rfl | rfl | rfl | ht | rfl | rfl | rfl | ht | rfl
  all_goals first | exact good_open | exact good_close | exact g | exact a2 _ ht | exact b2 _ ht | exact c2 _ ht
end Go.Proofs.YtfaadlfaimhbbaaGreatDoor

namespace Go.Proofs.YtfaadlfaimhbbaaGreatDoor
open Go.RowKit

/-- Words that came in, and what Parse asks of them. -/
structure TokArg (w : World) (A : Option Addr) (c : Nat) (ts : List Tok) : Prop where
  at_ : ToksAt w A ts
  cap : ts.length ≤ c
  max : c ≤ 9223372036854775807
  len : ts.length ≤ 2000000
  small : ∀ t ∈ ts, t.s.size ≤ 100000000
  old : ∀ b off sp, A = some ⟨b, off, sp⟩ → b < w.heap.size
theorem TokArg.parse {w w' : World} {A : Option Addr} {c : Nat} {ts : List Tok} (h : TokArg w A c ts) (hv : VarsAt w) (hb : Below w.heap.size w w') :
    Calls Tryz.prog 10 #[.slice A ts.length c] w' (ParsePost w'.heap.size w' (parseW ts)) :=
  parse_c A c ts w' (h.at_.below hb) h.cap h.max h.small (hv.below hb) (fun b off sp e => Nat.lt_of_lt_of_le (h.old b off sp e) hb.size)
/-- What Parse hands back, whatever it is. -/
theorem TokArg.any {w w' : World} {A : Option Addr} {c : Nat} {ts : List Tok} (h : TokArg w A c ts) (hv : VarsAt w) (hb : Below w.heap.size w w') :
    Calls Tryz.prog 10 #[.slice A ts.length c] w' fun e w'' => ∃ B n m k ev, e = .returned (.tuple #[.slice B n m, .int .i64 k, ev]) ∧ (ev = .nilIface ∨ ∃ er, ev = .iface 40 (.int .i64 er)) ∧ Below w'.heap.size w' w'' := by
  refine (h.parse hv hb).mono ?_
  intro e w'' hp
  cases hr : parseW ts with
  | error p =>
    obtain ⟨er, k⟩ := p
    rw [hr] at hp
    obtain ⟨he, hb⟩ := hp
    exact ⟨none, 0, 0, k, _, he, .inr ⟨er, rfl⟩, hb⟩
  | ok ns =>
    rw [hr] at hp
    obtain ⟨B, m, he, _, _, _, hb⟩ := hp
    exact ⟨B, ns.length, m, 0, _, he, .inl rfl, hb⟩

/-- Behind an append to a row of one's own. -/
theorem app_post {base T size n m d : Nat} {L : Option Addr} {cs xs : List Value} (ds : List Value) {W w w' : World} {v' : Value} (hb : Below base W w) (hB : base ≤ w.heap.size) (hown : w.ownsRow base T size (.slice L n d) n cs)
    (hown' : w'.ownsRow base T size v' (n + m) xs) (hxs : xs = cs ++ ds) (hgrow : w.grownBy w' (Value.slice L n d).ownBlock) :
    ∃ L' d', v' = .slice L' (n + m) d' ∧ n + m ≤ d' ∧ Hid (Below base W w') ∧ Hid (w'.ownsRow base T size (.slice L' (n + m) d') (n + m) (cs ++ ds)) := by
  subst hxs
  obtain ⟨L', d', hv, hd⟩ := own_slice hown'
  subst hv
  exact ⟨L', d', rfl, hd, below_own hb hown hgrow (Nat.le_refl _) hB, hown'⟩

theorem own_two (w : World) (base : Nat) (x y : Node) (hb : base ≤ w.heap.size) :
    (w.alloc (.cells #[.int .i64 x.op, .int .i64 x.n, .string x.s, .string x.t, .int .i64 y.op, .int .i64 y.n, .string y.s, .string y.t] 31)).ownsRow base 31 4 (.slice (some ⟨w.heap.size, 0, none⟩) 2 2) 2 ([x, y].flatMap Node.cells) := by
  refine ⟨rfl, .inr ⟨w.heap.size, 2, _, rfl, hb, Blk.new w _ _, Nat.le_refl _, by unfold maxLen; omega, rfl, rfl⟩⟩
theorem NodesAt.newFive (w : World) (a b c d e : Node) : NodesAt (w.alloc (.cells #[.int .i64 a.op, .int .i64 a.n, .string a.s, .string a.t, .int .i64 b.op, .int .i64 b.n, .string b.s, .string b.t, .int .i64 c.op, .int .i64 c.n, .string c.s, .string c.t, .int .i64 d.op, .int .i64 d.n, .string d.s, .string d.t, .int .i64 e.op, .int .i64 e.n, .string e.s, .string e.t] 31)) (some ⟨w.heap.size, 0, none⟩) [a, b, c, d, e] := by
  have h : (w.alloc (.cells #[.int .i64 a.op, .int .i64 a.n, .string a.s, .string a.t, .int .i64 b.op, .int .i64 b.n, .string b.s, .string b.t, .int .i64 c.op, .int .i64 c.n, .string c.s, .string c.t, .int .i64 d.op, .int .i64 d.n, .string d.s, .string d.t, .int .i64 e.op, .int .i64 e.n, .string e.s, .string e.t] 31)).ownsRow 0 31 4 (.slice (some ⟨w.heap.size, 0, none⟩) 5 5) 5 ([a, b, c, d, e].flatMap Node.cells) :=
    ⟨rfl, .inr ⟨w.heap.size, 5, _, rfl, Nat.zero_le _, Blk.new w _ _, Nat.le_refl _, by unfold maxLen; omega, rfl, rfl⟩⟩
  exact Arr.ofOwn h

theorem fact_words2 : readW ⟨#[49, 32, 45, 32, 50, 32, 45, 32, 51]⟩ = .ok [⟨2, ⟨#[49]⟩, 0⟩, ⟨5, ⟨#[45]⟩, 2⟩, ⟨2, ⟨#[50]⟩, 4⟩, ⟨5, ⟨#[45]⟩, 6⟩, ⟨2, ⟨#[51]⟩, 8⟩] := by kernel_rfl
theorem fact_parse2 : parseW ([⟨2, ⟨#[49]⟩, 0⟩, ⟨5, ⟨#[45]⟩, 2⟩, ⟨2, ⟨#[50]⟩, 4⟩, ⟨5, ⟨#[45]⟩, 6⟩, ⟨2, ⟨#[51]⟩, 8⟩].map bareT) = .ok [opN 18, opN 18, ⟨2, 1, ⟨#[]⟩, ⟨#[]⟩⟩, ⟨2, 2, ⟨#[]⟩, ⟨#[]⟩⟩, ⟨2, 3, ⟨#[]⟩, ⟨#[]⟩⟩] := by kernel_rfl

/-- The words so far, behind k parts. -/
def accT (s : ByteArray) (P : List (List Tok)) : Nat → List Tok
  | 0 => []
  | k + 1 => accT s P k ++ ((if k = 0 then [] else [⟨5, s, 0⟩]) ++ ([openT] ++ (P.getD k [] ++ [closeT])))
theorem accT_three (s : ByteArray) (a b c : List Tok) : accT s [a, b, c] 3 = leftT s a b c := by
  simp [accT, leftT]
theorem accT_len (s : ByteArray) (P : List (List Tok)) : ∀ k, (∀ p ∈ P, p.length ≤ 300) → (accT s P k).length ≤ k * 303
  | 0, _ => by simp [accT]
  | k + 1, h => by
    have ih := accT_len s P k h
    have h1 : (P.getD k []).length ≤ 300 := by
      cases hk : P[k]? with
      | none => simp [List.getD, hk]
      | some p => simp only [List.getD, hk, Option.getD_some]; exact h p (List.mem_of_getElem? hk)
    rw [accT, List.length_append, List.length_append, List.length_append, List.length_append]
    have h2 : (if k = 0 then ([] : List Tok) else [⟨5, s, 0⟩]).length ≤ 1 := by split <;> simp
    simp only [List.length_cons, List.length_nil]
    omega

theorem parse_nodes_pos {ts : List Tok} {ns : List Node} (h : parseW ts = .ok ns) : 0 < ns.length := by
  obtain ⟨h1, _, h3, _⟩ := parseW_ok h
  exact (run_pos (ts := ts) h3 (Nat.zero_le _) rfl rfl h1).1
theorem left_small : leftS.all (fun x => decide (x.1.size ≤ 2)) = true := by decide
theorem node_src {w w' : World} {b o : Nat} {B : Nat} {ns : List Node} (hb : Below B w w') (hlt : b < B) (h : ∀ (j : Nat) (u : Value), (ns.flatMap Node.cells)[j]? = some u → w.cell? ⟨b, o + j, none⟩ = some u) :
    ∀ (j : Nat) (u : Value), (ns.flatMap Node.cells)[j]? = some u → w'.cell? ((⟨b, o, none⟩ : Addr).add j) = some u := fun j u hu => by
  rw [add_plain]; exact (hb.cell (p := ⟨b, o + j, none⟩) hlt).trans (h j u hu)

set_option maxRecDepth 100000 in
set_option maxHeartbeats 8000000 in
theorem phraseLeft_walk (A1 A2 A3 : Option Addr) (c1 c2 c3 : Nat) (a b c : List Tok) (k : Int) (w : World) (ha : TokArg w A1 c1 a) (hb : TokArg w A2 c2 b) (hc : TokArg w A3 c3 c) (hv : VarsAt w) :
    Calls Tryz.prog 4 #[.slice A1 a.length c1, .slice A2 b.length c2, .slice A3 c.length c3, .int .i64 k] w fun e w' => e = .returned (.bool true) ∧ Below w.heap.size w w' := by
  obtain ⟨na, hna⟩ : ∃ n, n = a.length := ⟨_, rfl⟩
  obtain ⟨nb, hnb⟩ : ∃ n, n = b.length := ⟨_, rfl⟩
  obtain ⟨nc, hnc⟩ : ∃ n, n = c.length := ⟨_, rfl⟩
  have HPA := Lib.hid (fun w' hb => ha.parse hv (w' := w') hb)
  have HPB := Lib.hid (fun w' hb' => hb.parse hv (w' := w') hb')
  have HPC := Lib.hid (fun w' hb => hc.parse hv (w' := w') hb)
  have HXB := Lib.hid (fun w' hb' => hb.any hv (w' := w') hb')
  have HXC := Lib.hid (fun w' hb => hc.any hv (w' := w') hb)
  have hla := ha.len
  have hlb := hb.len
  have hlc := hc.len
  have hca := ha.cap
  have hcb := hb.cap
  have hcc := hc.cap
  rw [← hna] at HPA hla hca ⊢
  rw [← hnb] at HPB HXB hlb hcb ⊢
  rw [← hnc] at HPC HXC hlc hcc ⊢
  have NA := Lib.hid hna
  have NB := Lib.hid hnb
  have NC := Lib.hid hnc
  have TA := Lib.hid ha
  have TB := Lib.hid hb
  have TC := Lib.hid hc
  have HV := Lib.hid hv
  clear ha hb hc hv hna hnb hnc
  go_enter Tryz.func4, Tryz.ntmps4
  go_wp2_with fail
  refine (quick_c _ _ _ (by decide) fact_words2 (by decide)).mono ?_
  rintro e w1 ⟨B1, d1, rfl, hd1, hdm1, ht1, hn1, hlt1, hb1⟩
  have HB1 := Lib.hid hb1
  have HQ := Lib.hid (quick_parse _ _ _ fact_words2 fact_parse2 B1 d1 w1 (HV.out.below hb1) ht1 hd1 hdm1 (by decide) hlt1)
  clear hb1 ht1 hn1 hlt1 hd1 hdm1
  go_wp2_with fail
  refine HQ.out.mono ?_
  rintro e w2 ⟨B2, d2, rfl, hd2, hn2, hz2, hb2⟩
  have HB2 := Lib.hid (HB1.out.trans (hb2.mono HB1.out.size))
  have HN2 := Lib.hid hn2
  clear hb2 hn2 hz2 hd2 HQ
  go_wp2_with fail
  refine (num_c 1 _).mono ?_
  rintro e w3 ⟨rfl, hb3⟩
  have HB3 := Lib.hid (HB2.out.trans (hb3.mono HB2.out.size))
  have HN3 := Lib.hid (HN2.out.below hb3)
  clear hb3 HN2
  go_wp2_with fail
  refine (num_c 2 _).mono ?_
  rintro e w4 ⟨rfl, hb4⟩
  have HB4 := Lib.hid (HB3.out.trans (hb4.mono HB3.out.size))
  have HN4 := Lib.hid (HN3.out.below hb4)
  clear hb4 HN3
  go_wp2_with fail
  refine (num_c 3 _).mono ?_
  rintro e w5 ⟨rfl, hb5⟩
  have HB5 := Lib.hid (HB4.out.trans (hb5.mono HB4.out.size))
  have HN5 := Lib.hid (HN4.out.below hb5)
  clear hb5 HN4
  go_wp2_with fail
  refine (nodes_c B2 (some ⟨w5.heap.size, 0, none⟩) d2 5 [opN 18, opN 18, ⟨2, 1, ⟨#[]⟩, ⟨#[]⟩⟩, ⟨2, 2, ⟨#[]⟩, ⟨#[]⟩⟩, ⟨2, 3, ⟨#[]⟩, ⟨#[]⟩⟩] [opN 18, opN 18, ⟨2, 1, ⟨#[]⟩, ⟨#[]⟩⟩, ⟨2, 2, ⟨#[]⟩, ⟨#[]⟩⟩, ⟨2, 3, ⟨#[]⟩, ⟨#[]⟩⟩] _ (HN5.out.below ((Below.refl _ _).alloc (Nat.le_refl _) _)) (NodesAt.newFive w5 (opN 18) (opN 18) ⟨2, 1, ⟨#[]⟩, ⟨#[]⟩⟩ ⟨2, 2, ⟨#[]⟩, ⟨#[]⟩⟩ ⟨2, 3, ⟨#[]⟩, ⟨#[]⟩⟩) (by decide) (by decide)).mono ?_
  rintro e w6 ⟨rfl, m6, hw6⟩
  rw [decide_eq_true rfl]
  have HB6 : Hid (Below w.heap.size w w6) := by rw [hw6]; exact below_drewN (HB5.out.alloc HB5.out.size _) m6
  clear hw6 HN5
  go_wp2_with fail
  have hPA := HPA.out _ HB6.out
  obtain ⟨Ra, hRa⟩ : ∃ R, R = parseW a := ⟨_, rfl⟩
  rw [← hRa] at hPA
  refine hPA.mono ?_
  have RA := Lib.hid hRa
  clear hRa hPA
  cases Ra with
  | error p =>
    obtain ⟨er, j⟩ := p
    rintro e w7 ⟨rfl, hb7⟩
    have HB7 := Lib.hid (HB6.out.trans (hb7.mono HB6.out.size))
    clear hb7
    go_wp2_with fail
    refine (HXB.out _ HB7.out).mono ?_
    rintro e w8 ⟨B8, n8, m8, k8, ev8, rfl, hev8, hb8⟩
    have HB8 := Lib.hid (HB7.out.trans (hb8.mono HB7.out.size))
    clear hb8
    go_wp2_with fail
    refine (HXC.out _ HB8.out).mono ?_
    rintro e w9 ⟨B9, n9, m9, k9, ev9, rfl, hev9, hb9⟩
    have HB9 := Lib.hid (HB8.out.trans (hb9.mono HB8.out.size))
    clear hb9 hev8 hev9
    go_wp2_with fail
    go_ret
    exact ⟨rfl, HB9.out⟩
  | ok x =>
  rintro e w7 ⟨B7, d7, rfl, hd7, hn7, hz7, hb7⟩
  have hpa := parse_pos RA.out.symm
  rw [← NA.out] at hpa
  obtain ⟨pa0, pa3, pa2⟩ := hpa
  have HB7 := Lib.hid (HB6.out.trans (hb7.mono HB6.out.size))
  have NX7 := Lib.hid hn7
  clear hb7 hn7 hz7
  go_wp2_with fail
  have hPB := HPB.out _ HB7.out
  obtain ⟨Rb, hRb⟩ : ∃ R, R = parseW b := ⟨_, rfl⟩
  rw [← hRb] at hPB
  refine hPB.mono ?_
  have RB := Lib.hid hRb
  clear hRb hPB
  cases Rb with
  | error p =>
    obtain ⟨er, j⟩ := p
    rintro e w8 ⟨rfl, hb8⟩
    have HB8 := Lib.hid (HB7.out.trans (hb8.mono HB7.out.size))
    clear hb8
    go_wp2_with fail
    refine (HXC.out _ HB8.out).mono ?_
    rintro e w9 ⟨B9, n9, m9, k9, ev9, rfl, hev9, hb9⟩
    have HB9 := Lib.hid (HB8.out.trans (hb9.mono HB8.out.size))
    clear hb9 hev9
    go_wp2_with fail
    go_ret
    exact ⟨rfl, HB9.out⟩
  | ok y =>
  rintro e w8 ⟨B8, d8, rfl, hd8, hn8, hz8, hb8⟩
  have hpb := parse_pos RB.out.symm
  rw [← NB.out] at hpb
  obtain ⟨pb0, pb3, pb2⟩ := hpb
  have HB8 := Lib.hid (HB7.out.trans (hb8.mono HB7.out.size))
  have NX8 := Lib.hid (NX7.out.below hb8)
  have NY8 := Lib.hid hn8
  clear hb8 hn8 hz8 NX7
  go_wp2_with fail
  have hPC := HPC.out _ HB8.out
  obtain ⟨Rc, hRc⟩ : ∃ R, R = parseW c := ⟨_, rfl⟩
  rw [← hRc] at hPC
  refine hPC.mono ?_
  have RC := Lib.hid hRc
  clear hRc hPC
  cases Rc with
  | error p =>
    obtain ⟨er, j⟩ := p
    rintro e w9 ⟨rfl, hb9⟩
    have HB9 := Lib.hid (HB8.out.trans (hb9.mono HB8.out.size))
    clear hb9
    go_wp2_with fail
    go_ret
    exact ⟨rfl, HB9.out⟩
  | ok z =>
  rintro e w9 ⟨B9, d9, rfl, hd9, hn9, hz9, hb9⟩
  have hpc := parse_pos RC.out.symm
  rw [← NC.out] at hpc
  obtain ⟨pc0, pc3, pc2⟩ := hpc
  have HB9 := Lib.hid (HB8.out.trans (hb9.mono HB8.out.size))
  have NX9 := Lib.hid (NX8.out.below hb9)
  have NY9 := Lib.hid (NY8.out.below hb9)
  have NZ9 := Lib.hid hn9
  clear hb9 hn9 hz9 NX8 NY8
  by_cases h300 : 300 < na + nb + nc + 8
  · have h300' : (300 : Int) < (na : Int) + nb + nc + 8 := by omega
    go_wp2_with fail
    go_ret
    exact ⟨rfl, HB9.out⟩
  have h300' : (na : Int) + nb + nc + 8 ≤ 300 := by omega
  by_cases h200 : 200 < x.length + y.length + z.length + 2
  · have h200' : (200 : Int) < (x.length : Int) + y.length + z.length + 2 := by omega
    go_wp2_with fail
    go_ret
    exact ⟨rfl, HB9.out⟩
  have h200' : (x.length : Int) + y.length + z.length + 2 ≤ 200 := by omega
  by_cases hk0 : k < 0
  · go_wp2_with fail
    go_ret
    exact ⟨rfl, HB9.out⟩
  by_cases hk4 : 4 < k
  · have hk0' : 0 ≤ k := by omega
    go_wp2_with fail
    go_ret
    exact ⟨rfl, HB9.out⟩
  obtain ⟨kk, rfl⟩ : ∃ kk : Nat, k = kk := ⟨k.toNat, by omega⟩
  have hkk : kk < 5 := by omega
  clear hk0 hk4
  have hkk' : (kk : Int) ≤ 4 := by omega
  obtain ⟨so, hso⟩ : ∃ so, leftS[kk]? = some so := ⟨_, List.getElem?_eq_getElem hkk⟩
  obtain ⟨s, o, L⟩ := so
  go_wp2_with fail
  refine name_world ?_
  intro w10 hw10
  have hS : Blk w10 w9.heap.size 9 (leftS.map fun x => Value.string x.1).toArray := by
    rw [hw10]; exact ((Blk.new w9 _ _).alloc _).alloc _
  have hO : Blk w10 (w9.heap.size + 1) 3 (leftS.map fun x => Value.int .i64 x.2.1).toArray := by
    rw [hw10]
    have := (Blk.new (w9.alloc (.cells #[.string ⟨#[124, 124]⟩, .string ⟨#[38, 38]⟩, .string ⟨#[43]⟩, .string ⟨#[45]⟩, .string ⟨#[42]⟩] 9)) 3 (leftS.map fun x => Value.int .i64 x.2.1).toArray).alloc (.cells #[.slice A1 na c1, .slice A2 nb c2, .slice A3 nc c3] 22)
    simp only [World.size_alloc] at this
    exact this
  have hQ : Blk w10 (w9.heap.size + 1 + 1) 22 #[.slice A1 na c1, .slice A2 nb c2, .slice A3 nc c3] := by
    rw [hw10]
    have := Blk.new ((w9.alloc (.cells #[.string ⟨#[124, 124]⟩, .string ⟨#[38, 38]⟩, .string ⟨#[43]⟩, .string ⟨#[45]⟩, .string ⟨#[42]⟩] 9)).alloc (.cells #[.int .i64 12, .int .i64 11, .int .i64 17, .int .i64 18, .int .i64 19] 3)) 22 #[.slice A1 na c1, .slice A2 nb c2, .slice A3 nc c3]
    simp only [World.size_alloc] at this
    exact this
  have HB90 : Hid (Below w9.heap.size w9 w10) := by
    rw [hw10]; exact (((Below.refl _ _).alloc (Nat.le_refl _) _).alloc (by simp) _).alloc (by simp; omega) _
  have HB10 := Lib.hid (HB9.out.trans (HB90.out.mono HB9.out.size))
  have hQlt := hQ.lt
  have hSlt := hS.lt
  have hOlt := hO.lt
  have hcs : w10.cell? ⟨w9.heap.size, kk, none⟩ = some (.string s) := by rw [hS.cell kk]; simp [hso]
  have hco : w10.cell? ⟨w9.heap.size + 1, kk, none⟩ = some (.int .i64 o) := by rw [hO.cell kk]; simp [hso]
  have HCS := Lib.hid hcs
  have HCO := Lib.hid hco
  have HPARTS : Hid (∀ i, i < 3 → ∃ (p : List Tok) (ap op cp : Nat), [a, b, c][i]? = some p ∧ w10.cell? ⟨w9.heap.size + 1 + 1, i, none⟩ = some (.slice (some ⟨ap, op, none⟩) p.length cp) ∧ ap < w.heap.size ∧ p.length ≤ 300 ∧ Hid (∀ (j : Nat) (u : Value), (p.flatMap Tok.cells)[j]? = some u → w.cell? ⟨ap, op + j, none⟩ = some u)) := by
    obtain ⟨b1, o1, e1, q1, r1⟩ := TA.out.at_.2 (by rw [← NA.out]; exact pa0)
    obtain ⟨b2, o2, e2, q2, r2⟩ := TB.out.at_.2 (by rw [← NB.out]; exact pb0)
    obtain ⟨b3, o3, e3, q3, r3⟩ := TC.out.at_.2 (by rw [← NC.out]; exact pc0)
    intro i hi
    match i, hi with
    | 0, _ => exact ⟨a, b1, o1, c1, rfl, by rw [hQ.cell 0, ← NA.out, ← e1]; rfl, q1, by rw [← NA.out]; omega, r1⟩
    | 1, _ => exact ⟨b, b2, o2, c2, rfl, by rw [hQ.cell 1, ← NB.out, ← e2]; rfl, q2, by rw [← NB.out]; omega, r2⟩
    | 2, _ => exact ⟨c, b3, o3, c3, rfl, by rw [hQ.cell 2, ← NC.out, ← e3]; rfl, q3, by rw [← NC.out]; omega, r3⟩
  have HACC : Hid (∀ k, (accT s [a, b, c] k).length ≤ k * 303) := fun k => accT_len s _ k (by
    intro p hp
    have h1 := NA.out
    have h2 := NB.out
    have h3 := NC.out
    simp only [List.mem_cons, List.not_mem_nil, or_false] at hp
    rcases hp with rfl | rfl | rfl <;> omega)
  have HSO := Lib.hid hso
  have NX10 := Lib.hid (NX9.out.below HB90.out)
  have NY10 := Lib.hid (NY9.out.below HB90.out)
  have NZ10 := Lib.hid (NZ9.out.below HB90.out)
  obtain ⟨i0, hi0, hz0, hz1, hz2⟩ := info_parts tokInfo
  clear hw10 hS hO hQ hcs hco hso NX9 NY9 NZ9
  go_loopw [24, 26] (fun lv iv wr => ∃ (i d : Nat) (L' : Option Addr) (acc : List Tok), i ≤ 3 ∧ iv = .int .i64 i ∧ lv = .slice L' acc.length d ∧ acc.length ≤ i * 303 ∧ Hid (acc = accT s [a, b, c] i) ∧ Hid (wr.ownsRow w10.heap.size 34 3 (.slice L' acc.length d) acc.length (acc.flatMap Tok.cells)) ∧ Hid (Below w10.heap.size w10 wr))
    (fun _ iv _ => 3 - (intOf iv).toNat)
  case atStart => exact ⟨0, 0, none, [], by omega, rfl, rfl, Nat.zero_le _, Lib.hid rfl, Lib.hid (World.ownsRow_nil _ _ _ _), Lib.hid (Below.refl _ _)⟩
  case round =>
    obtain ⟨i, d, L', acc, hi, rfl, rfl, hacc, HA, HO, HB⟩ := hrel
    by_cases hlt : i < 3
    · obtain ⟨p, ap, op, cp, hp, hpc, hap, hpl, HPC2⟩ := HPARTS.out i hlt
      have hlt' : (i : Int) < 3 := by omega
      have hnext : accT s [a, b, c] (i + 1) = acc ++ ((if i = 0 then [] else [⟨5, s, 0⟩]) ++ ([openT] ++ (p ++ [closeT]))) := by
        rw [accT, ← HA.out]; simp [List.getD, hp]
      have HNEXT := Lib.hid hnext
      have HN303 := HACC.out (i + 1)
      clear hp hnext
      by_cases h0 : i = 0
      · have h0' : (i : Int) ≤ 0 := by omega
        have hd0 : decide ((0 : Int) < i) = false := by simp; omega
        have H0 := Lib.hid h0
        clear h0
        have HOa := Lib.hid (HO.out.alloc (.cells #[.int .i64 (openT).kind, .string (openT).s, .int .i64 (openT).pos] 34))
        have HBa := Lib.hid (HB.out.alloc HB.out.size (.cells #[.int .i64 (openT).kind, .string (openT).s, .int .i64 (openT).pos] 34))
        have HSa := Lib.hid (tok_src wr (openT))
        go_wp2_with (at_builtin; refine wpList_append_own _ rfl _ _ 22 rfl w10.heap.size 34 i0 _ 3 32 Tryz.underlying22 hi0 hz0 hz1 hz2 rfl (by decide) _ _ _ rfl HOa.out ⟨wr.heap.size, 0, none⟩ 1 1 (openT).cells rfl rfl HSa.out (cells_oneT _) (by unfold maxLen; omega) (by omega) HBa.out.size ?_)
        intro v wA hown hgrow _
        obtain ⟨LA, dA, rfl, -, HBA, HOA⟩ := app_post (openT).cells HBa.out HBa.out.size HOa.out hown (by simp only [List.append_assoc]) hgrow
        clear hown hgrow HOa HBa HSa
        have hq := (HBA.out.cell (p := ⟨w9.heap.size + 1 + 1, i, none⟩) hQlt).trans hpc
        have HSp := Lib.hid (show ∀ (j : Nat) (u : Value), (p.flatMap Tok.cells)[j]? = some u → wA.cell? ((⟨ap, op, none⟩ : Addr).add j) = some u from fun j u hu => by rw [add_plain]; exact ((HB10.out.trans (HBA.out.mono HB10.out.size)).cell (p := ⟨ap, op + j, none⟩) hap).trans (HPC2.out j u hu))
        go_wp2_with (at_builtin; refine wpList_append_own _ rfl _ _ 22 rfl w10.heap.size 34 i0 _ 3 32 Tryz.underlying22 hi0 hz0 hz1 hz2 rfl (by decide) _ _ _ rfl HOA.out ⟨ap, op, none⟩ p.length cp (p.flatMap Tok.cells) rfl (flat_lenT p) HSp.out (flat_oneT p) (by unfold maxLen; omega) (by omega) HBA.out.size ?_)
        intro v wB hown hgrow _
        obtain ⟨LB, dB, rfl, -, HBB, HOB⟩ := app_post (p.flatMap Tok.cells) HBA.out HBA.out.size HOA.out hown (by simp only [List.append_assoc]) hgrow
        clear hown hgrow HSp
        have HOa := Lib.hid (HOB.out.alloc (.cells #[.int .i64 (closeT).kind, .string (closeT).s, .int .i64 (closeT).pos] 34))
        have HBa := Lib.hid (HBB.out.alloc HBB.out.size (.cells #[.int .i64 (closeT).kind, .string (closeT).s, .int .i64 (closeT).pos] 34))
        have HSa := Lib.hid (tok_src wB (closeT))
        go_wp2_with (at_builtin; refine wpList_append_own _ rfl _ _ 22 rfl w10.heap.size 34 i0 _ 3 32 Tryz.underlying22 hi0 hz0 hz1 hz2 rfl (by decide) _ _ _ rfl HOa.out ⟨wB.heap.size, 0, none⟩ 1 1 (closeT).cells rfl rfl HSa.out (cells_oneT _) (by unfold maxLen; omega) (by omega) HBa.out.size ?_)
        intro v wC hown hgrow _
        obtain ⟨LC, dC, rfl, -, HBC, HOC⟩ := app_post (closeT).cells HBa.out HBa.out.size HOa.out hown (by simp only [List.append_assoc]) hgrow
        clear hown hgrow HOa HBa HSa
        go_wp2_with fail
        have hl : (acc ++ ([openT] ++ (p ++ [closeT]))).length = acc.length + 1 + p.length + 1 := by simp only [List.length_append, List.length_cons, List.length_nil]; omega
        have hN : accT s [a, b, c] (i + 1) = acc ++ ([openT] ++ (p ++ [closeT])) := by rw [HNEXT.out, if_pos H0.out]; rfl
        go_roundw
        case rel =>
          refine ⟨i + 1, dC, LC, acc ++ ([openT] ++ (p ++ [closeT])), by omega, by go_num, by rw [hl], by rw [← hN]; exact HN303, Lib.hid hN.symm, Lib.hid ?_, HBC⟩
          rw [hl]
          have e : (acc ++ ([openT] ++ (p ++ [closeT]))).flatMap Tok.cells = acc.flatMap Tok.cells ++ openT.cells ++ p.flatMap Tok.cells ++ closeT.cells := by simp
          rw [e]; exact HOC.out
        case measure => simp [intOf]; omega
      · have h0' : (0 : Int) < i := by omega
        have hd0 : decide ((0 : Int) < i) = true := by simp; omega
        have H0 := Lib.hid h0
        have hcs := (HB.out.cell (p := ⟨w9.heap.size, kk, none⟩) hSlt).trans HCS.out
        clear h0
        have HOa := Lib.hid (HO.out.alloc (.cells #[.int .i64 ((⟨5, s, 0⟩ : Tok)).kind, .string ((⟨5, s, 0⟩ : Tok)).s, .int .i64 ((⟨5, s, 0⟩ : Tok)).pos] 34))
        have HBa := Lib.hid (HB.out.alloc HB.out.size (.cells #[.int .i64 ((⟨5, s, 0⟩ : Tok)).kind, .string ((⟨5, s, 0⟩ : Tok)).s, .int .i64 ((⟨5, s, 0⟩ : Tok)).pos] 34))
        have HSa := Lib.hid (tok_src wr ((⟨5, s, 0⟩ : Tok)))
        go_wp2_with (at_builtin; refine wpList_append_own _ rfl _ _ 22 rfl w10.heap.size 34 i0 _ 3 32 Tryz.underlying22 hi0 hz0 hz1 hz2 rfl (by decide) _ _ _ rfl HOa.out ⟨wr.heap.size, 0, none⟩ 1 1 ((⟨5, s, 0⟩ : Tok)).cells rfl rfl HSa.out (cells_oneT _) (by unfold maxLen; omega) (by omega) HBa.out.size ?_)
        intro v wZ hown hgrow _
        obtain ⟨LZ, dZ, rfl, -, HBZ, HOZ⟩ := app_post ((⟨5, s, 0⟩ : Tok)).cells HBa.out HBa.out.size HOa.out hown (by simp only [List.append_assoc]) hgrow
        clear hown hgrow HOa HBa HSa
        clear hcs
        have HOa := Lib.hid (HOZ.out.alloc (.cells #[.int .i64 (openT).kind, .string (openT).s, .int .i64 (openT).pos] 34))
        have HBa := Lib.hid (HBZ.out.alloc HBZ.out.size (.cells #[.int .i64 (openT).kind, .string (openT).s, .int .i64 (openT).pos] 34))
        have HSa := Lib.hid (tok_src wZ (openT))
        go_wp2_with (at_builtin; refine wpList_append_own _ rfl _ _ 22 rfl w10.heap.size 34 i0 _ 3 32 Tryz.underlying22 hi0 hz0 hz1 hz2 rfl (by decide) _ _ _ rfl HOa.out ⟨wZ.heap.size, 0, none⟩ 1 1 (openT).cells rfl rfl HSa.out (cells_oneT _) (by unfold maxLen; omega) (by omega) HBa.out.size ?_)
        intro v wA hown hgrow _
        obtain ⟨LA, dA, rfl, -, HBA, HOA⟩ := app_post (openT).cells HBa.out HBa.out.size HOa.out hown (by simp only [List.append_assoc]) hgrow
        clear hown hgrow HOa HBa HSa
        have hq := (HBA.out.cell (p := ⟨w9.heap.size + 1 + 1, i, none⟩) hQlt).trans hpc
        have HSp := Lib.hid (show ∀ (j : Nat) (u : Value), (p.flatMap Tok.cells)[j]? = some u → wA.cell? ((⟨ap, op, none⟩ : Addr).add j) = some u from fun j u hu => by rw [add_plain]; exact ((HB10.out.trans (HBA.out.mono HB10.out.size)).cell (p := ⟨ap, op + j, none⟩) hap).trans (HPC2.out j u hu))
        go_wp2_with (at_builtin; refine wpList_append_own _ rfl _ _ 22 rfl w10.heap.size 34 i0 _ 3 32 Tryz.underlying22 hi0 hz0 hz1 hz2 rfl (by decide) _ _ _ rfl HOA.out ⟨ap, op, none⟩ p.length cp (p.flatMap Tok.cells) rfl (flat_lenT p) HSp.out (flat_oneT p) (by unfold maxLen; omega) (by omega) HBA.out.size ?_)
        intro v wB hown hgrow _
        obtain ⟨LB, dB, rfl, -, HBB, HOB⟩ := app_post (p.flatMap Tok.cells) HBA.out HBA.out.size HOA.out hown (by simp only [List.append_assoc]) hgrow
        clear hown hgrow HSp
        have HOa := Lib.hid (HOB.out.alloc (.cells #[.int .i64 (closeT).kind, .string (closeT).s, .int .i64 (closeT).pos] 34))
        have HBa := Lib.hid (HBB.out.alloc HBB.out.size (.cells #[.int .i64 (closeT).kind, .string (closeT).s, .int .i64 (closeT).pos] 34))
        have HSa := Lib.hid (tok_src wB (closeT))
        go_wp2_with (at_builtin; refine wpList_append_own _ rfl _ _ 22 rfl w10.heap.size 34 i0 _ 3 32 Tryz.underlying22 hi0 hz0 hz1 hz2 rfl (by decide) _ _ _ rfl HOa.out ⟨wB.heap.size, 0, none⟩ 1 1 (closeT).cells rfl rfl HSa.out (cells_oneT _) (by unfold maxLen; omega) (by omega) HBa.out.size ?_)
        intro v wC hown hgrow _
        obtain ⟨LC, dC, rfl, -, HBC, HOC⟩ := app_post (closeT).cells HBa.out HBa.out.size HOa.out hown (by simp only [List.append_assoc]) hgrow
        clear hown hgrow HOa HBa HSa
        go_wp2_with fail
        have hl : (acc ++ ([(⟨5, s, 0⟩ : Tok)] ++ ([openT] ++ (p ++ [closeT])))).length = acc.length + 1 + 1 + p.length + 1 := by simp only [List.length_append, List.length_cons, List.length_nil]; omega
        have hN : accT s [a, b, c] (i + 1) = acc ++ ([(⟨5, s, 0⟩ : Tok)] ++ ([openT] ++ (p ++ [closeT]))) := by rw [HNEXT.out, if_neg H0.out]
        go_roundw
        case rel =>
          refine ⟨i + 1, dC, LC, acc ++ ([(⟨5, s, 0⟩ : Tok)] ++ ([openT] ++ (p ++ [closeT]))), by omega, by go_num, by rw [hl], by rw [← hN]; exact HN303, Lib.hid hN.symm, Lib.hid ?_, HBC⟩
          rw [hl]
          have e : (acc ++ ([(⟨5, s, 0⟩ : Tok)] ++ ([openT] ++ (p ++ [closeT])))).flatMap Tok.cells = acc.flatMap Tok.cells ++ (⟨5, s, 0⟩ : Tok).cells ++ openT.cells ++ p.flatMap Tok.cells ++ closeT.cells := by simp
          rw [e]; exact HOC.out
        case measure => simp [intOf]; omega
    · obtain rfl : i = 3 := by omega
      have hus : acc = leftT s a b c := by rw [HA.out, accT_three]
      subst hus
      obtain ⟨hm1, hm2, hm3⟩ := own_max HO.out
      have HBw := Lib.hid (HB10.out.trans (HB.out.mono HB10.out.size))
      have hmem := List.mem_of_getElem? HSO.out
      have hpl := parseW_left hmem RA.out.symm RB.out.symm RC.out.symm (by rw [← NA.out, ← NB.out, ← NC.out]; omega) (by omega)
      have hp := parse_c L' d (leftT s a b c) wr (Arr.ofOwn HO.out) hm1 (by unfold maxLen at hm2; omega) (by
        have hss : s.size ≤ 2 := of_decide_eq_true (List.all_eq_true.1 left_small _ hmem)
        intro t ht
        simp only [leftT, List.mem_cons, List.mem_append, List.not_mem_nil, or_false] at ht
        rcases ht with rfl | ht | rfl | rfl | rfl | ht | rfl | rfl | rfl | ht | rfl
        all_goals first | exact TA.out.small _ ht | exact TB.out.small _ ht | exact TC.out.small _ ht | (show ByteArray.size _ ≤ _; exact Nat.le_trans (show ByteArray.size _ ≤ 2 from hss) (by decide)) | (show ByteArray.size _ ≤ _; decide)) (HV.out.below HBw.out) (fun b off sp e => (hm3 b off sp e).2)
      have hx0 := parse_nodes_pos RA.out.symm
      have hy0' := parse_nodes_pos RB.out.symm
      have hz0' := parse_nodes_pos RC.out.symm
      obtain ⟨R, hR⟩ : ∃ R, R = opN o :: opN o :: (x ++ (y ++ z)) := ⟨_, rfl⟩
      rw [hpl, ← hR] at hp
      have HP := Lib.hid hp
      have hRl : R.length = 2 + x.length + y.length + z.length := by rw [hR]; simp only [List.length_cons, List.length_append]; omega
      have HR := Lib.hid hR
      have HRL := Lib.hid hRl
      clear hp hpl hmem hm1 hm2 hm3 hR hRl hi
      generalize leftT s a b c = us at HA HO HP
      go_wp2_with fail
      refine HP.out.mono ?_
      rintro e wp ⟨Bu, du, rfl, hdu, hnu, hzu, hbu⟩
      have HBp := Lib.hid (HB.out.trans (hbu.mono HB.out.size))
      have NU := Lib.hid hnu
      have hco := (HBp.out.cell (p := ⟨w9.heap.size + 1, kk, none⟩) hOlt).trans HCO.out
      obtain ⟨bx, ox, rfl, hbx, hcx⟩ := (NX10.out.below HBp.out).2 hx0
      obtain ⟨bY, oY, rfl, hby, hcy⟩ := (NY10.out.below HBp.out).2 hy0'
      obtain ⟨bz, oz, rfl, hbz, hcz⟩ := (NZ10.out.below HBp.out).2 hz0'
      obtain ⟨j0, hj0, hy0, hy1, hy2⟩ := info_parts nodeInfo
      have HO1 := Lib.hid (own_two (wp.alloc (.cells #[.int .i64 (opN o).op, .int .i64 (opN o).n, .string (opN o).s, .string (opN o).t] 31)) wp.heap.size (opN o) (opN o) (by simp))
      rw [show (wp.alloc (.cells #[.int .i64 (opN o).op, .int .i64 (opN o).n, .string (opN o).s, .string (opN o).t] 31)).heap.size = wp.heap.size + 1 by simp] at HO1
      have HBq : Hid (Below wp.heap.size wp ((wp.alloc (.cells #[.int .i64 (opN o).op, .int .i64 (opN o).n, .string (opN o).s, .string (opN o).t] 31)).alloc (.cells #[.int .i64 (opN o).op, .int .i64 (opN o).n, .string (opN o).s, .string (opN o).t, .int .i64 (opN o).op, .int .i64 (opN o).n, .string (opN o).s, .string (opN o).t] 31))) := ((Below.refl _ _).alloc (Nat.le_refl _) _).alloc (by simp) _
      have HS1 := Lib.hid (node_src HBq.out hbx hcx)
      have HCY := Lib.hid hcy
      have HCZ := Lib.hid hcz
      have HPW := Lib.hid (HBw.out.trans (hbu.mono HBw.out.size))
      clear hbu hnu hzu hdu hcx hcy hcz HPARTS HACC
      go_wp2_with (at_builtin; refine wpList_append_own _ rfl _ _ 23 rfl wp.heap.size 31 j0 _ 4 48 Tryz.underlying23 hj0 hy0 hy1 hy2 rfl (by decide) _ _ _ rfl HO1.out ⟨bx, ox, none⟩ x.length d7 (x.flatMap Node.cells) rfl (flat_len x) HS1.out (flat_one x) (by unfold maxLen; omega) (by omega) HBq.out.size ?_)
      intro v wX hown hgrow _
      obtain ⟨LX, dX, rfl, -, HBX, HOX⟩ := app_post (x.flatMap Node.cells) HBq.out HBq.out.size HO1.out hown (by simp) hgrow
      clear hown hgrow
      have HS2 := Lib.hid (node_src HBX.out hby HCY.out)
      go_wp2_with (at_builtin; refine wpList_append_own _ rfl _ _ 23 rfl wp.heap.size 31 j0 _ 4 48 Tryz.underlying23 hj0 hy0 hy1 hy2 rfl (by decide) _ _ _ rfl HOX.out ⟨bY, oY, none⟩ y.length d8 (y.flatMap Node.cells) rfl (flat_len y) HS2.out (flat_one y) (by unfold maxLen; omega) (by omega) HBX.out.size ?_)
      intro v wY hown hgrow _
      obtain ⟨LY, dY, rfl, -, HBY, HOY⟩ := app_post (y.flatMap Node.cells) HBX.out HBX.out.size HOX.out hown (by simp) hgrow
      clear hown hgrow
      have HS3 := Lib.hid (node_src HBY.out hbz HCZ.out)
      go_wp2_with (at_builtin; refine wpList_append_own _ rfl _ _ 23 rfl wp.heap.size 31 j0 _ 4 48 Tryz.underlying23 hj0 hy0 hy1 hy2 rfl (by decide) _ _ _ rfl HOY.out ⟨bz, oz, none⟩ z.length d9 (z.flatMap Node.cells) rfl (flat_len z) HS3.out (flat_one z) (by unfold maxLen; omega) (by omega) HBY.out.size ?_)
      intro v wZ hown hgrow _
      obtain ⟨LZ, dZ, rfl, -, HBZ, HOZ⟩ := app_post (z.flatMap Node.cells) HBY.out HBY.out.size HOY.out hown (by simp) hgrow
      clear hown hgrow
      have hall : NodesAt wZ LZ R := by
        unfold NodesAt
        rw [HRL.out]
        have e : R.flatMap Node.cells = [opN o, opN o].flatMap Node.cells ++ x.flatMap Node.cells ++ y.flatMap Node.cells ++ z.flatMap Node.cells := by rw [HR.out]; simp
        rw [e]
        exact Arr.ofOwn HOZ.out
      have HALL := Lib.hid hall
      have NUZ := Lib.hid (NU.out.below HBZ.out)
      have HBZW := Lib.hid (HPW.out.trans (HBZ.out.mono HPW.out.size))
      have hR200 : R.length ≤ 1000000 := by rw [HRL.out]; omega
      have HN := Lib.hid (nodes_c Bu LZ du dZ R R wZ NUZ.out HALL.out hR200 hR200)
      rw [show Value.slice LZ R.length dZ = Value.slice LZ (2 + x.length + y.length + z.length) dZ by rw [HRL.out]] at HN
      clear hall hR200
      go_wp2_with fail
      refine HN.out.mono ?_
      rintro e wf ⟨rfl, mf, hwf⟩
      rw [decide_true]
      have HBF : Hid (Below w.heap.size w wf) := by rw [hwf]; exact below_drewN HBZW.out mf
      clear hwf
      go_wp2_with fail
      go_ret
      exact ⟨rfl, HBF.out⟩
end Go.Proofs.YtfaadlfaimhbbaaGreatDoor

namespace Go.Proofs.YtfaadlfaimhbbaaGreatDoor
open Go.ChangeShapes Go.WideShapes Go.ChangeAt Go.RowKit
set_option maxRecDepth 100000

/-- Nodes that came in. -/
structure NodeArg (w : World) (A : Option Addr) (c : Nat) (ns : List Node) : Prop where
  at_ : NodesAt w A ns
  cap : ns.length ≤ c
  max : c ≤ 9223372036854775807
  len : ns.length ≤ 2000000
  small : ∀ t ∈ ns, t.s.size ≤ 2000000 ∧ t.t.size ≤ 2000000 ∧ (-9223372036854775808 ≤ t.op ∧ t.op ≤ 9223372036854775807) ∧ (-9223372036854775808 ≤ t.n ∧ t.n ≤ 9223372036854775807)
  old : ∀ b off sp, A = some ⟨b, off, sp⟩ → b < w.heap.size
section
variable {H : Type} {enc : TypeId × Value → H} {W : World} {base : Nat} {held : Bool}
theorem open_tokArg {base' : Nat} {v : Value} {d : DataW H} {p : List MemPlace} (hv : Value.okWide Tryz.prog W .any base' 22 v) (h : DataW.Trod enc Tryz.prog W base (fun _ => true) held 22 v d p) (hN : Rows.uptoBulk d ≤ 1048576) :
    ∃ A c ts, v = .slice A ts.length c ∧ TokArg W A c ts := by
  obtain ⟨A, c, ts, rfl, h1, h2, h3, h4, h5, h6⟩ := open_toks hv h hN
  exact ⟨A, c, ts, rfl, h1, h2, h3, by omega, fun t ht => Nat.le_trans (h5 t ht) (by decide), h6⟩
theorem open_nodeArg {base' : Nat} {v : Value} {d : DataW H} {p : List MemPlace} (hv : Value.okWide Tryz.prog W .any base' 23 v) (h : DataW.Trod enc Tryz.prog W base (fun _ => true) held 23 v d p) (hN : Rows.uptoBulk d ≤ 1048576) :
    ∃ A c ns, v = .slice A ns.length c ∧ NodeArg W A c ns := by
  obtain ⟨A, c, ns, rfl, h1, h2, h3, h4, h5, h6⟩ := open_nodes hv h hN
  exact ⟨A, c, ns, rfl, h1, h2, h3, by omega, fun t ht => ⟨Nat.le_trans (h5 t ht).1 (by decide), Nat.le_trans (h5 t ht).2.1 (by decide), (h5 t ht).2.2⟩, h6⟩
end
end Go.Proofs.YtfaadlfaimhbbaaGreatDoor
