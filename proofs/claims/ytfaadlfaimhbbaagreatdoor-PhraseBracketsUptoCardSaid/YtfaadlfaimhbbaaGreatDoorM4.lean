/-
  The parser's small methods: is, take, need, word, reserved.
  phrase.node, phrase.op: a node and its parts in one row.
  The parser's functions, each by the contracts of those that it calls: what stands in memory; 'whole'.
  The maps of signs that the parser's chains make and look up.
  The parser's chain: parts with signs between, from the left.
  The parser's four chains: either, both, sum, prod.
  The parser's 'rel': two sums with a sign or a word between.
  The parser's 'sign': the signs ahead of an expression.
-/
import Derived.Test.YtfaadlfaimhbbaaGreatDoorM3
namespace Go.Proofs.YtfaadlfaimhbbaaGreatDoor
open Go.RowKit

def tup0 : Value := .tuple #[]
set_option maxRecDepth 100000 in
set_option maxHeartbeats 1000000 in
theorem is_c {g : Nat} {A : Option Addr} {c : Nat} {ts : List Tok} {i : Nat} {w : World} (h : Ps g A c ts i w) (l : List UInt8) :
    Calls Tryz.prog 39 #[.pointer (some ⟨g, 0, none⟩), .string ⟨l.toArray⟩] w fun e w' => e = .returned (.bool (isAt ts i l)) ∧ Below w.heap.size w w' := by
  have HC := Lib.hid (ahead_c h 0 (by omega) l)
  rw [Nat.add_zero] at HC
  clear h
  generalize (Value.string ⟨l.toArray⟩) = S at HC ⊢
  go_enter Tryz.func39, Tryz.ntmps39
  go_wp2_with (go_at_call 40; refine HC.out.mono ?_; rintro e w1 ⟨rfl, h1⟩)
  go_ret
  exact ⟨rfl, h1⟩

set_option maxRecDepth 100000 in
set_option maxHeartbeats 1000000 in
theorem take_c {g : Nat} {A : Option Addr} {c : Nat} {ts : List Tok} {i : Nat} {w : World} (h : Ps g A c ts i w) (l : List UInt8) :
    Calls Tryz.prog 78 #[.pointer (some ⟨g, 0, none⟩), .string ⟨l.toArray⟩] w fun e w' => e = .returned (.bool (isAt ts i l)) ∧ Only g w w' ∧ Ps g A c ts (if isAt ts i l then i + 1 else i) w' := by
  have HC := Lib.hid (is_c h l)
  have H := Lib.hid h
  generalize (Value.string ⟨l.toArray⟩) = S at HC ⊢
  cases hb : isAt ts i l with
  | true =>
    have hlt := isAt_lt hb
    have hl := h.len
    rw [hb] at HC
    clear h hb
    go_enter Tryz.func78, Tryz.ntmps78
    go_wp2_with (go_at_call 39; refine HC.out.mono ?_; rintro e w1 ⟨rfl, h1⟩; have H1 := Lib.hid (H.out.below h1); have HB := Lib.hid h1; obtain ⟨c0, c1, f0, f1⟩ := H1.out.cells; clear h1)
    go_ret
    exact ⟨rfl, (Only.ofBelow HB.out).trans ((Only.refl g _).set_ 1 _), H1.out.step (j := i + 1) hlt⟩
  | false =>
    rw [hb] at HC
    clear h hb
    go_enter Tryz.func78, Tryz.ntmps78
    go_wp2_with (go_at_call 39; refine HC.out.mono ?_; rintro e w1 ⟨rfl, h1⟩)
    go_ret
    exact ⟨rfl, Only.ofBelow h1, H.out.below h1⟩

set_option maxRecDepth 100000 in
set_option maxHeartbeats 1000000 in
theorem need_yes {g : Nat} {A : Option Addr} {c : Nat} {ts : List Tok} {i : Nat} {w : World} (h : Ps g A c ts i w) (l : List UInt8) (hb : isAt ts i l = true) :
    Calls Tryz.prog 42 #[.pointer (some ⟨g, 0, none⟩), .string ⟨l.toArray⟩] w fun e w' => e = .returned (.tuple #[]) ∧ Only g w w' ∧ Ps g A c ts (i + 1) w' := by
  have HC := Lib.hid (take_c h l)
  have hnot : ∀ (x : Bool) (w : World), (Op.unary .not (.bool x)).run Tryz.prog w = .ok (.bool (!x)) w := fun _ _ => rfl
  generalize (Value.string ⟨l.toArray⟩) = S at HC ⊢
  rw [hb] at HC
  clear h hb
  go_enter Tryz.func42, Tryz.ntmps42
  go_wp2_with (go_at_call 78; refine HC.out.mono ?_; rintro e w1 ⟨rfl, h1, h2⟩; rw [if_pos rfl] at h2)
  go_end0
  exact ⟨rfl, h1, h2⟩
set_option maxRecDepth 100000 in
set_option maxHeartbeats 1000000 in
theorem need_no {g : Nat} {A : Option Addr} {c : Nat} {ts : List Tok} {i : Nat} {w : World} (h : Ps g A c ts i w) (l : List UInt8) (hb : isAt ts i l = false) :
    Calls Tryz.prog 42 #[.pointer (some ⟨g, 0, none⟩), .string ⟨l.toArray⟩] w fun e w' => e = pan (wrongV 1 i) ∧ Only g w w' := by
  have HC := Lib.hid (take_c h l)
  have hnot : ∀ (x : Bool) (w : World), (Op.unary .not (.bool x)).run Tryz.prog w = .ok (.bool (!x)) w := fun _ _ => rfl
  generalize (Value.string ⟨l.toArray⟩) = S at HC ⊢
  rw [hb] at HC
  clear h hb
  go_enter Tryz.func42, Tryz.ntmps42
  go_wp2_with (first
    | (go_at_call 78; refine HC.out.mono ?_; rintro e w1 ⟨rfl, h1, h2⟩; rw [if_neg (by decide)] at h2)
    | (go_at_call 25; refine (fail_c h2).mono ?_; rintro e w2 ⟨rfl, rfl⟩; unfold pan))
  exact ⟨rfl, rfl, h1⟩

theorem kindAt_some {ts : List Tok} {i : Nat} {t : Tok} (ht : ts[i]? = some t) : kindAt ts i = t.kind := by unfold kindAt; rw [ht]
theorem kindAt_is {ts : List Tok} {i : Nat} {k : Int} (hk : k ≠ 0) (h : kindAt ts i = k) : ∃ t, ts[i]? = some t ∧ t.kind = k := by
  unfold kindAt at h
  cases ht : ts[i]? with
  | none => rw [ht] at h; exact absurd h.symm hk
  | some t => rw [ht] at h; exact ⟨t, rfl, h⟩
set_option maxRecDepth 100000 in
set_option maxHeartbeats 1000000 in
/-- 'word' where the next word is of that kind. -/
theorem word_yes {g : Nat} {A : Option Addr} {c : Nat} {ts : List Tok} {i : Nat} {w : World} (h : Ps g A c ts i w) (k : Int) (t : Tok) (ht : ts[i]? = some t) (hkk : t.kind = k) :
    Calls Tryz.prog 144 #[.pointer (some ⟨g, 0, none⟩), .int .i64 k] w fun e w' => e = .returned (.string t.s) ∧ Only g w w' ∧ Ps g A c ts (i + 1) w' := by
  have HC := Lib.hid (kind_c h)
  rw [kindAt_some ht, hkk] at HC
  have H := Lib.hid h
  have HT := Lib.hid ht
  have hlt := lt_of_some ht
  have hl := h.len
  clear h ht hkk
  go_enter Tryz.func144, Tryz.ntmps144
  go_wp2_with (go_at_call 112; refine HC.out.mono ?_; rintro e w1 ⟨rfl, m, rfl⟩; have H1 := Lib.hid (H.out.drewN m); obtain ⟨c0, c1, f0, f1⟩ := H1.out.cells)
  have H2 := Lib.hid (H1.out.step (j := i + 1) hlt)
  have HO := Lib.hid ((below_drewN (Below.refl w.heap.size w) m).grown (World.grownBy.refl _ none) (Nat.le_refl _) (fun k h => by cases h))
  have HO2 := Lib.hid ((Only.refl g (w.drewN m)).set_ 1 (.int .i64 ((i + 1 : Nat) : Int)))
  clear c0 c1 f0 f1
  rw [show (i : Int) + 1 = ((i + 1 : Nat) : Int) from rfl]
  generalize (w.drewN m).setCell ⟨g, 1, none⟩ (.int .i64 ((i + 1 : Nat) : Int)) = w2 at H2 HO2 ⊢
  obtain ⟨c0, c1, f0, f1⟩ := H2.out.cells
  obtain ⟨b, off, rfl, hb1, d0, d1, d2⟩ := H2.out.toks.at_ HT.out
  have hlti : (i : Int) < ts.length := by omega
  go_quiet (fail)
  revert nq
  intro n1
  go_wp2_with fail
  go_ret
  exact ⟨rfl, (Only.ofBelow HO.out).trans (HO2.out.drewN n1), H2.out.drewN n1⟩
set_option maxRecDepth 100000 in
set_option maxHeartbeats 1000000 in
theorem word_no {g : Nat} {A : Option Addr} {c : Nat} {ts : List Tok} {i : Nat} {w : World} (h : Ps g A c ts i w) (k : Int) (hk : kindAt ts i ≠ k) :
    Calls Tryz.prog 144 #[.pointer (some ⟨g, 0, none⟩), .int .i64 k] w fun e w' => e = pan (wrongV 1 i) ∧ Only g w w' := by
  have HC := Lib.hid (kind_c h)
  have H := Lib.hid h
  have hne : (kindAt ts i != k) = true := by simp [hk]
  generalize kindAt ts i = k0 at HC hne
  clear h hk
  go_enter Tryz.func144, Tryz.ntmps144
  go_wp2_with (first
    | (go_at_call 112; refine HC.out.mono ?_; rintro e w1 ⟨rfl, m, rfl⟩)
    | (go_at_call 25; refine (fail_c (H.out.drewN m)).mono ?_; rintro e w2 ⟨rfl, rfl⟩; unfold pan))
  exact ⟨rfl, rfl, Only.ofBelow (below_drewN (Below.refl _ _) m)⟩

set_option maxRecDepth 100000 in
set_option maxHeartbeats 1000000 in
theorem reservedM_c {g : Nat} {A : Option Addr} {c : Nat} {ts : List Tok} {i : Nat} {w : World} (h : Ps g A c ts i w) (hi : i < ts.length) :
    Calls Tryz.prog 226 #[.pointer (some ⟨g, 0, none⟩)] w fun e w' => e = pan (wrongV 1 ((i + 1 : Nat) : Int)) ∧ Only g w w' := by
  obtain ⟨c0, c1, f0, f1⟩ := h.cells
  have hl := h.len
  have H := Lib.hid h
  clear h
  go_enter Tryz.func226, Tryz.ntmps226
  go_wp2_with (go_at_call 25; refine (fail_c (H.out.step (j := i + 1) hi)).mono ?_; rintro e w2 ⟨rfl, rfl⟩; unfold pan)
  exact ⟨rfl, rfl, (Only.refl g w).set_ 1 _⟩
end Go.Proofs.YtfaadlfaimhbbaaGreatDoor

namespace Go.Proofs.YtfaadlfaimhbbaaGreatDoor
open Go.RowKit

def NewAt (N : Nat) (A : Option Addr) : Prop := ∀ b off sp, A = some ⟨b, off, sp⟩ → N ≤ b
theorem NewAt.mono {N M : Nat} {A : Option Addr} (h : NewAt N A) (hM : M ≤ N) : NewAt M A := fun b off sp e => Nat.le_trans hM (h b off sp e)
theorem Arr.only {w w' : World} {k n : Nat} {A : Option Addr} {xs : List Value} {g : Nat} (h : Arr w k A n xs) (ho : Only g w w') (hne : ∀ b off sp, A = some ⟨b, off, sp⟩ → b ≠ g) : Arr w' k A n xs := Only.arr ho h hne
/-- A row of slices of nodes; none of them is empty. -/
def PartsAt (w : World) (P : Option Addr) (l : List (List Node)) : Prop :=
  ∃ vs : List Value, vs.length = l.length ∧ Arr w 1 P l.length vs ∧ ∀ (k : Nat) (p : List Node), l[k]? = some p → ∃ B m, vs[k]? = some (.slice B p.length m) ∧ p.length ≤ m ∧ NodesAt w B p ∧ 0 < p.length
theorem PartsAt.below {w w' : World} {P : Option Addr} {l : List (List Node)} (h : PartsAt w P l) (hb : Below w.heap.size w w') : PartsAt w' P l := by
  obtain ⟨vs, h1, h2, h3⟩ := h
  refine ⟨vs, h1, h2.below hb, fun k p hk => ?_⟩
  obtain ⟨B, m, e1, e2, e3, e4⟩ := h3 k p hk
  exact ⟨B, m, e1, e2, e3.below hb, e4⟩
theorem PartsAt.at_ {w : World} {P : Option Addr} {l : List (List Node)} (h : PartsAt w P l) {k : Nat} {p : List Node} (hk : l[k]? = some p) :
    ∃ b off a o m, P = some ⟨b, off, none⟩ ∧ b < w.heap.size ∧ w.cell? ⟨b, off + k, none⟩ = some (.slice (some ⟨a, o, none⟩) p.length m) ∧ p.length ≤ m ∧ a < w.heap.size ∧
      (∀ j u, (p.flatMap Node.cells)[j]? = some u → w.cell? ((⟨a, o, none⟩ : Addr).add j) = some u) := by
  obtain ⟨vs, h1, h2, h3⟩ := h
  obtain ⟨B, m, e1, e2, e3, e4⟩ := h3 k p hk
  obtain ⟨b, off, rfl, hb, hc⟩ := h2.2 (by have := lt_of_some hk; omega)
  obtain ⟨a, o, rfl, ha, hn⟩ := e3.2 e4
  exact ⟨b, off, a, o, m, rfl, hb, hc k _ e1, e2, ha, fun j u hu => by rw [add_plain]; exact hn j u hu⟩

set_option maxRecDepth 100000 in
theorem nodeInfo : (Tryz.prog.info? 31).map (fun i => (i.zero, i.size, i.bytes)) = some (some (.agg #[.int .i64 0, .int .i64 0, .string ⟨#[]⟩, .string ⟨#[]⟩]), 4, 48) := by kernel_rfl
theorem cells_one (x : Node) : ∀ u ∈ x.cells, u.oneCell' = true := by
  intro u hu; simp only [Node.cells, List.mem_cons, List.not_mem_nil, or_false] at hu
  rcases hu with rfl | rfl | rfl | rfl <;> rfl
theorem flat_one (l : List Node) : ∀ u ∈ l.flatMap Node.cells, u.oneCell' = true := by
  intro u hu
  obtain ⟨x, _, hx⟩ := List.mem_flatMap.1 hu
  exact cells_one x u hx
theorem flat_len (l : List Node) : (l.flatMap Node.cells).length = l.length * 4 := by
  induction l with
  | nil => rfl
  | cons x l ih => simp only [List.flatMap_cons, List.length_append, List.length_cons, ih]; simp only [Node.cells, List.length_cons, List.length_nil]; omega
theorem own_one (w : World) (base : Nat) (x : Node) (hb : base ≤ w.heap.size) :
    (w.alloc (.cells #[.int .i64 x.op, .int .i64 x.n, .string x.s, .string x.t] 31)).ownsRow base 31 4 (.slice (some ⟨w.heap.size, 0, none⟩) 1 1) 1 ([x].flatMap Node.cells) := by
  refine ⟨rfl, .inr ⟨w.heap.size, 1, _, rfl, hb, Blk.new w _ _, Nat.le_refl _, by unfold maxLen; omega, rfl, rfl⟩⟩

set_option maxRecDepth 100000 in
set_option maxHeartbeats 1000000 in
theorem node_c (x : Node) (P : Option Addr) (c : Nat) (parts : List (List Node)) (w : World) (hp : PartsAt w P parts) (hlen : parts.flatten.length ≤ 100000) :
    Calls Tryz.prog 79 #[x.val, .slice P parts.length c] w fun e w' => ∃ B m, e = .returned (.slice B (x :: parts.flatten).length m) ∧ (x :: parts.flatten).length ≤ m ∧ NodesAt w' B (x :: parts.flatten) ∧ NewAt w.heap.size B ∧ Below w.heap.size w w' := by
  obtain ⟨n, hn⟩ : ∃ n, n = parts.length := ⟨_, rfl⟩
  have hnl : n ≤ 100000 := by
    have : ∀ l : List (List Node), (∀ p ∈ l, 0 < p.length) → l.length ≤ l.flatten.length := by
      intro l
      induction l with
      | nil => intro _; simp
      | cons p l ih =>
        intro h
        have h1 := h p (by simp)
        have h2 := ih (fun q hq => h q (by simp [hq]))
        simp only [List.length_cons, List.flatten_cons, List.length_append]; omega
    obtain ⟨vs, h1, h2, h3⟩ := hp
    have := this parts (fun p hp => by
      obtain ⟨k, hk⟩ := List.mem_iff_getElem?.1 hp
      obtain ⟨B, m, e1, e2, e3, e4⟩ := h3 k p hk
      exact e4)
    omega
  rw [← hn]
  have HN := Lib.hid hn
  have HP := Lib.hid hp
  have HLEN := Lib.hid hlen
  obtain ⟨i0, hi0, hz0, hz1, hz2⟩ := info_parts nodeInfo
  have hown0 := own_one (w.alloc (.cells #[.int .i64 x.op, .int .i64 x.n, .string x.s, .string x.t] 31)) w.heap.size x (by simp)
  have HOWN0 := Lib.hid hown0
  obtain ⟨R, hR⟩ : ∃ R, R = x :: parts.flatten := ⟨_, rfl⟩
  rw [← hR]
  have HR := Lib.hid hR
  clear hn hp hlen hown0 hR
  unfold Node.val
  go_enter Tryz.func79, Tryz.ntmps79
  go_wp2_with fail
  have hb0 : Below w.heap.size w ((w.alloc (.cells #[.int .i64 x.op, .int .i64 x.n, .string x.s, .string x.t] 31)).alloc (.cells #[.int .i64 x.op, .int .i64 x.n, .string x.s, .string x.t] 31)) :=
    ((Below.refl _ w).alloc (Nat.le_refl _) _).alloc (by simp) _
  go_loopw [5, 12] (fun lv iv wr => ∃ (k d : Nat) (L : Option Addr) (acc : List Node), k ≤ n ∧ iv = .int .i64 k ∧ lv = .slice L acc.length d ∧ Hid (acc.length ≤ d) ∧ Hid (acc = x :: (parts.take k).flatten) ∧ Hid (wr.ownsRow w.heap.size 31 4 (.slice L acc.length d) acc.length (acc.flatMap Node.cells)) ∧ Hid (Below w.heap.size w wr))
    (fun _ iv _ => n - (intOf iv).toNat)
  case atStart => exact ⟨0, 1, some ⟨w.heap.size + 1, 0, none⟩, [x], Nat.zero_le _, rfl, rfl, Lib.hid (Nat.le_refl _), Lib.hid (by simp), Lib.hid (by simpa using HOWN0.out), Lib.hid hb0⟩
  case round =>
    obtain ⟨k, d, L, acc, hk, rfl, rfl, hd, hacc, hown, hb⟩ := hrel
    by_cases hlt : k < n
    · obtain ⟨p, hpk⟩ : ∃ p, parts[k]? = some p := ⟨_, List.getElem?_eq_getElem (by rw [← HN.out]; exact hlt)⟩
      obtain ⟨b, off, a, o, m, rfl, hbl, hcell, hpm, hal, hnews⟩ := (HP.out.below hb.out).at_ hpk
      have hlt' : (k : Int) < n := by omega
      have htk := take_one hpk
      have hacc2 : acc ++ p = x :: (parts.take (k + 1)).flatten := by rw [htk, List.flatten_append, hacc.out]; simp
      have hle : (acc ++ p).length ≤ 100001 := by
        have h1 := HLEN.out
        have h2 : parts.flatten = (parts.take (k + 1)).flatten ++ (parts.drop (k + 1)).flatten := by rw [← List.flatten_append, List.take_append_drop]
        rw [hacc2]
        rw [h2, List.length_append] at h1
        simp only [List.length_cons]; omega
      rw [List.length_append] at hle
      have HACC2 := Lib.hid hacc2
      have HNEWS := Lib.hid hnews
      clear hpk htk hacc2 hnews
      go_wp2_with (at_builtin; refine wpList_append_own _ rfl _ _ 23 rfl w.heap.size 31 i0 _ 4 48 Tryz.underlying23 hi0 hz0 hz1 hz2 rfl (by decide) _ _ _ rfl hown.out ⟨a, o, none⟩ p.length m (p.flatMap Node.cells) rfl (flat_len p) HNEWS.out (flat_one p) (by unfold maxLen; omega) (by omega) hb.out.size ?_)
      intro v' w4 hown4 hgrow4 _
      obtain ⟨L', d', hv, hd'⟩ := own_slice hown4
      subst hv
      have hb4 := below_own hb.out hown.out hgrow4 (Nat.le_refl _) hb.out.size
      have hlen2 : (acc ++ p).length = acc.length + p.length := List.length_append
      have HB4 := Lib.hid hb4
      have HOWN := Lib.hid hown4
      clear hb4 hown4 hgrow4
      go_wp2_with fail
      go_roundw
      case rel =>
        refine ⟨k + 1, d', L', acc ++ p, by omega, rfl, by rw [hlen2], Lib.hid (by rw [hlen2]; exact hd'), HACC2, Lib.hid ?_, HB4⟩
        rw [hlen2, List.flatMap_append]
        exact HOWN.out
      case measure => simp [intOf]; omega
    · obtain rfl : k = n := by omega
      have hfull : parts.take k = parts := List.take_of_length_le (by rw [← HN.out]; exact Nat.le_refl _)
      rw [hfull] at hacc
      clear hfull
      obtain rfl : R = acc := by rw [HR.out, ← hacc.out]
      clear hacc
      go_wp2_with fail
      go_ret
      refine ⟨L, d, rfl, hd.out, Arr.ofOwn hown.out, ?_, hb.out⟩
      intro b' off' sp e
      subst e
      exact (hown.out.lt b' rfl).1

set_option maxRecDepth 100000 in
set_option maxHeartbeats 1000000 in
theorem op_c (o : Int) (P : Option Addr) (c : Nat) (parts : List (List Node)) (w : World) (hp : PartsAt w P parts) (hlen : parts.flatten.length ≤ 100000) :
    Calls Tryz.prog 43 #[.int .i64 o, .slice P parts.length c] w fun e w' => ∃ B m, e = .returned (.slice B (opN o :: parts.flatten).length m) ∧ (opN o :: parts.flatten).length ≤ m ∧ NodesAt w' B (opN o :: parts.flatten) ∧ NewAt w.heap.size B ∧ Below w.heap.size w w' := by
  have hc := node_c (opN o) P c parts w hp hlen
  unfold Node.val at hc
  have HC := Lib.hid hc
  unfold opN at HC ⊢
  simp only at HC
  generalize (Node.mk o 0 ⟨#[]⟩ ⟨#[]⟩) :: parts.flatten = R at HC ⊢
  clear hc hp hlen
  go_enter Tryz.func43, Tryz.ntmps43
  go_wp2_with (go_at_call 79; refine HC.out.mono ?_; rintro e w1 ⟨B, m, rfl, h1⟩)
  go_ret
  exact ⟨B, m, rfl, h1⟩
end Go.Proofs.YtfaadlfaimhbbaaGreatDoor

namespace Go.Proofs.YtfaadlfaimhbbaaGreatDoor
open Go.RowKit

def PPost (g : Nat) (A : Option Addr) (c : Nat) (ts : List Tok) (w : World) (r : PRes) (e : Ending) (w' : World) : Prop :=
  match r with
  | .ok (ns, j) => ∃ B m, e = .returned (.slice B ns.length m) ∧ ns.length ≤ m ∧ NodesAt w' B ns ∧ NewAt w.heap.size B ∧ Only g w w' ∧ Ps g A c ts j w'
  | .error (er, j) => e = pan (wrongV er j) ∧ Only g w w'
def pfFn : PF → Option FuncId
  | .whole => some 24
  | .either => some 41
  | .both => some 77
  | .rel => some 113
  | .sum => some 143
  | .prod => some 159
  | .sign => some 175
  | .post => some 192
  | .atom => some 210
  | .set [] => some 222
  | .recd [] s => if s = ⟨#[]⟩ then some 223 else none
  | _ => none
def Good (g : Nat) (A : Option Addr) (c : Nat) (ts : List Tok) (k : Nat) : Prop :=
  ∀ (pf : PF) (fn : FuncId) (i : Nat) (r : PRes) (w : World), pfFn pf = some fn → run ts k pf i = some r → Ps g A c ts i w → Calls Tryz.prog fn #[.pointer (some ⟨g, 0, none⟩)] w (PPost g A c ts w r)

theorem then_cases {r : PR} {k : List Node → Nat → PR} {x : PRes} (h : PR.then r k = some x) : (∃ e i, r = some (.error (e, i)) ∧ x = .error (e, i)) ∨ (∃ ns j, r = some (.ok (ns, j)) ∧ k ns j = some x) := by
  cases r with
  | none => cases h
  | some y =>
    cases y with
    | error e => exact .inl ⟨e.1, e.2, rfl, by injection h with h; exact h.symm⟩
    | ok p => exact .inr ⟨p.1, p.2, rfl, h⟩
theorem need_cases {ts : List Tok} {i : Nat} {s : List UInt8} {k : Nat → PR} {x : PRes} (h : needP ts i s k = some x) : (isAt ts i s = true ∧ k (i + 1) = some x) ∨ (isAt ts i s = false ∧ x = .error (1, i)) := by
  unfold needP at h
  cases hb : isAt ts i s with
  | true => rw [hb, if_pos rfl] at h; exact .inl ⟨rfl, h⟩
  | false => rw [hb, if_neg (by decide)] at h; injection h with h; exact .inr ⟨rfl, h.symm⟩
theorem word_cases {ts : List Tok} {i : Nat} {c : Int} {k : ByteArray → Nat → PR} {x : PRes} (hc : c ≠ 0) (h : wordP ts i c k = some x) : (∃ t, ts[i]? = some t ∧ t.kind = c ∧ k t.s (i + 1) = some x) ∨ (kindAt ts i ≠ c ∧ x = .error (1, i)) := by
  unfold wordP at h
  unfold kindAt
  cases ht : ts[i]? with
  | none => rw [ht] at h; injection h with h; exact .inr ⟨fun e => hc e.symm, h.symm⟩
  | some t =>
    rw [ht] at h
    simp only at h
    by_cases hk : t.kind = c
    · rw [if_pos hk] at h; exact .inl ⟨t, rfl, hk, h⟩
    · rw [if_neg hk] at h; injection h with h; exact .inr ⟨hk, h.symm⟩
section
variable {g : Nat} {A : Option Addr} {c : Nat} {ts : List Tok} {w w1 w2 : World}
theorem PPost.ofError {e : Int} {j : Nat} (ho : Only g w w1) : PPost g A c ts w (.error (e, j)) (.panicked [{ v := wrongV e j, recovered := false }]) w1 := ⟨rfl, ho⟩
theorem PPost.from_ {r : PRes} {e : Ending} (h : PPost g A c ts w1 r e w2) (ho : Only g w w1) : PPost g A c ts w r e w2 := by
  rcases r with ⟨er, j⟩ | ⟨ns, j⟩
  · obtain ⟨he, h1⟩ := h
    exact ⟨he, ho.trans h1⟩
  · obtain ⟨B, m, he, h1, h2, h3, h4, h5⟩ := h
    exact ⟨B, m, he, h1, h2, h3.mono ho.size, ho.trans h4, h5⟩
theorem nodes_keep {B : Option Addr} {ns : List Node} (h : NodesAt w1 B ns) (hn : NewAt w.heap.size B) (hg : g < w.heap.size) (ho : Only g w1 w2) : NodesAt w2 B ns :=
  Only.arr ho h fun b off sp e => by have := hn b off sp e; omega
theorem nodes_block {B : Option Addr} {ns : List Node} (h : NodesAt w B ns) (h0 : 0 < ns.length) : ∃ b off, B = some ⟨b, off, none⟩ ∧ b < w.heap.size := by
  obtain ⟨b, off, e, hb, _⟩ := h.2 h0
  exact ⟨b, off, e, hb⟩
/-- Two rows of nodes in a new row of slices. -/
theorem parts_two {B1 B2 : Option Addr} {m1 m2 : Nat} {p q : List Node} (h1 : NodesAt w B1 p) (h2 : NodesAt w B2 q) (k1 : 0 < p.length) (k2 : 0 < q.length) (l1 : p.length ≤ m1) (l2 : q.length ≤ m2) :
    PartsAt (w.alloc (.cells #[.slice B1 p.length m1, .slice B2 q.length m2] 23)) (some ⟨w.heap.size, 0, none⟩) [p, q] := by
  refine ⟨[.slice B1 p.length m1, .slice B2 q.length m2], rfl, ⟨rfl, fun _ => ⟨w.heap.size, 0, rfl, by simp, fun j u hu => ?_⟩⟩, fun k r hk => ?_⟩
  · rw [Nat.zero_add, (Blk.new w _ _).cell j]; simpa using hu
  · rcases k with _ | _ | k
    · simp at hk; subst hk; exact ⟨B1, m1, rfl, l1, Arr.alloc h1 _, k1⟩
    · simp at hk; subst hk; exact ⟨B2, m2, rfl, l2, Arr.alloc h2 _, k2⟩
    · simp at hk
theorem parts_one {B1 : Option Addr} {m1 : Nat} {p : List Node} (h1 : NodesAt w B1 p) (k1 : 0 < p.length) (l1 : p.length ≤ m1) :
    PartsAt (w.alloc (.cells #[.slice B1 p.length m1] 23)) (some ⟨w.heap.size, 0, none⟩) [p] := by
  refine ⟨[.slice B1 p.length m1], rfl, ⟨rfl, fun _ => ⟨w.heap.size, 0, rfl, by simp, fun j u hu => ?_⟩⟩, fun k r hk => ?_⟩
  · rw [Nat.zero_add, (Blk.new w _ _).cell j]; simpa using hu
  · rcases k with _ | k
    · simp at hk; subst hk; exact ⟨B1, m1, rfl, l1, Arr.alloc h1 _, k1⟩
    · simp at hk
theorem parts_three {B1 B2 B3 : Option Addr} {m1 m2 m3 : Nat} {p q r : List Node} (h1 : NodesAt w B1 p) (h2 : NodesAt w B2 q) (h3 : NodesAt w B3 r) (k1 : 0 < p.length) (k2 : 0 < q.length) (k3 : 0 < r.length) (l1 : p.length ≤ m1) (l2 : q.length ≤ m2) (l3 : r.length ≤ m3) :
    PartsAt (w.alloc (.cells #[.slice B1 p.length m1, .slice B2 q.length m2, .slice B3 r.length m3] 23)) (some ⟨w.heap.size, 0, none⟩) [p, q, r] := by
  refine ⟨[.slice B1 p.length m1, .slice B2 q.length m2, .slice B3 r.length m3], rfl, ⟨rfl, fun _ => ⟨w.heap.size, 0, rfl, by simp, fun j u hu => ?_⟩⟩, fun k r hk => ?_⟩
  · rw [Nat.zero_add, (Blk.new w _ _).cell j]; simpa using hu
  · rcases k with _ | _ | _ | k
    · simp at hk; subst hk; exact ⟨B1, m1, rfl, l1, Arr.alloc h1 _, k1⟩
    · simp at hk; subst hk; exact ⟨B2, m2, rfl, l2, Arr.alloc h2 _, k2⟩
    · simp at hk; subst hk; exact ⟨B3, m3, rfl, l3, Arr.alloc h3 _, k3⟩
    · simp at hk
end
/-- The lengths that go with a result. -/
theorem run_pos {ts : List Tok} {f : Nat} {pf : PF} {i : Nat} {ns : List Node} {j : Nat} (h : run ts f pf i = some (.ok (ns, j))) (hi : i ≤ ts.length) (hl : pf.least = 1) (hb : pf.base = 0) (ht : ts.length ≤ 300) : 0 < ns.length ∧ ns.length ≤ 300 ∧ i < j ∧ j ≤ ts.length ∧ ns.length + i ≤ j := by
  have := run_len ts f pf i hi ns j h
  simp only [Len, hl, hb] at this
  omega

set_option maxRecDepth 100000 in
set_option maxHeartbeats 2000000 in
theorem whole_c {g : Nat} {A : Option Addr} {c : Nat} {ts : List Tok} {f : Nat} (IH : ∀ k, k ≤ f → Good g A c ts k) (i : Nat) (r : PRes) (w : World) (hr : run ts (f + 1) .whole i = some r) (h : Ps g A c ts i w) :
    Calls Tryz.prog 24 #[.pointer (some ⟨g, 0, none⟩)] w (PPost g A c ts w r) := by
  have hnot : ∀ (x : Bool) (w : World), (Op.unary .not (.bool x)).run Tryz.prog w = .ok (.bool (!x)) w := fun _ _ => rfl
  have hlen := h.len
  have H := Lib.hid h
  have hg := h.lt
  unfold run at hr
  cases b1 : isAt ts i [105, 102] with
  | false =>
    rw [b1] at hr
    have HC := fun w h => IH f (Nat.le_refl _) .either _ i r w rfl hr h
    have HIS := Lib.hid (is_c h [105, 102])
    rw [b1] at HIS
    have HCC := Lib.hid HC
    clear IH hr HC h b1
    go_enter Tryz.func24, Tryz.ntmps24
    go_wp2_with (go_at_call 39; refine HIS.out.mono ?_; rintro e w1 ⟨rfl, h1⟩; have H1 := Lib.hid (H.out.below h1); have HB := Lib.hid (Only.ofBelow (g := g) h1); clear h1)
    refine (HCC.out _ H1.out).mono ?_
    intro e w2 hp
    have hp := hp.from_ HB.out
    rcases r with ⟨er, j⟩ | ⟨ns, j⟩
    · obtain ⟨rfl, ho⟩ := hp
      unfold pan
      go_wp2_with fail
      exact ⟨rfl, rfl, ho⟩
    · obtain ⟨B, m, rfl, hrest⟩ := hp
      go_wp2_with fail
      go_ret
      exact ⟨B, m, rfl, hrest⟩
  | true =>
    rw [b1] at hr
    have HIS := Lib.hid (is_c h [105, 102])
    rw [b1] at HIS
    have hlt := isAt_lt b1
    have HAH := Lib.hid (fun w (h : Ps g A c ts i w) => ahead_c h 1 (by omega) [58, 58])
    cases b2 : isAt ts (i + 1) [58, 58] with
    | true =>
      rw [b2] at hr HAH
      have HCC := Lib.hid (fun w h => IH f (Nat.le_refl _) .either _ i r w rfl hr h)
      clear IH hr h b1 b2
      go_enter Tryz.func24, Tryz.ntmps24
      go_wp2_with (first
        | (go_at_call 39; refine HIS.out.mono ?_; rintro e w1 ⟨rfl, h1⟩; have H1 := Lib.hid (H.out.below h1); have HB := Lib.hid (Only.ofBelow (g := g) h1); clear h1)
        | (go_at_call 40; refine (HAH.out _ H1.out).mono ?_; rintro e w2 ⟨rfl, h2⟩; have H2 := Lib.hid (H1.out.below h2); have HB2 := Lib.hid (HB.out.thenBelow h2); clear h2))
      refine (HCC.out _ H2.out).mono ?_
      intro e w3 hp
      have hp := hp.from_ HB2.out
      rcases r with ⟨er, j⟩ | ⟨ns, j⟩
      · obtain ⟨rfl, ho⟩ := hp
        unfold pan
        go_wp2_with fail
        exact ⟨rfl, rfl, ho⟩
      · obtain ⟨B, m, rfl, hrest⟩ := hp
        go_wp2_with fail
        go_ret
        exact ⟨B, m, rfl, hrest⟩
    | false =>
      rw [b2] at hr HAH
      rw [if_pos (by rfl)] at hr
      have HR := Lib.hid hr
      have HI := Lib.hid (fun i r w => IH f (Nat.le_refl _) .whole _ i r w rfl)
      have HL := Lib.hid (fun i ns j hr hi => run_pos (ts := ts) (f := f) (pf := .whole) (i := i) (ns := ns) (j := j) hr hi rfl rfl hlen)
      clear IH hr h b1 b2
      go_enter Tryz.func24, Tryz.ntmps24
      go_wp2_with (first
        | (go_at_call 39; refine HIS.out.mono ?_; rintro e w1 ⟨rfl, h1⟩; have H1 := Lib.hid (H.out.below h1); have HB := Lib.hid (Only.ofBelow (g := g) h1); clear h1)
        | (go_at_call 40; refine (HAH.out _ H1.out).mono ?_; rintro e w2 ⟨rfl, h2⟩; have H2 := Lib.hid (H1.out.below h2); have HB2 := Lib.hid (HB.out.thenBelow h2); obtain ⟨c0, c1, f0, f1⟩ := H2.out.cells; clear h2))
      have H3 := Lib.hid (H2.out.step (j := i + 1) hlt)
      have HB3 := Lib.hid (HB2.out.trans ((Only.refl g w2).set_ 1 (.int .i64 ((i + 1 : Nat) : Int))))
      rw [show (i : Int) + 1 = ((i + 1 : Nat) : Int) from rfl]
      generalize w2.setCell ⟨g, 1, none⟩ (.int .i64 ((i + 1 : Nat) : Int)) = w3 at H3 HB3 ⊢
      rcases then_cases HR.out with ⟨er, j, hx, rfl⟩ | ⟨cs, j, hx, hr⟩
      · refine (HI.out _ _ _ hx H3.out).mono ?_
        rintro e w4 ⟨rfl, ho⟩
        unfold pan
        go_wp2_with fail
        exact ⟨rfl, rfl, HB3.out.trans ho⟩
      refine (HI.out _ _ _ hx H3.out).mono ?_
      rintro e w4 ⟨B1, m1, rfl, l1, n1, z1, o1, H4⟩
      have HB4 := Lib.hid (HB3.out.trans o1)
      have N1 := Lib.hid n1
      have Z1 := Lib.hid (z1.mono HB3.out.size)
      have HX1 := Lib.hid (HL.out _ _ _ hx H3.out.le)
      have HH4 := Lib.hid H4
      have HR4 := Lib.hid hr
      have L1 := Lib.hid l1
      clear hx hr HR o1 n1 z1 H4 l1
      go_wp2_with fail
      rcases need_cases HR4.out with ⟨hb, hr⟩ | ⟨hb, rfl⟩
      rotate_left
      · refine (need_no HH4.out _ hb).mono ?_
        rintro e w5 ⟨rfl, ho⟩
        unfold pan
        go_wp2_with fail
        exact ⟨rfl, rfl, HB4.out.trans ho⟩
      refine (need_yes HH4.out _ hb).mono ?_
      rintro e w5 ⟨rfl, o5, h5⟩
      have H5 := Lib.hid h5
      have HB5 := Lib.hid (HB4.out.trans o5)
      have N1 := Lib.hid (nodes_keep N1.out Z1.out hg o5)
      have HR5 := Lib.hid hr
      clear hb hr HR4 o5 h5
      go_wp2_with fail
      rcases then_cases HR5.out with ⟨er, j2, hx, rfl⟩ | ⟨ds, j2, hx, hr⟩
      · refine (HI.out _ _ _ hx H5.out).mono ?_
        rintro e w6 ⟨rfl, ho⟩
        unfold pan
        go_wp2_with fail
        exact ⟨rfl, rfl, HB5.out.trans ho⟩
      refine (HI.out _ _ _ hx H5.out).mono ?_
      rintro e w6 ⟨B2, m2, rfl, l2, n2, z2, o2, H6⟩
      have HB6 := Lib.hid (HB5.out.trans o2)
      have N1 := Lib.hid (nodes_keep N1.out Z1.out hg o2)
      have N2 := Lib.hid n2
      have Z2 := Lib.hid (z2.mono HB5.out.size)
      have HX2 := Lib.hid (HL.out _ _ _ hx H5.out.le)
      have HH6 := Lib.hid H6
      have HR6 := Lib.hid hr
      have L2 := Lib.hid l2
      clear hx hr HR5 o2 n2 z2 H6 l2
      go_wp2_with fail
      rcases need_cases HR6.out with ⟨hb, hr⟩ | ⟨hb, rfl⟩
      rotate_left
      · refine (need_no HH6.out _ hb).mono ?_
        rintro e w7 ⟨rfl, ho⟩
        unfold pan
        go_wp2_with fail
        exact ⟨rfl, rfl, HB6.out.trans ho⟩
      refine (need_yes HH6.out _ hb).mono ?_
      rintro e w7 ⟨rfl, o7, h7⟩
      have H7 := Lib.hid h7
      have HB7 := Lib.hid (HB6.out.trans o7)
      have N1 := Lib.hid (nodes_keep N1.out Z1.out hg o7)
      have N2 := Lib.hid (nodes_keep N2.out Z2.out hg o7)
      have HR7 := Lib.hid hr
      clear hb hr HR6 o7 h7
      go_wp2_with fail
      rcases then_cases HR7.out with ⟨er, j3, hx, rfl⟩ | ⟨bs, j3, hx, hr⟩
      · refine (HI.out _ _ _ hx H7.out).mono ?_
        rintro e w8 ⟨rfl, ho⟩
        unfold pan
        go_wp2_with fail
        exact ⟨rfl, rfl, HB7.out.trans ho⟩
      refine (HI.out _ _ _ hx H7.out).mono ?_
      rintro e w8 ⟨B3, m3, rfl, l3, n3, z3, o3, H8⟩
      have HB8 := Lib.hid (HB7.out.trans o3)
      have N1 := Lib.hid (nodes_keep N1.out Z1.out hg o3)
      have N2 := Lib.hid (nodes_keep N2.out Z2.out hg o3)
      have N3 := Lib.hid n3
      have HX3 := Lib.hid (HL.out _ _ _ hx H7.out.le)
      have HH8 := Lib.hid H8
      injection hr with hr
      have HP := Lib.hid (parts_three N1.out N2.out N3.out HX1.out.1 HX2.out.1 HX3.out.1 L1.out L2.out l3)
      have HFL : Hid (([cs, ds, bs] : List (List Node)).flatten.length ≤ 100000) := Lib.hid (by
        have h1 := HX1.out; have h2 := HX2.out; have h3 := HX3.out
        simp only [List.flatten_cons, List.flatten_nil, List.length_append, List.length_nil]; omega)
      have HRR := Lib.hid hr
      clear hx hr HR7 o3 n3 z3 H8 l3
      go_wp2_with fail
      refine (op_c 13 _ 3 [cs, ds, bs] _ HP.out HFL.out).mono ?_
      rintro e w9 ⟨B, m, rfl, hm, hn, hz, hb9⟩
      have heq : opN 13 :: ([cs, ds, bs] : List (List Node)).flatten = opN 13 :: (cs ++ (ds ++ bs)) := by simp
      rw [heq] at hm hn ⊢
      obtain rfl := HRR.out
      obtain ⟨R, hR⟩ : ∃ R, R = opN 13 :: (cs ++ (ds ++ bs)) := ⟨_, rfl⟩
      rw [← hR] at hm hn ⊢
      have HEQ := Lib.hid hR
      clear hR heq
      have hb10 : Below w8.heap.size w8 w9 := ((Below.refl _ w8).alloc (Nat.le_refl _) _).trans (hb9.mono (by simp))
      have HO := Lib.hid (HB8.out.thenBelow hb10)
      have HPS := Lib.hid (HH8.out.below hb10)
      have HZ := Lib.hid (hz.mono (by have := HB8.out.size; simp; omega) : NewAt w.heap.size B)
      clear hb9 hb10 hz
      go_wp2_with fail
      go_ret
      obtain rfl := HEQ.out
      exact ⟨B, m, rfl, hm, hn, HZ.out, HO.out, HPS.out⟩
end Go.Proofs.YtfaadlfaimhbbaaGreatDoor

namespace Go.Proofs.YtfaadlfaimhbbaaGreatDoor
open Go.RowKit

def entry (k : List UInt8) (o : Int) (n : Nat) : MapEntry := { key := .string ⟨k.toArray⟩, val := .int .i64 o, born := n }
def CL.entries : CL → Array MapEntry
  | .or_ => #[entry [124, 124] 12 0]
  | .and_ => #[entry [38, 38] 11 0]
  | .add_ => #[entry [43] 17 0, entry [45] 18 1]
  | .mul_ => #[entry [42] 19 0]
def MapAt (w : World) (b : Nat) (es : Array MapEntry) : Prop := w.heap[b]? = some (.map es es.size)
theorem bytes_is (s : ByteArray) (l : List UInt8) : (s == (⟨l.toArray⟩ : ByteArray)) = decide (s.toList = l) := by
  rw [beq_toListBytes, bytes_beq]
  have : s = ⟨l.toArray⟩ ↔ s.toList = l := by
    rw [ByteArray.toList_eq]
    constructor
    · rintro rfl; rfl
    · intro h; cases s with | mk d => cases d with | mk m => simp only at h; subst h; rfl
  simp [this]
theorem ck_string (e : Bool) (n : Nat) (s : ByteArray) (w : World) : (Instr.checkKey e (n + 1) 9 (.string s)).run Tryz.prog w = .ok () w := by
  simp [Instr.checkKey, run_underlying Tryz.underlying9]
theorem fk_string (s : ByteArray) (es : List MapEntry) (r : Option (Nat × Value)) (h : Instr.findNow .string (.string s) es 0 = some r) (w : World) : (Instr.findKey 9 (.string s) es).run Tryz.prog w = .ok r w := by
  simp [Instr.findKey, run_underlying Tryz.underlying9, h]
theorem go_string (b : Nat) (es : Array MapEntry) (c : Nat) (w : World) (h : w.heap[b]? = some (.map es c)) : (getObj b).run Tryz.prog w = .ok (.map es c) w := MapKept.run_getObj_map h
def foundV (r : Option (Nat × Value)) : Value := match r with | some (_, v) => .tuple #[v, .bool true] | none => .tuple #[.int .i64 0, .bool false]
theorem look_any (b : Nat) (es : Array MapEntry) (c : Nat) (w : World) (h : w.heap[b]? = some (.map es c)) (s : ByteArray) (r : Option (Nat × Value)) (hr : Instr.findNow .string (.string s) es.toList 0 = some r) :
    (Instr.lookup 116 (.map (some b)) (.string s) true).run Tryz.prog w = .ok (foundV r) w := by
  have hz : (zeroValue 3).run Tryz.prog w = .ok (.int .i64 0) w := by kernel_rfl
  have h1 := fun w => ck_string es.isEmpty 9999 s w
  have h2 := fk_string s es.toList r hr
  simp only [Instr.lookup, Sem.run_bind, run_underlying Tryz.underlying116, Result.andThen_ok, go_string b es c w h, Sem.run_pure, h1, h2]
  rcases r with _ | ⟨i, v⟩
  · simp [hz, foundV]
  · simp [foundV]
theorem look_c (L : CL) (w : World) (b : Nat) (s : ByteArray) (h : MapAt w b L.entries) :
    (Instr.lookup 116 (.map (some b)) (.string s) true).run Tryz.prog w = .ok (.tuple #[.int .i64 ((L.sign s.toList).getD 0), .bool (L.sign s.toList).isSome]) w := by
  have key : ∃ r, Instr.findNow .string (.string s) L.entries.toList 0 = some r ∧ foundV r = .tuple #[.int .i64 ((L.sign s.toList).getD 0), .bool (L.sign s.toList).isSome] := by
    cases L
    all_goals simp only [CL.entries, CL.sign, entry, Instr.findNow, Instr.sameNow, bytes_is]
    · by_cases h1 : s.toList = [124, 124] <;> simp [h1, foundV]
    · by_cases h1 : s.toList = [38, 38] <;> simp [h1, foundV]
    · by_cases h1 : s.toList = [43]
      · simp [h1, foundV]
      · by_cases h2 : s.toList = [45] <;> simp [h1, h2, foundV]
    · by_cases h1 : s.toList = [42] <;> simp [h1, foundV]
  obtain ⟨r, h1, h2⟩ := key
  rw [look_any b _ _ w h s r h1, h2]
end Go.Proofs.YtfaadlfaimhbbaaGreatDoor

namespace Go.Proofs.YtfaadlfaimhbbaaGreatDoor
open Go.RowKit

theorem MapAt.only {g b : Nat} {w w' : World} {es : Array MapEntry} (h : MapAt w b es) (ho : Only g w w') (hb : b ≠ g) : MapAt w' b es := by
  have hlt : b < w.heap.size := by
    rcases Nat.lt_or_ge b w.heap.size with h' | h'
    · exact h'
    · unfold MapAt at h; rw [Array.getElem?_eq_none h'] at h; cases h
  exact (ho.block b hlt (fun e => hb (by injection e))).trans h

set_option maxRecDepth 100000 in
set_option maxHeartbeats 2000000 in
theorem chain_c {g : Nat} {A : Option Addr} {c : Nat} {ts : List Tok} {f : Nat} (IH : ∀ k, k ≤ f → Good g A c ts k) (L : CL) (fn : FuncId) (hfn : pfFn L.part = some fn)
    (henter : ∀ (args : Array Value) (w : World), (callFunc fn args).run Tryz.prog w = .ok (.enter fn args) w)
    (i : Nat) (r : PRes) (w : World) (hr : ((run ts f L.part i).then fun e j => run ts f (.chain L e) j) = some r) (h : Ps g A c ts i w) (b : Nat) (hm : MapAt w b L.entries) (hbg : b ≠ g) :
    Calls Tryz.prog 76 #[.pointer (some ⟨g, 0, none⟩), .func (.func fn) #[.pointer (some ⟨g, 0, none⟩)] #[], .map (some b)] w (PPost g A c ts w r) := by
  have hnot : ∀ (x : Bool) (w : World), (Op.unary .not (.bool x)).run Tryz.prog w = .ok (.bool (!x)) w := fun _ _ => rfl
  have hlen := h.len
  have hg := h.lt
  have hp := L.part_lv
  have HI := Lib.hid (fun k (hk : k ≤ f) i r w => IH k hk L.part fn i r w hfn)
  have HL := Lib.hid (fun k i ns j hr hi => run_pos (ts := ts) (f := k) (pf := L.part) (i := i) (ns := ns) (j := j) hr hi hp.2.2.1 hp.2.2.2 hlen)
  have H := Lib.hid h
  have HM := Lib.hid hm
  have HR := Lib.hid hr
  clear IH hr h hm hp hfn
  go_enter Tryz.func76, Tryz.ntmps76
  go_wp2_with fail
  rcases then_cases HR.out with ⟨er, j, hx, rfl⟩ | ⟨es, j, hx, hr⟩
  · refine (HI.out f (Nat.le_refl _) _ _ _ hx H.out).mono ?_
    rintro e w1 ⟨rfl, ho⟩
    unfold pan
    go_wp2_with fail
    exact ⟨rfl, rfl, ho⟩
  refine (HI.out f (Nat.le_refl _) _ _ _ hx H.out).mono ?_
  rintro e w1 ⟨B, m, rfl, l1, n1, z1, o1, h1⟩
  have HX := HL.out _ _ _ _ hx H.out.le
  have HR1 := Lib.hid hr
  have N1 := Lib.hid n1
  have Z1 := Lib.hid z1
  have O1 := Lib.hid o1
  have H1 := Lib.hid h1
  have L1 := Lib.hid l1
  clear hx hr n1 z1 o1 h1 HR l1
  go_wp2_with fail
  go_loopw [7] (fun lv wr => ∃ (k j m : Nat) (B : Option Addr) (acc : List Node), k ≤ f ∧ j ≤ ts.length ∧ acc.length ≤ j ∧ 0 < acc.length ∧ lv = .slice B acc.length m ∧ Hid (acc.length ≤ m) ∧ Hid (run ts k (.chain L acc) j = some r) ∧ Hid (Ps g A c ts j wr) ∧ Hid (NodesAt wr B acc) ∧ Hid (NewAt w.heap.size B) ∧ Hid (Only g w wr))
    (fun _ wr => ts.length - cellNat wr ⟨g, 1, none⟩)
  case atStart => exact ⟨f, j, m, B, es, Nat.le_refl _, H1.out.le, by omega, HX.1, rfl, L1, HR1, H1, N1, Z1, O1⟩
  case round =>
    obtain ⟨k, j, m, B, acc, hk, hj, haj, hpos, rfl, hm, hrun, hps, hn, hz, ho⟩ := hrel
    obtain ⟨k, rfl⟩ : ∃ k', k = k' + 1 := by
      cases k with
      | zero => have := hrun.out; cases this
      | succ k => exact ⟨k, rfl⟩
    have hrn := hrun.out
    unfold run at hrn
    have HK := Lib.hid (kind_c hps.out)
    obtain ⟨x0, x1, y0, y1⟩ := hps.out.cells
    by_cases h5 : kindAt ts j = 5
    · obtain ⟨t, ht, hkt⟩ := kindAt_is (by decide) h5
      rw [ht] at hrn
      simp only [hkt, if_true] at hrn
      obtain ⟨b0, off, rfl, hb0, d0, d1, d2⟩ := hps.out.toks.at_ ht
      have hlt := lt_of_some ht
      have hlt' : (j : Int) < ts.length := by omega
      have hlook := fun m => look_c L (wr.drewN m) b t.s (HM.out.only (ho.out.drewN m) hbg)
      rw [h5] at HK
      cases hsg : L.sign t.s.toList with
      | none =>
        rw [hsg] at hrn hlook
        injection hrn with hrn
        have HRN := Lib.hid hrn
        simp only [Option.getD_none, Option.isSome_none] at hlook
        clear hrn ht hsg h5 hkt
        go_wp2_with (go_at_call 112; refine HK.out.mono ?_; rintro e w2 ⟨rfl, n2, rfl⟩)
        go_quiet (fail)
        revert nq
        intro n3
        go_wp2_with fail
        go_ret
        exact HRN.out ▸ ⟨B, m, rfl, hm.out, hn.out, hz.out, ho.out.drewN (n2 + n3), hps.out.drewN (n2 + n3)⟩
      | some o =>
        rw [hsg] at hrn hlook
        simp only [Option.getD_some, Option.isSome_some] at hlook
        have HRN := Lib.hid hrn
        clear hrn ht hsg h5 hkt
        go_wp2_with (go_at_call 112; refine HK.out.mono ?_; rintro e w2 ⟨rfl, n2, rfl⟩)
        go_quiet (fail)
        revert nq
        intro n3
        go_wp2_with fail
        have hstep := (hps.out.drewN (n2 + n3)).step (j := j + 1) hlt
        have H2 := Lib.hid hstep
        have O2 := Lib.hid ((ho.out.drewN (n2 + n3)).set_ 1 (.int .i64 ((j + 1 : Nat) : Int)))
        have N2 := Lib.hid (nodes_keep hn.out hz.out hg (((Only.refl g wr).drewN (n2 + n3)).set_ 1 (.int .i64 ((j + 1 : Nat) : Int))))
        rw [show (j : Int) + 1 = ((j + 1 : Nat) : Int) from rfl]
        generalize (wr.drewN (n2 + n3)).setCell ⟨g, 1, none⟩ (.int .i64 ((j + 1 : Nat) : Int)) = w3 at H2 O2 N2 ⊢
        clear hstep
        rcases then_cases HRN.out with ⟨er, j2, hx, rfl⟩ | ⟨xs, j2, hx, hr⟩
        · refine (HI.out k (by omega) _ _ _ hx H2.out).mono ?_
          rintro e w4 ⟨rfl, ho4⟩
          unfold pan
          go_wp2_with fail
          exact ⟨rfl, rfl, O2.out.trans ho4⟩
        refine (HI.out k (by omega) _ _ _ hx H2.out).mono ?_
        rintro e w4 ⟨B2, m2, rfl, l2, nn2, z2, o2, h4⟩
        have HX2 := HL.out _ _ _ _ hx H2.out.le
        have H4 := Lib.hid h4
        have N1 := Lib.hid (nodes_keep N2.out hz.out hg o2)
        have NN2 := Lib.hid nn2
        have O4 := Lib.hid (O2.out.trans o2)
        have HR4 := Lib.hid hr
        have HPA := Lib.hid (parts_two N1.out nn2 hpos HX2.1 hm.out l2)
        have HFL : Hid (([acc, xs] : List (List Node)).flatten.length ≤ 100000) := Lib.hid (by
          simp only [List.flatten_cons, List.flatten_nil, List.length_append, List.length_nil]; omega)
        clear hx hr o2 nn2 z2 h4 hlook x0 x1 y0 y1 d0 d1 d2
        go_wp2_with fail
        refine (op_c o _ 2 [acc, xs] _ HPA.out HFL.out).mono ?_
        rintro e w5 ⟨B5, m5, rfl, hm5, hn5, hz5, hb5⟩
        have heq : opN o :: ([acc, xs] : List (List Node)).flatten = opN o :: (acc ++ xs) := by simp
        rw [heq] at hm5 hn5 ⊢
        obtain ⟨R, hR⟩ : ∃ R, R = opN o :: (acc ++ xs) := ⟨_, rfl⟩
        rw [← hR] at hm5 hn5 ⊢
        have hRl : R.length = acc.length + xs.length + 1 := by rw [hR]; simp
        have HEQ := Lib.hid hR
        have hb6 : Below w4.heap.size w4 w5 := ((Below.refl _ w4).alloc (Nat.le_refl _) _).trans (hb5.mono (by simp))
        have HO := Lib.hid (O4.out.thenBelow hb6)
        have HPS := Lib.hid (H4.out.below hb6)
        have HZ := Lib.hid (hz5.mono (by have := O4.out.size; simp; omega) : NewAt w.heap.size B5)
        have HM5 := Lib.hid hm5
        have HN5 := Lib.hid hn5
        clear hR heq hb5 hb6 hz5 hm5 hn5
        go_wp2_with fail
        go_roundw
        case rel =>
          refine ⟨k, j2, m5, B5, R, by omega, HPS.out.le, by omega, by omega, by rw [hRl], HM5, Lib.hid ?_, HPS, HN5, HZ, HO⟩
          rw [HEQ.out]; exact HR4.out
        case measure =>
          have q1 := hps.out.cells.2.1
          have q2 := HPS.out.cells.2.1
          have hjl := HX2.2.2.2.1
          rw [cellNat_eq q1, cellNat_eq q2]
          omega
    · have hrn2 : r = .ok (acc, j) := by
        cases ht : ts[j]? with
        | none => rw [ht] at hrn; injection hrn with hrn; exact hrn.symm
        | some t =>
          rw [ht] at hrn
          have : ¬ t.kind = 5 := fun e => h5 (by rw [kindAt_some ht]; exact e)
          simp only [this, if_false] at hrn
          injection hrn with hrn; exact hrn.symm
      have HRN := Lib.hid hrn2
      have hne : (kindAt ts j == 5) = false := by simp [h5]
      generalize kindAt ts j = k0 at HK hne
      clear hrn hrn2 h5
      go_wp2_with (go_at_call 112; refine HK.out.mono ?_; rintro e w2 ⟨rfl, n2, rfl⟩)
      go_ret
      rw [HRN.out]
      exact ⟨B, m, rfl, hm.out, hn.out, hz.out, ho.out.drewN n2, hps.out.drewN n2⟩

/-! ## the maps of signs are made; the four chains -/
theorem put_c (b : Nat) (es : Array MapEntry) (k : List UInt8) (o : Int) (w : World) (h : MapAt w b es) (hr : Instr.findNow .string (.string ⟨k.toArray⟩) es.toList 0 = some none) :
    ∃ w', (Instr.mapUpdate 116 (.map (some b)) (.string ⟨k.toArray⟩) (.int .i64 o)).run Tryz.prog w = .ok () w' ∧ MapAt w' b (es.push (entry k o es.size)) ∧ Only b w w' ∧ w'.heap.size = w.heap.size := by
  have h1 := fun w => ck_string false 9999 ⟨k.toArray⟩ w
  have h2 := fk_string ⟨k.toArray⟩ es.toList none hr
  have hb : w.heap[b]? = some (.map es es.size) := h
  have h3 := MapKept.run_setObj_map (P := Tryz.prog) (.map (es.push (entry k o es.size)) (es.size + 1)) hb
  have hlt : b < w.heap.size := (Array.getElem?_eq_some_iff.1 hb).1
  refine ⟨{ w with heap := w.heap.setIfInBounds b (.map (es.push (entry k o es.size)) (es.size + 1)) }, ?_, ?_, ⟨rfl, rfl, rfl, by simp, fun j hj hne => ?_⟩, by simp⟩
  · simp only [Instr.mapUpdate, Sem.run_bind, run_underlying Tryz.underlying116, Result.andThen_ok, go_string b es _ w hb, h1, h2]
    exact h3
  · unfold MapAt
    simp only [Array.size_push]
    rw [Array.getElem?_setIfInBounds_self_of_lt hlt]
  · have : b ≠ j := fun e => hne (by rw [e])
    simp [this]
end Go.Proofs.YtfaadlfaimhbbaaGreatDoor

namespace Go.Proofs.YtfaadlfaimhbbaaGreatDoor
open Go.RowKit

set_option maxRecDepth 100000 in
set_option maxHeartbeats 2000000 in
theorem either_c {g : Nat} {A : Option Addr} {c : Nat} {ts : List Tok} {f : Nat} (IH : ∀ k, k ≤ f → Good g A c ts k) (i : Nat) (r : PRes) (w : World) (hr : run ts (f + 1) .either i = some r) (h : Ps g A c ts i w) :
    Calls Tryz.prog 41 #[.pointer (some ⟨g, 0, none⟩)] w (PPost g A c ts w r) := by
  have hmf : ∀ (fn : Fn) (first cap : Array Value) (w : World), (Instr.makeFunc fn first cap).run Tryz.prog w = .ok (.func fn first cap) w := fun _ _ _ _ => rfl
  have hmm := @run_makeMap Tryz.prog
  have henter : ∀ (args : Array Value) (w : World), (callFunc 77 args).run Tryz.prog w = .ok (.enter 77 args) w := fun args w => enters_of Tryz.func77 (by kernel_rfl) rfl args w
  have hg := h.lt
  have H := Lib.hid h
  unfold run at hr
  have h0 : MapAt (w.alloc (.map #[] 0)) w.heap.size #[] := by unfold MapAt; simp [World.alloc, -World.alloc_eq]
  have b0 : Below w.heap.size w (w.alloc (.map #[] 0)) := (Below.refl _ w).alloc (Nat.le_refl _) _
  have s0 : (w.alloc (.map #[] 0)).heap.size = w.heap.size + 1 := by simp
  obtain ⟨w1, hrun1, h1, o1, s1⟩ := put_c w.heap.size _ [124,124] 12 (w.alloc (.map #[] 0)) h0 (by kernel_rfl)
  have b1 : Below w.heap.size w w1 := b0.trans (o1.below (by omega) (Nat.le_refl _))
  have HC := Lib.hid (chain_c IH CL.or_ 77 rfl henter i r w1 hr (h.below b1) w.heap.size h1 (by omega))
  have HB := Lib.hid b1
  clear IH hr h h0 b0 s0 h1 o1 s1 b1
  go_enter Tryz.func41, Tryz.ntmps41
  go_wp2_with fail
  refine HC.out.mono ?_
  intro e wz hp
  have hp := hp.from_ (Only.ofBelow (g := g) HB.out)
  rcases r with ⟨er, j⟩ | ⟨ns, j⟩
  · obtain ⟨rfl, ho⟩ := hp
    unfold pan
    go_wp2_with fail
    exact ⟨rfl, rfl, ho⟩
  · obtain ⟨B, m, rfl, hrest⟩ := hp
    go_wp2_with fail
    go_ret
    exact ⟨B, m, rfl, hrest⟩

set_option maxRecDepth 100000 in
set_option maxHeartbeats 2000000 in
theorem both_c {g : Nat} {A : Option Addr} {c : Nat} {ts : List Tok} {f : Nat} (IH : ∀ k, k ≤ f → Good g A c ts k) (i : Nat) (r : PRes) (w : World) (hr : run ts (f + 1) .both i = some r) (h : Ps g A c ts i w) :
    Calls Tryz.prog 77 #[.pointer (some ⟨g, 0, none⟩)] w (PPost g A c ts w r) := by
  have hmf : ∀ (fn : Fn) (first cap : Array Value) (w : World), (Instr.makeFunc fn first cap).run Tryz.prog w = .ok (.func fn first cap) w := fun _ _ _ _ => rfl
  have hmm := @run_makeMap Tryz.prog
  have henter : ∀ (args : Array Value) (w : World), (callFunc 113 args).run Tryz.prog w = .ok (.enter 113 args) w := fun args w => enters_of Tryz.func113 (by kernel_rfl) rfl args w
  have hg := h.lt
  have H := Lib.hid h
  unfold run at hr
  have h0 : MapAt (w.alloc (.map #[] 0)) w.heap.size #[] := by unfold MapAt; simp [World.alloc, -World.alloc_eq]
  have b0 : Below w.heap.size w (w.alloc (.map #[] 0)) := (Below.refl _ w).alloc (Nat.le_refl _) _
  have s0 : (w.alloc (.map #[] 0)).heap.size = w.heap.size + 1 := by simp
  obtain ⟨w1, hrun1, h1, o1, s1⟩ := put_c w.heap.size _ [38,38] 11 (w.alloc (.map #[] 0)) h0 (by kernel_rfl)
  have b1 : Below w.heap.size w w1 := b0.trans (o1.below (by omega) (Nat.le_refl _))
  have HC := Lib.hid (chain_c IH CL.and_ 113 rfl henter i r w1 hr (h.below b1) w.heap.size h1 (by omega))
  have HB := Lib.hid b1
  clear IH hr h h0 b0 s0 h1 o1 s1 b1
  go_enter Tryz.func77, Tryz.ntmps77
  go_wp2_with fail
  refine HC.out.mono ?_
  intro e wz hp
  have hp := hp.from_ (Only.ofBelow (g := g) HB.out)
  rcases r with ⟨er, j⟩ | ⟨ns, j⟩
  · obtain ⟨rfl, ho⟩ := hp
    unfold pan
    go_wp2_with fail
    exact ⟨rfl, rfl, ho⟩
  · obtain ⟨B, m, rfl, hrest⟩ := hp
    go_wp2_with fail
    go_ret
    exact ⟨B, m, rfl, hrest⟩

set_option maxRecDepth 100000 in
set_option maxHeartbeats 2000000 in
theorem sum_c {g : Nat} {A : Option Addr} {c : Nat} {ts : List Tok} {f : Nat} (IH : ∀ k, k ≤ f → Good g A c ts k) (i : Nat) (r : PRes) (w : World) (hr : run ts (f + 1) .sum i = some r) (h : Ps g A c ts i w) :
    Calls Tryz.prog 143 #[.pointer (some ⟨g, 0, none⟩)] w (PPost g A c ts w r) := by
  have hmf : ∀ (fn : Fn) (first cap : Array Value) (w : World), (Instr.makeFunc fn first cap).run Tryz.prog w = .ok (.func fn first cap) w := fun _ _ _ _ => rfl
  have hmm := @run_makeMap Tryz.prog
  have henter : ∀ (args : Array Value) (w : World), (callFunc 159 args).run Tryz.prog w = .ok (.enter 159 args) w := fun args w => enters_of Tryz.func159 (by kernel_rfl) rfl args w
  have hg := h.lt
  have H := Lib.hid h
  unfold run at hr
  have h0 : MapAt (w.alloc (.map #[] 0)) w.heap.size #[] := by unfold MapAt; simp [World.alloc, -World.alloc_eq]
  have b0 : Below w.heap.size w (w.alloc (.map #[] 0)) := (Below.refl _ w).alloc (Nat.le_refl _) _
  have s0 : (w.alloc (.map #[] 0)).heap.size = w.heap.size + 1 := by simp
  obtain ⟨w1, hrun1, h1, o1, s1⟩ := put_c w.heap.size _ [43] 17 (w.alloc (.map #[] 0)) h0 (by kernel_rfl)
  have b1 : Below w.heap.size w w1 := b0.trans (o1.below (by omega) (Nat.le_refl _))
  obtain ⟨w2, hrun2, h2, o2, s2⟩ := put_c w.heap.size _ [45] 18 w1 h1 (by kernel_rfl)
  have b2 : Below w.heap.size w w2 := b1.trans (o2.below (by omega) (Nat.le_refl _))
  have HC := Lib.hid (chain_c IH CL.add_ 159 rfl henter i r w2 hr (h.below b2) w.heap.size h2 (by omega))
  have HB := Lib.hid b2
  clear IH hr h h0 b0 s0 h1 o1 s1 b1 h2 o2 s2 b2
  go_enter Tryz.func143, Tryz.ntmps143
  go_wp2_with fail
  refine HC.out.mono ?_
  intro e wz hp
  have hp := hp.from_ (Only.ofBelow (g := g) HB.out)
  rcases r with ⟨er, j⟩ | ⟨ns, j⟩
  · obtain ⟨rfl, ho⟩ := hp
    unfold pan
    go_wp2_with fail
    exact ⟨rfl, rfl, ho⟩
  · obtain ⟨B, m, rfl, hrest⟩ := hp
    go_wp2_with fail
    go_ret
    exact ⟨B, m, rfl, hrest⟩

set_option maxRecDepth 100000 in
set_option maxHeartbeats 2000000 in
theorem prod_c {g : Nat} {A : Option Addr} {c : Nat} {ts : List Tok} {f : Nat} (IH : ∀ k, k ≤ f → Good g A c ts k) (i : Nat) (r : PRes) (w : World) (hr : run ts (f + 1) .prod i = some r) (h : Ps g A c ts i w) :
    Calls Tryz.prog 159 #[.pointer (some ⟨g, 0, none⟩)] w (PPost g A c ts w r) := by
  have hmf : ∀ (fn : Fn) (first cap : Array Value) (w : World), (Instr.makeFunc fn first cap).run Tryz.prog w = .ok (.func fn first cap) w := fun _ _ _ _ => rfl
  have hmm := @run_makeMap Tryz.prog
  have henter : ∀ (args : Array Value) (w : World), (callFunc 175 args).run Tryz.prog w = .ok (.enter 175 args) w := fun args w => enters_of Tryz.func175 (by kernel_rfl) rfl args w
  have hg := h.lt
  have H := Lib.hid h
  unfold run at hr
  have h0 : MapAt (w.alloc (.map #[] 0)) w.heap.size #[] := by unfold MapAt; simp [World.alloc, -World.alloc_eq]
  have b0 : Below w.heap.size w (w.alloc (.map #[] 0)) := (Below.refl _ w).alloc (Nat.le_refl _) _
  have s0 : (w.alloc (.map #[] 0)).heap.size = w.heap.size + 1 := by simp
  obtain ⟨w1, hrun1, h1, o1, s1⟩ := put_c w.heap.size _ [42] 19 (w.alloc (.map #[] 0)) h0 (by kernel_rfl)
  have b1 : Below w.heap.size w w1 := b0.trans (o1.below (by omega) (Nat.le_refl _))
  have HC := Lib.hid (chain_c IH CL.mul_ 175 rfl henter i r w1 hr (h.below b1) w.heap.size h1 (by omega))
  have HB := Lib.hid b1
  clear IH hr h h0 b0 s0 h1 o1 s1 b1
  go_enter Tryz.func159, Tryz.ntmps159
  go_wp2_with fail
  refine HC.out.mono ?_
  intro e wz hp
  have hp := hp.from_ (Only.ofBelow (g := g) HB.out)
  rcases r with ⟨er, j⟩ | ⟨ns, j⟩
  · obtain ⟨rfl, ho⟩ := hp
    unfold pan
    go_wp2_with fail
    exact ⟨rfl, rfl, ho⟩
  · obtain ⟨B, m, rfl, hrest⟩ := hp
    go_wp2_with fail
    go_ret
    exact ⟨B, m, rfl, hrest⟩

end Go.Proofs.YtfaadlfaimhbbaaGreatDoor

namespace Go.Proofs.YtfaadlfaimhbbaaGreatDoor
open Go.RowKit

set_option maxRecDepth 100000 in
set_option maxHeartbeats 4000000 in
theorem rel_c {g : Nat} {A : Option Addr} {c : Nat} {ts : List Tok} {f : Nat} (IH : ∀ k, k ≤ f → Good g A c ts k) (i : Nat) (r : PRes) (w : World) (hr : run ts (f + 1) .rel i = some r) (h : Ps g A c ts i w) :
    Calls Tryz.prog 113 #[.pointer (some ⟨g, 0, none⟩)] w (PPost g A c ts w r) := by
  have hlen := h.len
  have hg := h.lt
  have H := Lib.hid h
  unfold run at hr
  have HI := Lib.hid (fun i r w => IH f (Nat.le_refl _) .sum _ i r w rfl)
  have HL := Lib.hid (fun i ns j hr hi => run_pos (ts := ts) (f := f) (pf := .sum) (i := i) (ns := ns) (j := j) hr hi rfl rfl hlen)
  have HR := Lib.hid hr
  clear IH hr h
  go_enter Tryz.func113, Tryz.ntmps113
  go_wp2_with fail
  rcases then_cases HR.out with ⟨er, j, hx, rfl⟩ | ⟨es, j, hx, hr⟩
  · refine (HI.out _ _ _ hx H.out).mono ?_
    rintro e w1 ⟨rfl, ho⟩
    unfold pan
    go_wp2_with fail
    exact ⟨rfl, rfl, ho⟩
  refine (HI.out _ _ _ hx H.out).mono ?_
  rintro e w1 ⟨B1, m1, rfl, l1, n1, z1, o1, h1⟩
  have HX1 := Lib.hid (HL.out _ _ _ hx H.out.le)
  have HRN := Lib.hid hr
  have N1 := Lib.hid n1
  have Z1 := Lib.hid z1
  have O1 := Lib.hid o1
  have H1 := Lib.hid h1
  have L1 := Lib.hid l1
  clear hx hr n1 z1 o1 h1 HR l1
  go_wp2_with fail
  cases hb : isAt ts j [61,61] with
  | true =>
    have hr := HRN.out
    rw [if_pos hb] at hr
    have hT := take_c H1.out [61,61]
    rw [hb] at hT
    have HR2 := Lib.hid hr
    have hjl := isAt_lt hb
    clear hr hb HRN
    refine hT.mono ?_
    rintro e w2 ⟨rfl, o2, h2⟩
    rw [if_pos rfl] at h2
    have H2 := Lib.hid h2
    have O2 := Lib.hid (O1.out.trans o2)
    have N2 := Lib.hid (nodes_keep N1.out Z1.out hg o2)
    clear hT o2 h2
    go_wp2_with fail
    rcases then_cases HR2.out with ⟨er, j2, hx, rfl⟩ | ⟨xs, j2, hx, hr⟩
    · refine (HI.out _ _ _ hx H2.out).mono ?_
      rintro e w3 ⟨rfl, ho⟩
      unfold pan
      go_wp2_with fail
      exact ⟨rfl, rfl, O2.out.trans ho⟩
    refine (HI.out _ _ _ hx H2.out).mono ?_
    rintro e w3 ⟨B2, m2, rfl, l2, nn2, z2, o3, h3⟩
    have HX2 := HL.out _ _ _ hx H2.out.le
    have HX1' := HX1.out
    have O3 := Lib.hid (O2.out.trans o3)
    have H3 := Lib.hid h3
    have HPA := Lib.hid (parts_two (nodes_keep N2.out Z1.out hg o3) nn2 HX1.out.1 HX2.1 L1.out l2)
    have HFL : Hid (([es, xs] : List (List Node)).flatten.length ≤ 100000) := Lib.hid (by
      simp only [List.flatten_cons, List.flatten_nil, List.length_append, List.length_nil]; omega)
    injection hr with hr
    have HRR := Lib.hid hr
    clear hx hr o3 nn2 z2 h3 l2
    go_wp2_with fail
    refine (op_c 14 _ 2 [es, xs] _ HPA.out HFL.out).mono ?_
    rintro e w5 ⟨B5, m5, rfl, hm5, hn5, hz5, hb5⟩
    have heq : opN 14 :: ([es, xs] : List (List Node)).flatten = opN 14 :: (es ++ xs) := by simp
    rw [heq] at hm5 hn5 ⊢
    obtain rfl := HRR.out
    obtain ⟨R, hR⟩ : ∃ R, R = opN 14 :: (es ++ xs) := ⟨_, rfl⟩
    rw [← hR] at hm5 hn5 ⊢
    have HEQ := Lib.hid hR
    have hb6 : Below w3.heap.size w3 w5 := ((Below.refl _ w3).alloc (Nat.le_refl _) _).trans (hb5.mono (by simp))
    have HO := Lib.hid (O3.out.thenBelow hb6)
    have HPS := Lib.hid (H3.out.below hb6)
    have HZ := Lib.hid (hz5.mono (by have := O3.out.size; simp; omega) : NewAt w.heap.size B5)
    clear hR heq hb5 hb6 hz5
    go_wp2_with fail
    go_ret
    obtain rfl := HEQ.out
    exact ⟨B5, m5, rfl, hm5, hn5, HZ.out, HO.out, HPS.out⟩
  | false =>
  have hr := HRN.out
  rw [if_neg (by rw [hb]; decide)] at hr
  have hT := take_c H1.out [61,61]
  rw [hb] at hT
  have HR2 := Lib.hid hr
  clear hr hb HRN
  refine hT.mono ?_
  rintro e w2 ⟨rfl, o2, h2⟩
  rw [if_neg (by decide)] at h2
  have HRN := HR2
  have N2 := Lib.hid (nodes_keep N1.out Z1.out hg o2)
  have O2 := Lib.hid (O1.out.trans o2)
  have H2 := Lib.hid h2
  clear HR2 hT o2 h2 N1 O1 H1
  have N1 := N2
  have O1 := O2
  have H1 := H2
  clear N2 O2 H2
  go_wp2_with fail
  cases hb : isAt ts j [60] with
  | true =>
    have hr := HRN.out
    rw [if_pos hb] at hr
    have hT := take_c H1.out [60]
    rw [hb] at hT
    have HR2 := Lib.hid hr
    have hjl := isAt_lt hb
    clear hr hb HRN
    refine hT.mono ?_
    rintro e w2 ⟨rfl, o2, h2⟩
    rw [if_pos rfl] at h2
    have H2 := Lib.hid h2
    have O2 := Lib.hid (O1.out.trans o2)
    have N2 := Lib.hid (nodes_keep N1.out Z1.out hg o2)
    clear hT o2 h2
    go_wp2_with fail
    rcases then_cases HR2.out with ⟨er, j2, hx, rfl⟩ | ⟨xs, j2, hx, hr⟩
    · refine (HI.out _ _ _ hx H2.out).mono ?_
      rintro e w3 ⟨rfl, ho⟩
      unfold pan
      go_wp2_with fail
      exact ⟨rfl, rfl, O2.out.trans ho⟩
    refine (HI.out _ _ _ hx H2.out).mono ?_
    rintro e w3 ⟨B2, m2, rfl, l2, nn2, z2, o3, h3⟩
    have HX2 := HL.out _ _ _ hx H2.out.le
    have HX1' := HX1.out
    have O3 := Lib.hid (O2.out.trans o3)
    have H3 := Lib.hid h3
    have HPA := Lib.hid (parts_two (nodes_keep N2.out Z1.out hg o3) nn2 HX1.out.1 HX2.1 L1.out l2)
    have HFL : Hid (([es, xs] : List (List Node)).flatten.length ≤ 100000) := Lib.hid (by
      simp only [List.flatten_cons, List.flatten_nil, List.length_append, List.length_nil]; omega)
    injection hr with hr
    have HRR := Lib.hid hr
    clear hx hr o3 nn2 z2 h3 l2
    go_wp2_with fail
    refine (op_c 15 _ 2 [es, xs] _ HPA.out HFL.out).mono ?_
    rintro e w5 ⟨B5, m5, rfl, hm5, hn5, hz5, hb5⟩
    have heq : opN 15 :: ([es, xs] : List (List Node)).flatten = opN 15 :: (es ++ xs) := by simp
    rw [heq] at hm5 hn5 ⊢
    obtain rfl := HRR.out
    obtain ⟨R, hR⟩ : ∃ R, R = opN 15 :: (es ++ xs) := ⟨_, rfl⟩
    rw [← hR] at hm5 hn5 ⊢
    have HEQ := Lib.hid hR
    have hb6 : Below w3.heap.size w3 w5 := ((Below.refl _ w3).alloc (Nat.le_refl _) _).trans (hb5.mono (by simp))
    have HO := Lib.hid (O3.out.thenBelow hb6)
    have HPS := Lib.hid (H3.out.below hb6)
    have HZ := Lib.hid (hz5.mono (by have := O3.out.size; simp; omega) : NewAt w.heap.size B5)
    clear hR heq hb5 hb6 hz5
    go_wp2_with fail
    go_ret
    obtain rfl := HEQ.out
    exact ⟨B5, m5, rfl, hm5, hn5, HZ.out, HO.out, HPS.out⟩
  | false =>
  have hr := HRN.out
  rw [if_neg (by rw [hb]; decide)] at hr
  have hT := take_c H1.out [60]
  rw [hb] at hT
  have HR2 := Lib.hid hr
  clear hr hb HRN
  refine hT.mono ?_
  rintro e w2 ⟨rfl, o2, h2⟩
  rw [if_neg (by decide)] at h2
  have HRN := HR2
  have N2 := Lib.hid (nodes_keep N1.out Z1.out hg o2)
  have O2 := Lib.hid (O1.out.trans o2)
  have H2 := Lib.hid h2
  clear HR2 hT o2 h2 N1 O1 H1
  have N1 := N2
  have O1 := O2
  have H1 := H2
  clear N2 O2 H2
  go_wp2_with fail
  cases hb : isAt ts j [60,61] with
  | true =>
    have hr := HRN.out
    rw [if_pos hb] at hr
    have hT := take_c H1.out [60,61]
    rw [hb] at hT
    have HR2 := Lib.hid hr
    have hjl := isAt_lt hb
    clear hr hb HRN
    refine hT.mono ?_
    rintro e w2 ⟨rfl, o2, h2⟩
    rw [if_pos rfl] at h2
    have H2 := Lib.hid h2
    have O2 := Lib.hid (O1.out.trans o2)
    have N2 := Lib.hid (nodes_keep N1.out Z1.out hg o2)
    clear hT o2 h2
    go_wp2_with fail
    rcases then_cases HR2.out with ⟨er, j2, hx, rfl⟩ | ⟨xs, j2, hx, hr⟩
    · refine (HI.out _ _ _ hx H2.out).mono ?_
      rintro e w3 ⟨rfl, ho⟩
      unfold pan
      go_wp2_with fail
      exact ⟨rfl, rfl, O2.out.trans ho⟩
    refine (HI.out _ _ _ hx H2.out).mono ?_
    rintro e w3 ⟨B2, m2, rfl, l2, nn2, z2, o3, h3⟩
    have HX2 := HL.out _ _ _ hx H2.out.le
    have HX1' := HX1.out
    have O3 := Lib.hid (O2.out.trans o3)
    have H3 := Lib.hid h3
    have HPA := Lib.hid (parts_two (nodes_keep N2.out Z1.out hg o3) nn2 HX1.out.1 HX2.1 L1.out l2)
    have HFL : Hid (([es, xs] : List (List Node)).flatten.length ≤ 100000) := Lib.hid (by
      simp only [List.flatten_cons, List.flatten_nil, List.length_append, List.length_nil]; omega)
    injection hr with hr
    have HRR := Lib.hid hr
    clear hx hr o3 nn2 z2 h3 l2
    go_wp2_with fail
    refine (op_c 16 _ 2 [es, xs] _ HPA.out HFL.out).mono ?_
    rintro e w5 ⟨B5, m5, rfl, hm5, hn5, hz5, hb5⟩
    have heq : opN 16 :: ([es, xs] : List (List Node)).flatten = opN 16 :: (es ++ xs) := by simp
    rw [heq] at hm5 hn5 ⊢
    obtain rfl := HRR.out
    obtain ⟨R, hR⟩ : ∃ R, R = opN 16 :: (es ++ xs) := ⟨_, rfl⟩
    rw [← hR] at hm5 hn5 ⊢
    have HEQ := Lib.hid hR
    have hb6 : Below w3.heap.size w3 w5 := ((Below.refl _ w3).alloc (Nat.le_refl _) _).trans (hb5.mono (by simp))
    have HO := Lib.hid (O3.out.thenBelow hb6)
    have HPS := Lib.hid (H3.out.below hb6)
    have HZ := Lib.hid (hz5.mono (by have := O3.out.size; simp; omega) : NewAt w.heap.size B5)
    clear hR heq hb5 hb6 hz5
    go_wp2_with fail
    go_ret
    obtain rfl := HEQ.out
    exact ⟨B5, m5, rfl, hm5, hn5, HZ.out, HO.out, HPS.out⟩
  | false =>
  have hr := HRN.out
  rw [if_neg (by rw [hb]; decide)] at hr
  have hT := take_c H1.out [60,61]
  rw [hb] at hT
  have HR2 := Lib.hid hr
  clear hr hb HRN
  refine hT.mono ?_
  rintro e w2 ⟨rfl, o2, h2⟩
  rw [if_neg (by decide)] at h2
  have HRN := HR2
  have N2 := Lib.hid (nodes_keep N1.out Z1.out hg o2)
  have O2 := Lib.hid (O1.out.trans o2)
  have H2 := Lib.hid h2
  clear HR2 hT o2 h2 N1 O1 H1
  have N1 := N2
  have O1 := O2
  have H1 := H2
  clear N2 O2 H2
  go_wp2_with fail
  cases hb : isAt ts j [105,110] with
  | true =>
    have hr := HRN.out
    rw [if_pos hb] at hr
    have hT := take_c H1.out [105,110]
    rw [hb] at hT
    have HR2 := Lib.hid hr
    have hjl := isAt_lt hb
    clear hr hb HRN
    refine hT.mono ?_
    rintro e w2 ⟨rfl, o2, h2⟩
    rw [if_pos rfl] at h2
    have H2 := Lib.hid h2
    have O2 := Lib.hid (O1.out.trans o2)
    have N2 := Lib.hid (nodes_keep N1.out Z1.out hg o2)
    clear hT o2 h2
    go_wp2_with fail
    rcases then_cases HR2.out with ⟨er, j2, hx, rfl⟩ | ⟨xs, j2, hx, hr⟩
    · refine (HI.out _ _ _ hx H2.out).mono ?_
      rintro e w3 ⟨rfl, ho⟩
      unfold pan
      go_wp2_with fail
      exact ⟨rfl, rfl, O2.out.trans ho⟩
    refine (HI.out _ _ _ hx H2.out).mono ?_
    rintro e w3 ⟨B2, m2, rfl, l2, nn2, z2, o3, h3⟩
    have HX2 := HL.out _ _ _ hx H2.out.le
    have HX1' := HX1.out
    have O3 := Lib.hid (O2.out.trans o3)
    have H3 := Lib.hid h3
    have HPA := Lib.hid (parts_two (nodes_keep N2.out Z1.out hg o3) nn2 HX1.out.1 HX2.1 L1.out l2)
    have HFL : Hid (([es, xs] : List (List Node)).flatten.length ≤ 100000) := Lib.hid (by
      simp only [List.flatten_cons, List.flatten_nil, List.length_append, List.length_nil]; omega)
    injection hr with hr
    have HRR := Lib.hid hr
    clear hx hr o3 nn2 z2 h3 l2
    go_wp2_with fail
    refine (op_c 20 _ 2 [es, xs] _ HPA.out HFL.out).mono ?_
    rintro e w5 ⟨B5, m5, rfl, hm5, hn5, hz5, hb5⟩
    have heq : opN 20 :: ([es, xs] : List (List Node)).flatten = opN 20 :: (es ++ xs) := by simp
    rw [heq] at hm5 hn5 ⊢
    obtain rfl := HRR.out
    obtain ⟨R, hR⟩ : ∃ R, R = opN 20 :: (es ++ xs) := ⟨_, rfl⟩
    rw [← hR] at hm5 hn5 ⊢
    have HEQ := Lib.hid hR
    have hb6 : Below w3.heap.size w3 w5 := ((Below.refl _ w3).alloc (Nat.le_refl _) _).trans (hb5.mono (by simp))
    have HO := Lib.hid (O3.out.thenBelow hb6)
    have HPS := Lib.hid (H3.out.below hb6)
    have HZ := Lib.hid (hz5.mono (by have := O3.out.size; simp; omega) : NewAt w.heap.size B5)
    clear hR heq hb5 hb6 hz5
    go_wp2_with fail
    go_ret
    obtain rfl := HEQ.out
    exact ⟨B5, m5, rfl, hm5, hn5, HZ.out, HO.out, HPS.out⟩
  | false =>
  have hr := HRN.out
  rw [if_neg (by rw [hb]; decide)] at hr
  have hT := take_c H1.out [105,110]
  rw [hb] at hT
  have HR2 := Lib.hid hr
  clear hr hb HRN
  refine hT.mono ?_
  rintro e w2 ⟨rfl, o2, h2⟩
  rw [if_neg (by decide)] at h2
  have HRN := HR2
  have N2 := Lib.hid (nodes_keep N1.out Z1.out hg o2)
  have O2 := Lib.hid (O1.out.trans o2)
  have H2 := Lib.hid h2
  clear HR2 hT o2 h2 N1 O1 H1
  have N1 := N2
  have O1 := O2
  have H1 := H2
  clear N2 O2 H2
  go_wp2_with fail
  cases hb : isAt ts j [104,97,115] with
  | true =>
    have hr := HRN.out
    rw [if_pos hb] at hr
    have hT := take_c H1.out [104,97,115]
    rw [hb] at hT
    have HR2 := Lib.hid hr
    have hjl := isAt_lt hb
    clear hr hb HRN
    refine hT.mono ?_
    rintro e w2 ⟨rfl, o2, h2⟩
    rw [if_pos rfl] at h2
    have H2 := Lib.hid h2
    have O2 := Lib.hid (O1.out.trans o2)
    have N2 := Lib.hid (nodes_keep N1.out Z1.out hg o2)
    clear hT o2 h2
    go_wp2_with fail
    rcases word_cases (by decide) HR2.out with ⟨t, ht, hk, hr⟩ | ⟨hk, rfl⟩
    rotate_left
    · refine (word_no H2.out 1 hk).mono ?_
      rintro e w3 ⟨rfl, ho⟩
      unfold pan
      go_wp2_with fail
      exact ⟨rfl, rfl, O2.out.trans ho⟩
    refine (word_yes H2.out 1 t ht hk).mono ?_
    rintro e w3 ⟨rfl, o3, h3⟩
    have HX1' := HX1.out
    have O3 := Lib.hid (O2.out.trans o3)
    have H3 := Lib.hid h3
    have HPA := Lib.hid (parts_one (nodes_keep N2.out Z1.out hg o3) HX1.out.1 L1.out)
    have HFL : Hid (([es] : List (List Node)).flatten.length ≤ 100000) := Lib.hid (by
      simp only [List.flatten_cons, List.flatten_nil, List.append_nil]; omega)
    injection hr with hr
    have HRR := Lib.hid hr
    have hnc := node_c ⟨21, 0, t.s, ⟨#[]⟩⟩ _ 1 [es] _ HPA.out HFL.out
    have HNC := Lib.hid hnc
    simp only [Node.val] at HNC
    clear hr o3 h3 ht hk hnc
    go_wp2_with fail
    refine HNC.out.mono ?_
    rintro e w5 ⟨B5, m5, rfl, hm5, hn5, hz5, hb5⟩
    have heq : (⟨21, 0, t.s, ⟨#[]⟩⟩ : Node) :: ([es] : List (List Node)).flatten = ⟨21, 0, t.s, ⟨#[]⟩⟩ :: es := by simp
    rw [heq] at hm5 hn5 ⊢
    obtain rfl := HRR.out
    obtain ⟨R, hR⟩ : ∃ R, R = (⟨21, 0, t.s, ⟨#[]⟩⟩ : Node) :: es := ⟨_, rfl⟩
    rw [← hR] at hm5 hn5 ⊢
    have HEQ := Lib.hid hR
    have hb6 : Below w3.heap.size w3 w5 := ((Below.refl _ w3).alloc (Nat.le_refl _) _).trans (hb5.mono (by simp))
    have HO := Lib.hid (O3.out.thenBelow hb6)
    have HPS := Lib.hid (H3.out.below hb6)
    have HZ := Lib.hid (hz5.mono (by have := O3.out.size; simp; omega) : NewAt w.heap.size B5)
    clear hR heq hb5 hb6 hz5
    go_wp2_with fail
    go_ret
    obtain rfl := HEQ.out
    exact ⟨B5, m5, rfl, hm5, hn5, HZ.out, HO.out, HPS.out⟩
  | false =>
  have hr := HRN.out
  rw [if_neg (by rw [hb]; decide)] at hr
  have hT := take_c H1.out [104,97,115]
  rw [hb] at hT
  have HR2 := Lib.hid hr
  clear hr hb HRN
  refine hT.mono ?_
  rintro e w2 ⟨rfl, o2, h2⟩
  rw [if_neg (by decide)] at h2
  have HRN := HR2
  have N2 := Lib.hid (nodes_keep N1.out Z1.out hg o2)
  have O2 := Lib.hid (O1.out.trans o2)
  have H2 := Lib.hid h2
  clear HR2 hT o2 h2 N1 O1 H1
  have N1 := N2
  have O1 := O2
  have H1 := H2
  clear N2 O2 H2
  go_wp2_with fail
  cases hb : isAt ts j [105,115] with
  | true =>
    have hr := HRN.out
    rw [if_pos hb] at hr
    have hT := take_c H1.out [105,115]
    rw [hb] at hT
    have HR2 := Lib.hid hr
    have hjl := isAt_lt hb
    clear hr hb HRN
    refine hT.mono ?_
    rintro e w2 ⟨rfl, o2, h2⟩
    rw [if_pos rfl] at h2
    have H2 := Lib.hid h2
    have O2 := Lib.hid (O1.out.trans o2)
    have N2 := Lib.hid (nodes_keep N1.out Z1.out hg o2)
    clear hT o2 h2
    go_wp2_with fail
    rcases word_cases (by decide) HR2.out with ⟨t, ht, hk, hr⟩ | ⟨hk, rfl⟩
    rotate_left
    · refine (word_no H2.out 1 hk).mono ?_
      rintro e w3 ⟨rfl, ho⟩
      unfold pan
      go_wp2_with fail
      exact ⟨rfl, rfl, O2.out.trans ho⟩
    refine (word_yes H2.out 1 t ht hk).mono ?_
    rintro e w3 ⟨rfl, o3, h3⟩
    have HX1' := HX1.out
    have O3 := Lib.hid (O2.out.trans o3)
    have H3 := Lib.hid h3
    have HPA := Lib.hid (parts_one (nodes_keep N2.out Z1.out hg o3) HX1.out.1 L1.out)
    have HFL : Hid (([es] : List (List Node)).flatten.length ≤ 100000) := Lib.hid (by
      simp only [List.flatten_cons, List.flatten_nil, List.append_nil]; omega)
    injection hr with hr
    have HRR := Lib.hid hr
    have hnc := node_c ⟨24, 0, t.s, ⟨#[]⟩⟩ _ 1 [es] _ HPA.out HFL.out
    have HNC := Lib.hid hnc
    simp only [Node.val] at HNC
    clear hr o3 h3 ht hk hnc
    go_wp2_with fail
    refine HNC.out.mono ?_
    rintro e w5 ⟨B5, m5, rfl, hm5, hn5, hz5, hb5⟩
    have heq : (⟨24, 0, t.s, ⟨#[]⟩⟩ : Node) :: ([es] : List (List Node)).flatten = ⟨24, 0, t.s, ⟨#[]⟩⟩ :: es := by simp
    rw [heq] at hm5 hn5 ⊢
    obtain rfl := HRR.out
    obtain ⟨R, hR⟩ : ∃ R, R = (⟨24, 0, t.s, ⟨#[]⟩⟩ : Node) :: es := ⟨_, rfl⟩
    rw [← hR] at hm5 hn5 ⊢
    have HEQ := Lib.hid hR
    have hb6 : Below w3.heap.size w3 w5 := ((Below.refl _ w3).alloc (Nat.le_refl _) _).trans (hb5.mono (by simp))
    have HO := Lib.hid (O3.out.thenBelow hb6)
    have HPS := Lib.hid (H3.out.below hb6)
    have HZ := Lib.hid (hz5.mono (by have := O3.out.size; simp; omega) : NewAt w.heap.size B5)
    clear hR heq hb5 hb6 hz5
    go_wp2_with fail
    go_ret
    obtain rfl := HEQ.out
    exact ⟨B5, m5, rfl, hm5, hn5, HZ.out, HO.out, HPS.out⟩
  | false =>
  have hr := HRN.out
  rw [if_neg (by rw [hb]; decide)] at hr
  have hT := take_c H1.out [105,115]
  rw [hb] at hT
  have HR2 := Lib.hid hr
  clear hr hb HRN
  refine hT.mono ?_
  rintro e w2 ⟨rfl, o2, h2⟩
  rw [if_neg (by decide)] at h2
  have HRN := HR2
  have N2 := Lib.hid (nodes_keep N1.out Z1.out hg o2)
  have O2 := Lib.hid (O1.out.trans o2)
  have H2 := Lib.hid h2
  clear HR2 hT o2 h2 N1 O1 H1
  have N1 := N2
  have O1 := O2
  have H1 := H2
  clear N2 O2 H2
  go_wp2_with fail
  cases hb : isAt ts j [108,105,107,101] with
  | true =>
    have hr := HRN.out
    rw [if_pos hb] at hr
    have hT := take_c H1.out [108,105,107,101]
    rw [hb] at hT
    have HR2 := Lib.hid hr
    have hjl := isAt_lt hb
    clear hr hb HRN
    refine hT.mono ?_
    rintro e w2 ⟨rfl, o2, h2⟩
    rw [if_pos rfl] at h2
    have H2 := Lib.hid h2
    have O2 := Lib.hid (O1.out.trans o2)
    have N2 := Lib.hid (nodes_keep N1.out Z1.out hg o2)
    clear hT o2 h2
    go_wp2_with fail
    rcases word_cases (by decide) HR2.out with ⟨t, ht, hk, hr⟩ | ⟨hk, rfl⟩
    rotate_left
    · refine (word_no H2.out 3 hk).mono ?_
      rintro e w3 ⟨rfl, ho⟩
      unfold pan
      go_wp2_with fail
      exact ⟨rfl, rfl, O2.out.trans ho⟩
    refine (word_yes H2.out 3 t ht hk).mono ?_
    rintro e w3 ⟨rfl, o3, h3⟩
    have HX1' := HX1.out
    have O3 := Lib.hid (O2.out.trans o3)
    have H3 := Lib.hid h3
    have HPA := Lib.hid (parts_one (nodes_keep N2.out Z1.out hg o3) HX1.out.1 L1.out)
    have HFL : Hid (([es] : List (List Node)).flatten.length ≤ 100000) := Lib.hid (by
      simp only [List.flatten_cons, List.flatten_nil, List.append_nil]; omega)
    injection hr with hr
    have HRR := Lib.hid hr
    have hnc := node_c ⟨23, 0, t.s, ⟨#[]⟩⟩ _ 1 [es] _ HPA.out HFL.out
    have HNC := Lib.hid hnc
    simp only [Node.val] at HNC
    clear hr o3 h3 ht hk hnc
    go_wp2_with fail
    refine HNC.out.mono ?_
    rintro e w5 ⟨B5, m5, rfl, hm5, hn5, hz5, hb5⟩
    have heq : (⟨23, 0, t.s, ⟨#[]⟩⟩ : Node) :: ([es] : List (List Node)).flatten = ⟨23, 0, t.s, ⟨#[]⟩⟩ :: es := by simp
    rw [heq] at hm5 hn5 ⊢
    obtain rfl := HRR.out
    obtain ⟨R, hR⟩ : ∃ R, R = (⟨23, 0, t.s, ⟨#[]⟩⟩ : Node) :: es := ⟨_, rfl⟩
    rw [← hR] at hm5 hn5 ⊢
    have HEQ := Lib.hid hR
    have hb6 : Below w3.heap.size w3 w5 := ((Below.refl _ w3).alloc (Nat.le_refl _) _).trans (hb5.mono (by simp))
    have HO := Lib.hid (O3.out.thenBelow hb6)
    have HPS := Lib.hid (H3.out.below hb6)
    have HZ := Lib.hid (hz5.mono (by have := O3.out.size; simp; omega) : NewAt w.heap.size B5)
    clear hR heq hb5 hb6 hz5
    go_wp2_with fail
    go_ret
    obtain rfl := HEQ.out
    exact ⟨B5, m5, rfl, hm5, hn5, HZ.out, HO.out, HPS.out⟩
  | false =>
  have hr := HRN.out
  rw [if_neg (by rw [hb]; decide)] at hr
  have hT := take_c H1.out [108,105,107,101]
  rw [hb] at hT
  have HR2 := Lib.hid hr
  clear hr hb HRN
  refine hT.mono ?_
  rintro e w2 ⟨rfl, o2, h2⟩
  rw [if_neg (by decide)] at h2
  have HRN := HR2
  have N2 := Lib.hid (nodes_keep N1.out Z1.out hg o2)
  have O2 := Lib.hid (O1.out.trans o2)
  have H2 := Lib.hid h2
  clear HR2 hT o2 h2 N1 O1 H1
  have N1 := N2
  have O1 := O2
  have H1 := H2
  clear N2 O2 H2
  go_wp2_with fail
  have hr := HRN.out
  injection hr with hr
  obtain rfl := hr
  go_ret
  exact ⟨B1, m1, rfl, L1.out, N1.out, Z1.out, O1.out, H1.out⟩
end Go.Proofs.YtfaadlfaimhbbaaGreatDoor

namespace Go.Proofs.YtfaadlfaimhbbaaGreatDoor
open Go.RowKit

/-- A region that draws its order, over a class of worlds. -/
theorem region_W {P : Program} {W : Type} (val : W → World) {id : Nat} {Q : Exit → Act → World → Prop} {a : Act} {w : World} {l : List Oper} (hm : P.follows .mixedOrders = true) (hB : Region.lexB .any l.toArray = true)
    (x0 : W) (hx : w.drew = val x0)
    (h : wpQuiet P l.toArray (fun w' => ∃ x, w' = val x) (fun a' => ∀ w', (∃ x, w' = val x) → Q .normal a' w') l a) : (Code.region id l.toArray true).wp P Q a w :=
  wp_region_quiet (C := fun w' => ∃ x, w' = val x) hm hB ⟨x0, hx⟩ (by simpa using h)
/-- A world in which the parser stands at word i, and what was there at w stands. -/
structure PW (g : Nat) (A : Option Addr) (c : Nat) (ts : List Tok) (i : Nat) (w : World) where
  wo : World
  bel : Below w.heap.size w wo
  ps : Ps g A c ts i wo

theorem PW.kind {g : Nat} {b off c : Nat} {ts : List Tok} {i : Nat} {w : World} (x : PW g (some ⟨b, off, none⟩) c ts i w) {k : Nat} {t : Tok} (ht : ts[k]? = some t) : x.wo.cell? ⟨b, off + k * 3, none⟩ = some (.int .i64 t.kind) ∧ x.wo.cell? ⟨b, off + k * 3 + 1, none⟩ = some (.string t.s) := by
  obtain ⟨b', off', e, _, h1, h2, _⟩ := x.ps.toks.at_ ht
  injection e with e
  injection e with e1 e2
  subst e1
  subst e2
  exact ⟨h1, h2⟩
/-- One part behind a sign: the last steps. -/
theorem un_post {g : Nat} {A : Option Addr} {c : Nat} {ts : List Tok} {w w3 w5 : World} {o : Int} {xs : List Node} {j m : Nat} {B : Option Addr} (O3 : Only g w w3) (H3 : Ps g A c ts j w3)
    (hm : (opN o :: ([xs] : List (List Node)).flatten).length ≤ m) (hn : NodesAt w5 B (opN o :: ([xs] : List (List Node)).flatten)) {ob : Obj} (hz : NewAt (w3.alloc ob).heap.size B) (hb : Below (w3.alloc ob).heap.size (w3.alloc ob) w5) :
    PPost g A c ts w (.ok (opN o :: xs, j)) (.returned (.slice B (opN o :: xs).length m)) w5 := by
  have heq : opN o :: ([xs] : List (List Node)).flatten = opN o :: xs := by simp
  rw [heq] at hm hn
  have hb6 : Below w3.heap.size w3 w5 := ((Below.refl _ w3).alloc (Nat.le_refl _) _).trans (hb.mono (by simp))
  exact ⟨B, m, rfl, hm, hn, hz.mono (by have := O3.size; simp; omega), O3.thenBelow hb6, H3.below hb6⟩

set_option maxRecDepth 100000 in
set_option maxHeartbeats 4000000 in
theorem sign_c2 {g : Nat} {A : Option Addr} {c : Nat} {ts : List Tok} {f : Nat} (IH : ∀ k, k ≤ f → Good g A c ts k) (i : Nat) (r : PRes) (w : World) (hr : run ts (f + 1) .sign i = some r) (h : Ps g A c ts i w) :
    Calls Tryz.prog 175 #[.pointer (some ⟨g, 0, none⟩)] w (PPost g A c ts w r) := by
  have hlen := h.len
  have hle := h.le
  have hg := h.lt
  have H := Lib.hid h
  unfold run at hr
  have HI := Lib.hid (fun i r w => IH f (Nat.le_refl _) .sign _ i r w rfl)
  have HIP := Lib.hid (fun i r w => IH f (Nat.le_refl _) .post _ i r w rfl)
  have HL := Lib.hid (fun i ns j hr hi => run_pos (ts := ts) (f := f) (pf := .sign) (i := i) (ns := ns) (j := j) hr hi rfl rfl hlen)
  have HR := Lib.hid hr
  clear IH hr h
  go_enter Tryz.func175, Tryz.ntmps175
  go_wp2_with fail
  cases hb : isAt ts i [33] with
  | true =>
    have hT := take_c H.out [33]
    rw [hb] at hT
    have hr := HR.out
    rw [if_pos hb] at hr
    have HR2 := Lib.hid hr
    clear hr hb HR
    refine hT.mono ?_
    rintro e w2 ⟨rfl, o2, h2⟩
    rw [if_pos rfl] at h2
    have H2 := Lib.hid h2
    have O2 := Lib.hid o2
    clear hT h2 o2
    go_wp2_with fail
    rcases then_cases HR2.out with ⟨er, j2, hx, rfl⟩ | ⟨xs, j2, hx, hr⟩
    · refine (HI.out _ _ _ hx H2.out).mono ?_
      rintro e w3 ⟨rfl, ho⟩
      unfold pan
      go_wp2_with fail
      exact ⟨rfl, rfl, O2.out.trans ho⟩
    refine (HI.out _ _ _ hx H2.out).mono ?_
    rintro e w3 ⟨B2, m2, rfl, l2, nn2, z2, o3, h3⟩
    have HX2 := HL.out _ _ _ hx H2.out.le
    have O3 := Lib.hid (O2.out.trans o3)
    have H3 := Lib.hid h3
    have HPA := Lib.hid (parts_one nn2 HX2.1 l2)
    have HFL : Hid (([xs] : List (List Node)).flatten.length ≤ 100000) := Lib.hid (by
      simp only [List.flatten_cons, List.flatten_nil, List.append_nil]; omega)
    injection hr with hr
    have HRR := Lib.hid hr
    clear hx hr o3 nn2 z2 h3 l2
    go_wp2_with fail
    refine (op_c 9 _ 1 [xs] _ HPA.out HFL.out).mono ?_
    rintro e w5 ⟨B5, m5, rfl, hm5, hn5, hz5, hb5⟩
    obtain rfl := HRR.out
    have HP := Lib.hid (un_post O3.out H3.out hm5 hn5 hz5 hb5)
    rw [show (opN 9 :: ([xs] : List (List Node)).flatten).length = (opN 9 :: xs).length from by simp]
    obtain ⟨R, hR⟩ : ∃ R, R = opN 9 :: xs := ⟨_, rfl⟩
    rw [← hR] at HP ⊢
    have HEQ := Lib.hid hR
    clear hR hm5 hn5 hz5 hb5
    go_wp2_with fail
    go_ret
    obtain rfl := HEQ.out
    exact HP.out
  | false =>
    have hT := take_c H.out [33]
    rw [hb] at hT
    have hr := HR.out
    rw [if_neg (by rw [hb]; decide)] at hr
    have HR2 := Lib.hid hr
    clear hr hb HR
    refine hT.mono ?_
    rintro e w1 ⟨rfl, o1, h1⟩
    rw [if_neg (by decide)] at h1
    have H1 := Lib.hid h1
    have O1 := Lib.hid o1
    clear hT h1 o1
    go_wp2_with fail
    have hnot : ∀ (x : Bool) (w : World), (Op.unary .not (.bool x)).run Tryz.prog w = .ok (.bool (!x)) w := fun _ _ => rfl
    have c0 : ∀ x : PW g A c ts i w1, x.wo.cell? ⟨g, 0, none⟩ = some (.slice A ts.length c) := fun x => x.ps.cells.1
    have c1 : ∀ x : PW g A c ts i w1, x.wo.cell? ⟨g, 1, none⟩ = some (.int .i64 i) := fun x => x.ps.cells.2.1
    have hcall := fun (x : PW g A c ts i w1) => (is_c x.ps [45]).mono (R' := fun e w'' => e = .returned (.bool (isAt ts i [45])) ∧ ∃ y : PW g A c ts i w1, w'' = y.wo) (fun e w'' hh => ⟨hh.1, ⟨w'', x.bel.trans (hh.2.mono x.bel.size), x.ps.below hh.2⟩, rfl⟩)
    have HCALL := Lib.hid hcall
    clear hcall
    haveI : Nonempty (PW g A c ts i w1) := ⟨⟨w1, Below.refl _ _, H1.out⟩⟩
    cases hm : isAt ts i [45] with
    | false =>
      rw [hm] at HCALL
      refine region_W (W := PW g A c ts i w1) PW.wo (by kernel_rfl) (by kernel_rfl) ⟨w1.drew, (Below.refl _ _).drew, H1.out.drewN 1⟩ rfl ?_
      repeat (go_big_quiet_step (exact HCALL.out _))
      refine wpQuiet_nil ?_
      rintro w2 ⟨x, rfl⟩
      go_wp2_with fail
      have hr := HR2.out
      rw [if_neg (by rw [hm]; simp)] at hr
      have HR2 := Lib.hid hr
      clear hr hm
      have HR3 := HR2
      refine (HIP.out _ _ _ HR3.out x.ps).mono ?_
      intro e w3 hp
      have hp := hp.from_ (O1.out.trans (Only.ofBelow x.bel))
      rcases r with ⟨er, j⟩ | ⟨ns, j⟩
      · obtain ⟨rfl, ho⟩ := hp
        unfold pan
        go_wp2_with fail
        exact ⟨rfl, rfl, ho⟩
      · obtain ⟨B, m, rfl, hrest⟩ := hp
        go_wp2_with fail
        go_ret
        exact ⟨B, m, rfl, hrest⟩
    | true =>
      rw [hm] at HCALL
      have hm1 := isAt_lt hm
      by_cases hlt : i + 1 < ts.length
      · obtain ⟨t, ht⟩ : ∃ t, ts[i + 1]? = some t := ⟨_, List.getElem?_eq_getElem hlt⟩
        obtain ⟨b, off, rfl, hb1, _, _, _⟩ := H1.out.toks.at_ ht
        have d0 : ∀ x : PW g (some ⟨b, off, none⟩) c ts i w1, x.wo.cell? ⟨b, off + (i + 1) * 3, none⟩ = some (.int .i64 t.kind) := fun x => (x.kind ht).1
        have hlt' : (i : Int) + 1 < ts.length := by omega
        have hlt1 : decide ((i : Int) + 1 < ts.length) = true := by simp; omega
        have hle' : (i : Int) ≤ 300 := by omega
        have hkk := kindAt_some ht
        cases hk : (t.kind == 2) with
        | true =>
          have hr := HR2.out
          rw [if_neg (by rw [hm, hkk, hk]; decide)] at hr
          have HR2 := Lib.hid hr
          clear hr hm ht hkk
          refine region_W (W := PW g (some ⟨b, off, none⟩) c ts i w1) PW.wo (by kernel_rfl) (by kernel_rfl) ⟨w1.drew, (Below.refl _ _).drew, H1.out.drewN 1⟩ rfl ?_
          repeat (go_big_quiet_step (exact HCALL.out _))
          refine wpQuiet_nil ?_
          rintro w2 ⟨x, rfl⟩
          go_wp2_with fail
          have HR3 := HR2
          refine (HIP.out _ _ _ HR3.out x.ps).mono ?_
          intro e w3 hp
          have hp := hp.from_ (O1.out.trans (Only.ofBelow x.bel))
          rcases r with ⟨er, j⟩ | ⟨ns, j⟩
          · obtain ⟨rfl, ho⟩ := hp
            unfold pan
            go_wp2_with fail
            exact ⟨rfl, rfl, ho⟩
          · obtain ⟨B, m, rfl, hrest⟩ := hp
            go_wp2_with fail
            go_ret
            exact ⟨B, m, rfl, hrest⟩
        | false =>
          have hr := HR2.out
          rw [if_pos (by rw [hm, hkk, hk]; rfl)] at hr
          have HR2 := Lib.hid hr
          clear hr hm ht hkk
          refine region_W (W := PW g (some ⟨b, off, none⟩) c ts i w1) PW.wo (by kernel_rfl) (by kernel_rfl) ⟨w1.drew, (Below.refl _ _).drew, H1.out.drewN 1⟩ rfl ?_
          repeat (go_big_quiet_step (exact HCALL.out _))
          refine wpQuiet_nil ?_
          rintro w2 ⟨x, rfl⟩
          obtain ⟨q0, q1, q2, q3⟩ := x.ps.cells
          go_wp2_with fail
          have H2 := Lib.hid (x.ps.step (j := i + 1) hm1)
          have O2 := Lib.hid ((O1.out.trans (Only.ofBelow x.bel)).set_ 1 (.int .i64 ((i + 1 : Nat) : Int)))
          rw [show (i : Int) + 1 = ((i + 1 : Nat) : Int) from rfl]
          generalize x.wo.setCell ⟨g, 1, none⟩ (.int .i64 ((i + 1 : Nat) : Int)) = w2 at H2 O2 ⊢
          clear q0 q1 q2 q3
          rcases then_cases HR2.out with ⟨er, j2, hx, rfl⟩ | ⟨xs, j2, hx, hr⟩
          · refine (HI.out _ _ _ hx H2.out).mono ?_
            rintro e w3 ⟨rfl, ho⟩
            unfold pan
            go_wp2_with fail
            exact ⟨rfl, rfl, O2.out.trans ho⟩
          refine (HI.out _ _ _ hx H2.out).mono ?_
          rintro e w3 ⟨B2, m2, rfl, l2, nn2, z2, o3, h3⟩
          have HX2 := HL.out _ _ _ hx H2.out.le
          have O3 := Lib.hid (O2.out.trans o3)
          have H3 := Lib.hid h3
          have HPA := Lib.hid (parts_one nn2 HX2.1 l2)
          have HFL : Hid (([xs] : List (List Node)).flatten.length ≤ 100000) := Lib.hid (by
            simp only [List.flatten_cons, List.flatten_nil, List.append_nil]; omega)
          injection hr with hr
          have HRR := Lib.hid hr
          clear hx hr o3 nn2 z2 h3 l2
          go_wp2_with fail
          refine (op_c 10 _ 1 [xs] _ HPA.out HFL.out).mono ?_
          rintro e w5 ⟨B5, m5, rfl, hm5, hn5, hz5, hb5⟩
          obtain rfl := HRR.out
          have HP := Lib.hid (un_post O3.out H3.out hm5 hn5 hz5 hb5)
          rw [show (opN 10 :: ([xs] : List (List Node)).flatten).length = (opN 10 :: xs).length from by simp]
          obtain ⟨R, hR⟩ : ∃ R, R = opN 10 :: xs := ⟨_, rfl⟩
          rw [← hR] at HP ⊢
          have HEQ := Lib.hid hR
          clear hR hm5 hn5 hz5 hb5
          go_wp2_with fail
          go_ret
          obtain rfl := HEQ.out
          exact HP.out
      · have hge : ¬ (i : Int) + 1 < ts.length := by omega
        have hge1 : decide ((i : Int) + 1 < ts.length) = false := by simp; omega
        have hle' : (i : Int) ≤ 300 := by omega
        have hkk := kind_no hlt
        have hr := HR2.out
        rw [if_pos (by rw [hm, hkk]; rfl)] at hr
        have HR2 := Lib.hid hr
        clear hr hm hkk
        refine region_W (W := PW g A c ts i w1) PW.wo (by kernel_rfl) (by kernel_rfl) ⟨w1.drew, (Below.refl _ _).drew, H1.out.drewN 1⟩ rfl ?_
        repeat (go_big_quiet_step (exact HCALL.out _))
        refine wpQuiet_nil ?_
        rintro w2 ⟨x, rfl⟩
        obtain ⟨q0, q1, q2, q3⟩ := x.ps.cells
        go_wp2_with fail
        have H2 := Lib.hid (x.ps.step (j := i + 1) hm1)
        have O2 := Lib.hid ((O1.out.trans (Only.ofBelow x.bel)).set_ 1 (.int .i64 ((i + 1 : Nat) : Int)))
        rw [show (i : Int) + 1 = ((i + 1 : Nat) : Int) from rfl]
        generalize x.wo.setCell ⟨g, 1, none⟩ (.int .i64 ((i + 1 : Nat) : Int)) = w2 at H2 O2 ⊢
        clear q0 q1 q2 q3
        rcases then_cases HR2.out with ⟨er, j2, hx, rfl⟩ | ⟨xs, j2, hx, hr⟩
        · refine (HI.out _ _ _ hx H2.out).mono ?_
          rintro e w3 ⟨rfl, ho⟩
          unfold pan
          go_wp2_with fail
          exact ⟨rfl, rfl, O2.out.trans ho⟩
        refine (HI.out _ _ _ hx H2.out).mono ?_
        rintro e w3 ⟨B2, m2, rfl, l2, nn2, z2, o3, h3⟩
        have HX2 := HL.out _ _ _ hx H2.out.le
        omega
end Go.Proofs.YtfaadlfaimhbbaaGreatDoor
