/-
  (*word.reader).word, the other ways: a name, a text, a slot, a sign; and all of them.
  The words of a line, plainly: what word.Read tells; each word goes on.
  word.Read's deferred function: a panic with a fault becomes the error; none: nothing happens.
  word.Read: the words of a line, or what is wrong and where.
  sync.Once over the replacer's own build: the first call takes the lock, builds, marks it as done, and lets the lock go.
  sync.Once.Do over the replacer's build: it is built, once; the lock is free again.
  strings.Replacer.build over four texts of which one of the new ones is longer than one byte: a table of 256 replacements.
  strings.NewReplacer of name.Quote's four texts, and the first half of its Replace: the table is built.
-/
import Derived.Test.YtfaadlfaimhbbaaGreatDoorM1
import Derived.StillTailTactics
import Derived.Defers
import Derived.Recover
import Derived.Laws.Pointers
import Derived.BigRegion
import Derived.Laws.LoneSync
import Derived.Tactics2
import Derived.RegionCalls
import Derived.ChangeAlike
import Derived.Laws.Tables
import Derived.Great.BuildSlice
namespace Go.Proofs.YtfaadlfaimhbbaaGreatDoor
open Go.RowKit

theorem signOf_le (l : List UInt8) : (signOf l).length ≤ 2 := by
  unfold signOf
  cases h : signsL.find? fun x => Lib.hasPrefix l x with
  | none => simp
  | some x =>
    have hm := List.mem_of_find?_eq_some h
    have : ∀ y ∈ signsL, y.length ≤ 2 := by decide
    simpa using this x hm

theorem still_tail {P : Program} {id : Nat} {Q : Exit → Act → World → Prop} {a : Act} {w : World} {l : List Oper} (n : Nat) (hm : P.follows .mixedOrders = true) (hB : Region.lexTailB .any l.toArray n = true)
    (h : wpStill P l.toArray w.drew (fun a' => wpList P l.toArray Q (l.drop n) a' w.drew) (l.take n) a) : (Code.region id l.toArray true).wp P Q a w := wp_region_still_tail n hm hB h

set_option maxRecDepth 100000 in
set_option maxHeartbeats 1000000 in
theorem word_name (b : Nat) (s : ByteArray) (i : Nat) (w : World) (hs : s.size ≤ 100000000) (h : RdAt w b s i) (c : UInt8) (hx : s.data.toList[i]? = some c) (hd : digitI c.toNat = false) (hn : inNameI c.toNat = true) :
    Calls Tryz.prog 109 #[.pointer (some ⟨b, 0, none⟩)] w (WordPost b s w (namedW 1 s i i)) := by
  have hb := Blk.lt h
  have hlt0 := lt_of_some hx
  have hsz := Lib.size_eq s
  have hi : i ≤ s.size := by omega
  have hi' : i < s.size := by omega
  have hi1 : i + 1 ≤ s.size := by omega
  have hlt : (i : Int) < s.size := by omega
  clear hsz hlt0
  obtain ⟨hc0, hc1, hz1⟩ := h.cells
  have hidx := str_index s i c hx
  have HD := Lib.hid hd
  have HX := Lib.hid hx
  clear hd hx
  have HN := Lib.hid hn
  clear hn
  cases hres : namedW 1 s i i with
  | ok t n =>
    have HRES := Lib.hid hres
    clear hres
    go_enter Tryz.func109, Tryz.ntmps109
    go_wp2_with fail
    go_quiet (fail)
    go_wp2_with fail
    refine (wdigit_c _ _).mono ?_
    rintro e w' ⟨rfl, rfl⟩
    rw [HD.out]
    go_wp2_with fail
    refine (inName_c _ _).mono ?_
    rintro e w' ⟨rfl, rfl⟩
    rw [HN.out]
    go_wp2_with fail
    refine (named_c 1 b s i i _ (by omega) hi (Blk.drewN (Blk.alloc h _) _)).mono ?_
    intro e w1 hp
    rw [HRES.out] at hp
    obtain ⟨he, hr1, ho1⟩ := hp
    rw [Tok.val] at he
    subst he
    have hR := tok_new hb hr1 (((Only.refl b _).drewN _).trans ho1)
    have HR1 := Lib.hid hr1
    have HO1 := Lib.hid ho1
    clear hr1 ho1
    obtain ⟨q0, q1, q2, z0, z1, z2⟩ := hR.cells3
    have HQ := Lib.hid hR
    clear hR
    go_wp2_with fail
    refine bodyPost_ret (tok_result rfl _ _ w.heap.size _ rfl (HQ.out.three _ _ _) rfl) rfl ?_
    exact tok_end hb HR1.out (((Only.refl b _).drewN _).trans HO1.out) t
  | bad err k =>
    have HRES := Lib.hid hres
    clear hres
    go_enter Tryz.func109, Tryz.ntmps109
    go_wp2_with fail
    go_quiet (fail)
    go_wp2_with fail
    refine (wdigit_c _ _).mono ?_
    rintro e w' ⟨rfl, rfl⟩
    rw [HD.out]
    go_wp2_with fail
    refine (inName_c _ _).mono ?_
    rintro e w' ⟨rfl, rfl⟩
    rw [HN.out]
    go_wp2_with fail
    refine (named_c 1 b s i i _ (by omega) hi (Blk.drewN (Blk.alloc h _) _)).mono ?_
    intro e w1 hp
    rw [HRES.out] at hp
    obtain ⟨he, ho1⟩ := hp
    subst he
    exact ⟨rfl, rfl, ((Only.refl b w).alloc _).trans (((Only.refl b _).drewN _).trans ho1)⟩

set_option maxRecDepth 100000 in
set_option maxHeartbeats 1000000 in
theorem word_quoted (b : Nat) (s : ByteArray) (i : Nat) (w : World) (hs : s.size ≤ 100000000) (h : RdAt w b s i) (c : UInt8) (hx : s.data.toList[i]? = some c) (hd : digitI c.toNat = false) (hn : inNameI c.toNat = false) (hq : c = 34) :
    Calls Tryz.prog 109 #[.pointer (some ⟨b, 0, none⟩)] w (WordPost b s w (quotedW s i)) := by
  have hb := Blk.lt h
  have hlt0 := lt_of_some hx
  have hsz := Lib.size_eq s
  have hi : i ≤ s.size := by omega
  have hi' : i < s.size := by omega
  have hi1 : i + 1 ≤ s.size := by omega
  have hlt : (i : Int) < s.size := by omega
  clear hsz hlt0
  obtain ⟨hc0, hc1, hz1⟩ := h.cells
  have hidx := str_index s i c hx
  have HD := Lib.hid hd
  have HX := Lib.hid hx
  clear hd hx
  have HN := Lib.hid hn
  clear hn
  have hq1 : ((c.toNat : Int) == 34) = true := by rw [hq]; rfl
  clear hq
  cases hres : quotedW s i with
  | ok t n =>
    have HRES := Lib.hid hres
    clear hres
    go_enter Tryz.func109, Tryz.ntmps109
    go_wp2_with fail
    go_quiet (fail)
    go_wp2_with fail
    refine (wdigit_c _ _).mono ?_
    rintro e w' ⟨rfl, rfl⟩
    rw [HD.out]
    go_wp2_with fail
    refine (inName_c _ _).mono ?_
    rintro e w' ⟨rfl, rfl⟩
    rw [HN.out]
    go_wp2_with fail
    refine (quoted_c b s i _ hs hi' (Blk.drewN (Blk.alloc h _) _)).mono ?_
    intro e w1 hp
    rw [HRES.out] at hp
    obtain ⟨he, hr1, ho1⟩ := hp
    rw [Tok.val] at he
    subst he
    have hR := tok_new hb hr1 (((Only.refl b _).drewN _).trans ho1)
    have HR1 := Lib.hid hr1
    have HO1 := Lib.hid ho1
    clear hr1 ho1
    obtain ⟨q0, q1, q2, z0, z1, z2⟩ := hR.cells3
    have HQ := Lib.hid hR
    clear hR
    go_wp2_with fail
    refine bodyPost_ret (tok_result rfl _ _ w.heap.size _ rfl (HQ.out.three _ _ _) rfl) rfl ?_
    exact tok_end hb HR1.out (((Only.refl b _).drewN _).trans HO1.out) t
  | bad err k =>
    have HRES := Lib.hid hres
    clear hres
    go_enter Tryz.func109, Tryz.ntmps109
    go_wp2_with fail
    go_quiet (fail)
    go_wp2_with fail
    refine (wdigit_c _ _).mono ?_
    rintro e w' ⟨rfl, rfl⟩
    rw [HD.out]
    go_wp2_with fail
    refine (inName_c _ _).mono ?_
    rintro e w' ⟨rfl, rfl⟩
    rw [HN.out]
    go_wp2_with fail
    refine (quoted_c b s i _ hs hi' (Blk.drewN (Blk.alloc h _) _)).mono ?_
    intro e w1 hp
    rw [HRES.out] at hp
    obtain ⟨he, ho1⟩ := hp
    subst he
    exact ⟨rfl, rfl, ((Only.refl b w).alloc _).trans (((Only.refl b _).drewN _).trans ho1)⟩

set_option maxRecDepth 100000 in
set_option maxHeartbeats 1000000 in
theorem word_slot (b : Nat) (s : ByteArray) (i : Nat) (w : World) (hs : s.size ≤ 100000000) (h : RdAt w b s i) (c : UInt8) (hx : s.data.toList[i]? = some c) (hd : digitI c.toNat = false) (hn : inNameI c.toNat = false) (hq : c = 63) :
    Calls Tryz.prog 109 #[.pointer (some ⟨b, 0, none⟩)] w (WordPost b s w (namedW 4 s (i + 1) i)) := by
  have hb := Blk.lt h
  have hlt0 := lt_of_some hx
  have hsz := Lib.size_eq s
  have hi : i ≤ s.size := by omega
  have hi' : i < s.size := by omega
  have hi1 : i + 1 ≤ s.size := by omega
  have hlt : (i : Int) < s.size := by omega
  clear hsz hlt0
  obtain ⟨hc0, hc1, hz1⟩ := h.cells
  have hidx := str_index s i c hx
  have HD := Lib.hid hd
  have HX := Lib.hid hx
  clear hd hx
  have HN := Lib.hid hn
  clear hn
  have hq1 : ((c.toNat : Int) == 34) = false := by rw [hq]; rfl
  have hq2 : ((c.toNat : Int) == 63) = true := by rw [hq]; rfl
  clear hq
  cases hres : namedW 4 s (i + 1) i with
  | ok t n =>
    have HRES := Lib.hid hres
    clear hres
    go_enter Tryz.func109, Tryz.ntmps109
    go_wp2_with fail
    go_quiet (fail)
    go_wp2_with fail
    refine (wdigit_c _ _).mono ?_
    rintro e w' ⟨rfl, rfl⟩
    rw [HD.out]
    go_wp2_with fail
    refine (inName_c _ _).mono ?_
    rintro e w' ⟨rfl, rfl⟩
    rw [HN.out]
    go_wp2_with fail
    refine (named_c 4 b s (i + 1) i _ (by omega) hi1 (Blk.set_ (Blk.drewN (Blk.alloc h _) _) 1 _)).mono ?_
    intro e w1 hp
    rw [HRES.out] at hp
    obtain ⟨he, hr1, ho1⟩ := hp
    rw [Tok.val] at he
    subst he
    have hR := tok_new hb hr1 ((((Only.refl b _).drewN _).set_ 1 _).trans ho1)
    have HR1 := Lib.hid hr1
    have HO1 := Lib.hid ho1
    clear hr1 ho1
    obtain ⟨q0, q1, q2, z0, z1, z2⟩ := hR.cells3
    have HQ := Lib.hid hR
    clear hR
    go_wp2_with fail
    refine bodyPost_ret (tok_result rfl _ _ w.heap.size _ rfl (HQ.out.three _ _ _) rfl) rfl ?_
    exact tok_end hb HR1.out ((((Only.refl b _).drewN _).set_ 1 _).trans HO1.out) t
  | bad err k =>
    have HRES := Lib.hid hres
    clear hres
    go_enter Tryz.func109, Tryz.ntmps109
    go_wp2_with fail
    go_quiet (fail)
    go_wp2_with fail
    refine (wdigit_c _ _).mono ?_
    rintro e w' ⟨rfl, rfl⟩
    rw [HD.out]
    go_wp2_with fail
    refine (inName_c _ _).mono ?_
    rintro e w' ⟨rfl, rfl⟩
    rw [HN.out]
    go_wp2_with fail
    refine (named_c 4 b s (i + 1) i _ (by omega) hi1 (Blk.set_ (Blk.drewN (Blk.alloc h _) _) 1 _)).mono ?_
    intro e w1 hp
    rw [HRES.out] at hp
    obtain ⟨he, ho1⟩ := hp
    subst he
    exact ⟨rfl, rfl, ((Only.refl b w).alloc _).trans ((((Only.refl b _).drewN _).set_ 1 _).trans ho1)⟩

set_option maxRecDepth 100000 in
set_option maxHeartbeats 1000000 in
theorem word_sign (b : Nat) (s : ByteArray) (i : Nat) (w : World) (hs : s.size ≤ 100000000) (h : RdAt w b s i) (c : UInt8) (hx : s.data.toList[i]? = some c) (hd : digitI c.toNat = false) (hn : inNameI c.toNat = false) (hq3 : c ≠ 34) (hq4 : c ≠ 63) :
    Calls Tryz.prog 109 #[.pointer (some ⟨b, 0, none⟩)] w (WordPost b s w (signW s i)) := by
  have hb := Blk.lt h
  have hlt0 := lt_of_some hx
  have hsz := Lib.size_eq s
  have hi : i ≤ s.size := by omega
  have hi' : i < s.size := by omega
  have hi1 : i + 1 ≤ s.size := by omega
  have hlt : (i : Int) < s.size := by omega
  clear hsz hlt0
  obtain ⟨hc0, hc1, hz1⟩ := h.cells
  have hidx := str_index s i c hx
  have HD := Lib.hid hd
  have HX := Lib.hid hx
  clear hd hx
  have HN := Lib.hid hn
  clear hn
  have hq1 : ((c.toNat : Int) == 34) = false := u8_ne (by decide) hq3
  have hq2 : ((c.toNat : Int) == 63) = false := u8_ne (by decide) hq4
  clear hq3 hq4
  obtain ⟨T, hT, hTn⟩ : ∃ T : ByteArray, T = ⟨(signOf (s.data.toList.drop i)).toArray⟩ ∧ T.data.toList = signOf (s.data.toList.drop i) := ⟨_, rfl, rfl⟩
  have hTs : T.size = (signOf (s.data.toList.drop i)).length := by rw [Lib.size_eq, hTn]
  have CT : Hid (∀ w : World, Calls Tryz.prog 140 #[.string (s.extract i s.size)] w fun e w' => e = .returned (.string T) ∧ Below w.heap.size w w') := by
    intro w
    have := sign_c (s.extract i s.size) w
    rw [Lib.extract_to_end, ← hT] at this
    exact this
  have HT := Lib.hid hT
  have HTS := Lib.hid hTs
  have hlen : T.size ≤ 2 := by rw [hTs]; exact signOf_le _
  clear hTs hT
  by_cases hem : signOf (s.data.toList.drop i) = []
  · have hl : T.toList = [] := by rw [Lib.toList_data, hTn, hem]
    have HEM := Lib.hid hem
    clear hTn hem
    go_enter Tryz.func109, Tryz.ntmps109
    go_wp2_with fail
    go_quiet (fail)
    go_wp2_with fail
    refine (wdigit_c _ _).mono ?_
    rintro e w' ⟨rfl, rfl⟩
    rw [HD.out]
    go_wp2_with fail
    refine (inName_c _ _).mono ?_
    rintro e w' ⟨rfl, rfl⟩
    rw [HN.out]
    go_wp2_with fail
    refine still_tail 9 (by kernel_rfl) (by kernel_rfl) ?_
    simp only [List.take_succ_cons, List.take_zero, List.drop_succ_cons, List.drop_zero]
    repeat still_step
    refine wpStill_nil ?_
    go_wp2_with fail
    refine (CT.out _).mono ?_
    rintro e w1 ⟨rfl, hb1⟩
    go_wp2_with fail
    refine ⟨rfl, ?_⟩
    unfold signW
    rw [if_pos HEM.out]
    exact ⟨rfl, (((Only.refl b w).alloc _).drewN _).thenBelow hb1⟩
  · have hl : T.toList.isEmpty = false := by rw [Lib.toList_data, hTn]; cases hs : signOf (s.data.toList.drop i) with | nil => exact absurd hs hem | cons => rfl
    have HEM := Lib.hid hem
    clear hTn hem
    go_enter Tryz.func109, Tryz.ntmps109
    go_wp2_with fail
    go_quiet (fail)
    go_wp2_with fail
    refine (wdigit_c _ _).mono ?_
    rintro e w' ⟨rfl, rfl⟩
    rw [HD.out]
    go_wp2_with fail
    refine (inName_c _ _).mono ?_
    rintro e w' ⟨rfl, rfl⟩
    rw [HN.out]
    go_wp2_with fail
    refine still_tail 9 (by kernel_rfl) (by kernel_rfl) ?_
    simp only [List.take_succ_cons, List.take_zero, List.drop_succ_cons, List.drop_zero]
    repeat still_step
    refine wpStill_nil ?_
    go_wp2_with fail
    refine (CT.out _).mono ?_
    rintro e w1 ⟨rfl, hb1⟩
    have HB1 := Lib.hid hb1
    have hr1 : RdAt w1 b s i := Blk.belowS (Blk.drewN (Blk.alloc h _) _) hb1
    have HR1 := Lib.hid hr1
    obtain ⟨d0, d1, y1⟩ := hr1.cells
    have hR : Blk w1 w.heap.size 34 #[.int .i64 0, .string ⟨#[]⟩, .int .i64 0] := Blk.belowS (Blk.drewN (Blk.new _ _ _) _) hb1
    have HQ := Lib.hid hR
    obtain ⟨q0, q1, q2, z0, z1, z2⟩ := hR.cells3
    have hbn : b ≠ w.heap.size := Nat.ne_of_lt hb
    have hbn' : w.heap.size ≠ b := Nat.ne_of_gt hb
    clear hb1 hr1 hR
    go_wp2_with fail
    refine bodyPost_ret (tok_result rfl _ _ w.heap.size _ rfl ((Blk.far HQ.out (p := ⟨b, 1, none⟩) hbn' _).three _ _ _) rfl) rfl ?_
    have hsw : signW s i = .ok ⟨5, T, i⟩ (i + T.size) := by
      unfold signW
      rw [if_neg HEM.out, HTS.out, ← HT.out]
    rw [hsw]
    exact tok_end hb (Blk.set_ HR1.out 1 _) ((((Only.refl b _).drewN _).thenBelow HB1.out).set_ 1 _) ⟨5, T, i⟩

theorem word_c (b : Nat) (s : ByteArray) (i : Nat) (w : World) (hs : s.size ≤ 100000000) (hi : i < s.size) (h : RdAt w b s i) :
    Calls Tryz.prog 109 #[.pointer (some ⟨b, 0, none⟩)] w (WordPost b s w (wordW s i)) := by
  obtain ⟨c, hx⟩ : ∃ c, s.data.toList[i]? = some c := ⟨_, List.getElem?_eq_getElem (by rw [← Lib.size_eq]; exact hi)⟩
  unfold wordW
  rw [hx]
  cases hd : digitI c.toNat with
  | true => simp only [hd, if_true]; exact word_digit b s i w hs h c hx hd
  | false =>
    cases hn : inNameI c.toNat with
    | true => simp only [hd, hn, if_true]; exact word_name b s i w hs h c hx hd hn
    | false =>
      by_cases hq : c = 34
      · simp only [hq, if_true]; exact word_quoted b s i w hs h c hx hd hn hq
      · by_cases hq2 : c = 63
        · simp only [hq2, if_true]; exact word_slot b s i w hs h c hx hd hn hq2
        · simp only [hd, hn, hq, hq2, if_false]; exact word_sign b s i w hs h c hx hd hn hq hq2
end Go.Proofs.YtfaadlfaimhbbaaGreatDoor

namespace Go.Proofs.YtfaadlfaimhbbaaGreatDoor
open Go.RowKit

def isSpace (b : Int) : Bool := b == 32
def wordsGo : Nat → ByteArray → Nat → List Tok → Except (Int × Nat) (List Tok)
  | 0, _, _, _ => .error (0, 0)
  | f + 1, s, i, acc =>
    if i + runLen isSpace s.data.toList i = s.size then .ok acc
    else
      match wordW s (i + runLen isSpace s.data.toList i) with
      | .bad e k => .error (e, k)
      | .ok t n => if acc.length = 300 then .error (4, i + runLen isSpace s.data.toList i) else wordsGo f s n (acc ++ [t])
def readW (s : ByteArray) : Except (Int × Nat) (List Tok) := if 900 < s.size then .error (4, 0) else wordsGo (s.size + 1) s 0 []

theorem quotedGo_le : ∀ (n : Nat) (l : List UInt8), l.length ≤ n → ∀ t k, quotedGo l = some (t, k) → k ≤ l.length
  | 0, l, hn, t, k, h => by
    have : l = [] := List.eq_nil_of_length_eq_zero (by omega)
    subst this; cases h
  | n + 1, [], hn, t, k, h => by cases h
  | n + 1, c :: r, hn, t, k, h => by
    rw [quotedGo_cons] at h
    simp only [List.length_cons] at hn ⊢
    split at h
    · simp only [Option.some.injEq, Prod.mk.injEq] at h; omega
    · split at h
      · cases r with
        | nil => cases h
        | cons d r' =>
          simp only [List.length_cons] at hn ⊢
          dsimp only at h
          split at h
          · rw [Option.map_eq_some_iff] at h
            obtain ⟨⟨t', k'⟩, h1, h2⟩ := h
            simp only [Prod.mk.injEq] at h2
            have := quotedGo_le n r' (by omega) t' k' h1
            omega
          · cases h
      · split at h
        · rw [Option.map_eq_some_iff] at h
          obtain ⟨⟨t', k'⟩, h1, h2⟩ := h
          simp only [Prod.mk.injEq] at h2
          have := quotedGo_le n r (by omega) t' k' h1
          omega
        · cases h

theorem hasPrefix_len {l p : List UInt8} (h : Lib.hasPrefix l p = true) : p.length ≤ l.length := by
  rw [← Lib.hasPrefix_of_take] at h
  simp only [Bool.and_eq_true, decide_eq_true_eq] at h
  exact h.1
theorem signOf_pre (l : List UInt8) : (signOf l).length ≤ l.length := by
  unfold signOf
  cases h : signsL.find? fun x => Lib.hasPrefix l x with
  | none => simp
  | some x =>
    have := List.find?_some h
    simpa using hasPrefix_len this

theorem wordW_next {s : ByteArray} {i : Nat} {t : Tok} {n : Nat} (hi : i < s.size) (h : wordW s i = .ok t n) : i < n ∧ n ≤ s.size ∧ t.pos = i := by
  have hz := Lib.size_eq s
  obtain ⟨c, hx⟩ : ∃ c, s.data.toList[i]? = some c := ⟨_, List.getElem?_eq_getElem (by rw [← hz]; exact hi)⟩
  unfold wordW at h
  rw [hx] at h
  dsimp only at h
  split at h
  · rename_i hd
    unfold numberW at h
    split at h
    · cases h
    · injection h with h1 h2
      have e1 := runLen_yes (p := digitI) hx hd
      have e2 := runLen_le digitI s.data.toList i (by omega)
      subst h1
      exact ⟨by omega, by omega, rfl⟩
  · split at h
    · rename_i hn
      unfold namedW at h
      split at h
      · injection h with h1 h2
        have e1 := runLen_yes (p := inNameI) hx hn
        have e2 := runLen_le inNameI s.data.toList i (by omega)
        subst h1
        exact ⟨by omega, by omega, rfl⟩
      · cases h
    · split at h
      · unfold quotedW at h
        cases hq : quotedGo (s.data.toList.drop (i + 1)) with
        | none => rw [hq] at h; cases h
        | some p =>
          rw [hq] at h
          dsimp only at h
          split at h
          · cases h
          · injection h with h1 h2
            have := quotedGo_le _ _ (Nat.le_refl _) p.1 p.2 hq
            rw [List.length_drop] at this
            subst h1
            exact ⟨by omega, by omega, rfl⟩
      · split at h
        · unfold namedW at h
          split at h
          · injection h with h1 h2
            have e2 := runLen_le inNameI s.data.toList (i + 1) (by omega)
            subst h1
            exact ⟨by omega, by omega, rfl⟩
          · cases h
        · unfold signW at h
          split at h
          · cases h
          · rename_i hne
            injection h with h1 h2
            have e1 := signOf_pre (s.data.toList.drop i)
            rw [List.length_drop] at e1
            have e2 : 0 < (signOf (s.data.toList.drop i)).length := List.length_pos_iff.2 hne
            subst h1
            exact ⟨by omega, by omega, rfl⟩
end Go.Proofs.YtfaadlfaimhbbaaGreatDoor

namespace Go.Proofs.YtfaadlfaimhbbaaGreatDoor
open Go.RowKit

theorem assert_fault (e i : Int) (w : World) : (Instr.typeAssert (.iface 145 (.agg #[.int .i64 e, .int .i64 i])) 20 145 true).run Tryz.prog w = .ok (.tuple #[.agg #[.int .i64 e, .int .i64 i], .bool true]) w := by kernel_rfl

theorem space_c (b : Int) (w : World) :
    Calls Tryz.prog 108 #[.int .u8 b] w fun e w' => e = .returned (.bool (b == 32)) ∧ w = w' := by
  go_enter Tryz.func108, Tryz.ntmps108
  go_wp2
  go_ret
  exact ⟨rfl, rfl⟩
theorem enters_space (args : Array Value) (w : World) : (callFunc 108 args).run Tryz.prog w = .ok (.enter 108 args) w := by
  exact enters_of Tryz.func108 (by kernel_rfl) rfl args w

set_option maxRecDepth 100000 in
set_option maxHeartbeats 1000000 in
theorem read_idle (p q r : Addr) (w : World) :
    CallsD Tryz.prog 106 #[.pointer (some p), .pointer (some q), .pointer (some r)] .returning w fun e u' w' => e = .returned (.tuple #[]) ∧ u' = .returning ∧ w' = w := by
  refine callsD_of_wpS Tryz.func106 rfl fun c₀ cs hu => ?_
  apply wpS_seq
  apply wpS_region
  simp [wpOpsS, go_sem, recoverD, hu, Tryz.ntmps106, Exit.thenS]
  refine wpS_of_wp ?_
  go_wp2
  cases c₀
  simp_all [bodyPostS, results, Tryz.results106]

set_option maxRecDepth 100000 in
set_option maxHeartbeats 1000000 in
theorem read_catch (N : Nat) (v : Value) (x y : Value) (e i : Int) (w : World) (h0 : Blk w N 22 #[v]) (h1 : Blk w (N + 1) 3 #[x]) (h2 : Blk w (N + 2) 25 #[y]) :
    CallsD Tryz.prog 106 #[.pointer (some ⟨N, 0, none⟩), .pointer (some ⟨N + 1, 0, none⟩), .pointer (some ⟨N + 2, 0, none⟩)] (.panicking ({ v := faultV e i, recovered := false } :: [])) w fun e' u' w' =>
      e' = .returned (.tuple #[]) ∧ u' = .panicking ({ v := faultV e i, recovered := true } :: []) ∧ Blk w' N 22 #[.slice none 0 0] ∧ Blk w' (N + 1) 3 #[.int .i64 i] ∧ Blk w' (N + 2) 25 #[.iface 40 (.int .i64 e)] ∧ Below N w w' := by
  have ha := assert_fault e i
  have a0 := h0.cell 0
  have a1 := h1.cell 0
  have a2 := h2.cell 0
  have z0 := h0.frozen 0
  have z1 := h1.frozen 0
  have z2 := h2.frozen 0
  have hlt := h2.lt
  have hlt0 : N < w.heap.size := h0.lt
  have hlt1 : N + 1 < w.heap.size := h1.lt
  have b0 : ∀ o, (w.alloc o).cell? ⟨N, 0, none⟩ = some v := fun o => (h0.alloc o).cell 0
  have b1 : ∀ o, (w.alloc o).cell? ⟨N + 1, 0, none⟩ = some x := fun o => (h1.alloc o).cell 0
  have b2 : ∀ o, (w.alloc o).cell? ⟨N + 2, 0, none⟩ = some y := fun o => (h2.alloc o).cell 0
  have y0 : ∀ o, (w.alloc o).frozen? ⟨N, 0, none⟩ = false := fun o => (h0.alloc o).frozen 0
  have y1 : ∀ o, (w.alloc o).frozen? ⟨N + 1, 0, none⟩ = false := fun o => (h1.alloc o).frozen 0
  have y2 : ∀ o, (w.alloc o).frozen? ⟨N + 2, 0, none⟩ = false := fun o => (h2.alloc o).frozen 0
  have H0 := Lib.hid h0
  have H1 := Lib.hid h1
  have H2 := Lib.hid h2
  clear h0 h1 h2
  simp only [List.getElem?_toArray, List.getElem?_cons_zero] at a0 a1 a2
  refine callsD_of_wpS Tryz.func106 rfl fun c₀ cs hu => ?_
  apply wpS_seq
  apply wpS_region
  simp [wpOpsS, go_sem, recoverD, hu, Tryz.ntmps106, Exit.thenS, faultV, Array.replicate_succ]
  refine wpS_of_wp ?_
  go_wp2
  go_region
  simp only [Exit.inBlock]
  refine ⟨rfl, .panicking ({ v := faultV e i, recovered := true } :: []), rfl, .tuple #[], results_none rfl _ _ _, rfl, rfl, ?_, ?_, ?_, ?_⟩
  · exact ((((H0.out.set_ 0 _).far (p := ⟨N + 1, 0, none⟩) (by simp) _).far (p := ⟨N + 2, 0, none⟩) (by simp) _).alloc _).drew
  · exact ((((H1.out.far (p := ⟨N, 0, none⟩) (by simp) _).set_ 0 _).far (p := ⟨N + 2, 0, none⟩) (by simp) _).alloc _).drew
  · exact ((((H2.out.far (p := ⟨N, 0, none⟩) (by simp) _).far (p := ⟨N + 1, 0, none⟩) (by simp) _).set_ 0 _).alloc _).drew
  · exact (((((Below.refl N w).setCell (p := ⟨N, 0, none⟩) (Nat.le_refl _) _).setCell (p := ⟨N + 1, 0, none⟩) (by simp) _).setCell (p := ⟨N + 2, 0, none⟩) (by simp) _).alloc (by simp; omega) _).drew
end Go.Proofs.YtfaadlfaimhbbaaGreatDoor

namespace Go.Proofs.YtfaadlfaimhbbaaGreatDoor
open Go.RowKit

theorem tokInfo : (Tryz.prog.info? 34).map (fun i => (i.zero, i.size, i.bytes)) = some (some (.agg #[.int .i64 0, .string ⟨#[]⟩, .int .i64 0]), 3, 32) := by kernel_rfl

theorem own_slice {w : World} {base e size n : Nat} {v : Value} {xs : List Value} (h : w.ownsRow base e size v n xs) : ∃ A c, v = .slice A n c ∧ n ≤ c := by
  rcases h.2 with ⟨hv, h0⟩ | ⟨g, cap, cur, hv, _, _, hc, _⟩
  · exact ⟨none, 0, by rw [hv, h0], by omega⟩
  · exact ⟨_, _, hv, hc⟩
theorem Arr.ofOwn {w : World} {base e size n c : Nat} {A : Option Addr} {xs : List Value} (h : w.ownsRow base e size (.slice A n c) n xs) : Arr w size A n xs := by
  refine ⟨h.1, fun hn => ?_⟩
  obtain ⟨g, cap, hv, _, hlt⟩ := h.form hn
  have hA : A = some ⟨g, 0, none⟩ := by injection hv
  subst hA
  refine ⟨g, 0, rfl, hlt, fun j u hu => ?_⟩
  have := h.cells (g := g) rfl
  rw [Nat.zero_add]
  have h2 := this j u hu
  rw [add_plain, Nat.zero_add] at h2
  exact h2

/-- What stands in the four blocks of a reading. -/
structure RSt (N : Nat) (s : ByteArray) (w : World) (A : Option Addr) (c : Nat) (acc : List Tok) (i : Nat) : Prop where
  b0 : Blk w N 22 #[.slice A acc.length c]
  b1 : Blk w (N + 1) 3 #[.int .i64 0]
  b2 : Blk w (N + 1 + 1) 25 #[.nilIface]
  b3 : RdAt w (N + 1 + 1 + 1) s i
  own : w.ownsRow (N + 1 + 1 + 1 + 1) 34 3 (.slice A acc.length c) acc.length (acc.flatMap Tok.cells)

theorem RSt.only {N : Nat} {s : ByteArray} {w w' : World} {A : Option Addr} {c : Nat} {acc : List Tok} {i j : Nat} (h : RSt N s w A c acc i) (ho : Only (N + 1 + 1 + 1) w w') (hr : RdAt w' (N + 1 + 1 + 1) s j) : RSt N s w' A c acc j :=
  ⟨ho.blk h.b0 (by omega), ho.blk h.b1 (by omega), ho.blk h.b2 (by omega), hr, h.own.kept ho (by
    cases hv : (Value.slice A acc.length c).ownBlock with
    | none => exact .inl rfl
    | some k => exact .inr (by have := (h.own.lt k hv).1; intro e; injection e; omega))⟩

theorem read_results {fn : Func} (h : fn.results = #[.cell 2 22, .cell 3 3, .cell 4 25]) (tmps : Array Value) (w : World) (N : Nat) (x y z : Value)
    (p0 : tmps.getD 2 undef = .pointer (some ⟨N, 0, none⟩)) (p1 : tmps.getD 3 undef = .pointer (some ⟨N + 1, 0, none⟩)) (p2 : tmps.getD 4 undef = .pointer (some ⟨N + 1 + 1, 0, none⟩))
    (h0 : Blk w N 22 #[x]) (h1 : Blk w (N + 1) 3 #[y]) (h2 : Blk w (N + 1 + 1) 25 #[z]) :
    (results fn tmps).run Tryz.prog w = .ok (.tuple #[x, y, z]) w := by
  have c0 := h0.cell 0
  have c1 := h1.cell 0
  have c2 := h2.cell 0
  simp only [List.getElem?_toArray, List.getElem?_cons_zero] at c0 c1 c2
  simp only [Array.getD_eq_getD_getElem?] at p0 p1 p2
  simp [results, h, go_sem, p0, p1, p2, c0, c1, c2]

def ReadPost (N : Nat) (w : World) (r : Except (Int × Nat) (List Tok)) (e : Ending) (w' : World) : Prop :=
  match r with
  | .ok toks => ∃ A c, e = .returned (.tuple #[.slice A toks.length c, .int .i64 0, .nilIface]) ∧ toks.length ≤ c ∧ ToksAt w' A toks ∧ Below N w w'
  | .error (er, k) => e = .returned (.tuple #[.slice none 0 0, .int .i64 k, .iface 40 (.int .i64 er)]) ∧ Below N w w'

set_option maxRecDepth 100000 in
set_option maxHeartbeats 2000000 in
theorem read_c (s : ByteArray) (w : World) (hs : s.size ≤ 9223372036854775807) :
    Calls Tryz.prog 72 #[.string s] w (ReadPost w.heap.size w (readW s)) := by
  have hmf : ∀ (fn : Fn) (first cap : Array Value) (w : World), (Instr.makeFunc fn first cap).run Tryz.prog w = .ok (.func fn first cap) w := fun _ _ _ _ => rfl
  by_cases h900 : 900 < s.size
  · have h900' : (900 : Int) < s.size := by omega
    have hrw : readW s = .error (4, 0) := by unfold readW; rw [if_pos h900]
    rw [hrw]
    clear hrw
    go_enter_defers Tryz.func72, Tryz.ntmps72
    go_wp2_with fail
    refine ⟨_, read_results rfl _ _ w.heap.size _ _ _ rfl rfl rfl (((Blk.new w _ _).alloc _).alloc _) ?_ ?_, rfl, ?_⟩
    · have := (Blk.new (w.alloc (.cells #[.slice none 0 0] 22)) 3 #[.int .i64 0]).alloc (.cells #[.iface 40 (.int .i64 4)] 25)
      simpa using this
    · have := Blk.new ((w.alloc (.cells #[.slice none 0 0] 22)).alloc (.cells #[.int .i64 0] 3)) 25 #[.iface 40 (.int .i64 4)]
      simpa using this
    · exact (((Below.refl _ w).alloc (Nat.le_refl _) _).alloc (by simp) _).alloc (by simp; omega) _
  · have h900' : (s.size : Int) ≤ 900 := by omega
    have hrw : readW s = wordsGo (s.size + 1) s 0 [] := by unfold readW; rw [if_neg h900]
    rw [hrw]
    clear hrw
    obtain ⟨R, hR⟩ : ∃ R, R = wordsGo (s.size + 1) s 0 [] := ⟨_, rfl⟩
    rw [← hR]
    have HR := Lib.hid hR
    clear hR
    go_enter_defers Tryz.func72, Tryz.ntmps72
    go_wp2_with fail
    refine name_world ?_
    intro w1 hw1
    have hst : RSt w.heap.size s w1 none 0 [] 0 := by
      rw [hw1]
      refine ⟨(((Blk.new w _ _).alloc _).alloc _).alloc _, ?_, ?_, ?_, World.ownsRow_nil _ _ _ _⟩
      · have := ((Blk.new (w.alloc (.cells #[.slice none 0 0] 22)) 3 #[.int .i64 0]).alloc (.cells #[.nilIface] 25)).alloc (.cells #[.string s, .int .i64 0] 148)
        simpa using this
      · have := (Blk.new ((w.alloc (.cells #[.slice none 0 0] 22)).alloc (.cells #[.int .i64 0] 3)) 25 #[.nilIface]).alloc (.cells #[.string s, .int .i64 0] 148)
        simpa using this
      · have := Blk.new (((w.alloc (.cells #[.slice none 0 0] 22)).alloc (.cells #[.int .i64 0] 3)).alloc (.cells #[.nilIface] 25)) 148 #[.string s, .int .i64 0]
        simpa [RdAt] using this
    have hb1 : Below w.heap.size w w1 := by
      rw [hw1]
      exact ((((Below.refl _ w).alloc (Nat.le_refl _) _).alloc (by simp) _).alloc (by simp; omega) _).alloc (by simp; omega) _
    clear hw1
    go_loopw [] (fun wr => ∃ (f i c : Nat) (A : Option Addr) (acc : List Tok), i ≤ s.size ∧ s.size - i < f ∧ acc.length ≤ 300 ∧ Hid (wordsGo f s i acc = R) ∧ Hid (RSt w.heap.size s wr A c acc i) ∧ Hid (Below w.heap.size w wr))
      (fun wr => s.size - cellNat wr ⟨w.heap.size + 1 + 1 + 1, 1, none⟩)
    case atStart => exact ⟨s.size + 1, 0, 0, none, [], Nat.zero_le _, by omega, by simp, Lib.hid HR.out.symm, Lib.hid hst, Lib.hid hb1⟩
    case round =>
      obtain ⟨f, i, c, A, acc, hi, hf, hacc, hgo, hst, hb⟩ := hrel
      obtain ⟨f, rfl⟩ : ∃ f', f = f' + 1 := ⟨f - 1, by omega⟩
      go_wp2_with fail
      refine (while_c 108 isSpace enters_space space_c _ s i _ (by omega) hi hst.out.b3).mono ?_
      rintro e w2 ⟨rfl, hr2, ho2⟩
      obtain ⟨j, hj⟩ : ∃ j, j = i + runLen isSpace s.data.toList i := ⟨_, rfl⟩
      have hjs : j ≤ s.size := by
        have := runLen_le isSpace s.data.toList i (by rw [← Lib.size_eq]; exact hi)
        rw [← Lib.size_eq] at this
        omega
      have hij : i ≤ j := by omega
      rw [← hj] at hr2
      have HST := Lib.hid (hst.out.only ho2 hr2)
      have HB := Lib.hid ((hb.out.trans (ho2.below (Nat.le_trans hb.out.size (Nat.le_refl _)) (by omega))))
      have HJ := Lib.hid hj
      clear hr2 ho2 hj
      obtain ⟨d0, d1, y1⟩ := HST.out.b3.cells
      by_cases hend : j = s.size
      · have hres : R = .ok acc := by
          rw [← hgo.out, wordsGo, if_pos (by rw [← HJ.out]; exact hend)]
        have HRES := Lib.hid hres
        clear hres
        have he1 : ((j : Int) == (s.size : Int)) = true := by simp; omega
        have HE := Lib.hid hend
        clear hend
        have c0 := HST.out.b0.cell 0
        have c1 := HST.out.b1.cell 0
        have c2 := HST.out.b2.cell 0
        have z0 := HST.out.b0.frozen 0
        have z1 := HST.out.b1.frozen 0
        have z2 := HST.out.b2.frozen 0
        simp only [List.getElem?_toArray, List.getElem?_cons_zero] at c0 c1 c2
        go_wp2_with fail
        refine leaves_cons (f := 106) (args := #[.pointer (some ⟨w.heap.size, 0, none⟩), .pointer (some ⟨w.heap.size + 1, 0, none⟩), .pointer (some ⟨w.heap.size + 1 + 1, 0, none⟩)]) (by simp) (by simp [go_sem]) ?_
        refine (read_idle _ _ _ _).mono ?_
        rintro e u' w'' ⟨rfl, rfl, rfl⟩
        rw [HRES.out]
        refine ⟨_, read_results rfl _ _ w.heap.size (.slice A acc.length c) (.int .i64 0) .nilIface rfl rfl rfl ?_ ?_ ?_, A, c, rfl, ?_, ?_, ?_⟩
        · exact (((HST.out.b0.set_ 0 _).far (p := ⟨w.heap.size + 1, 0, none⟩) (show w.heap.size ≠ w.heap.size + 1 by omega) _).far (p := ⟨w.heap.size + 1 + 1, 0, none⟩) (show w.heap.size ≠ w.heap.size + 1 + 1 by omega) _)
        · exact (((HST.out.b1.far (p := ⟨w.heap.size, 0, none⟩) (show w.heap.size + 1 ≠ w.heap.size by omega) _).set_ 0 _).far (p := ⟨w.heap.size + 1 + 1, 0, none⟩) (show w.heap.size + 1 ≠ w.heap.size + 1 + 1 by omega) _)
        · exact ((HST.out.b2.far (p := ⟨w.heap.size, 0, none⟩) (show w.heap.size + 1 + 1 ≠ w.heap.size by omega) _).far (p := ⟨w.heap.size + 1, 0, none⟩) (show w.heap.size + 1 + 1 ≠ w.heap.size + 1 by omega) _).set_ 0 _
        · obtain ⟨A', c', hv, hc⟩ := own_slice HST.out.own
          injection hv with h1 h2 h3
          omega
        · refine Arr.ofOwn (base := w.heap.size + 1 + 1 + 1 + 1) (e := 34) (c := c) ?_
          exact ownsRow_setCell_below (ownsRow_setCell_below (ownsRow_setCell_below HST.out.own (a := ⟨w.heap.size, 0, none⟩) (show w.heap.size < w.heap.size + 1 + 1 + 1 + 1 by omega) _) (a := ⟨w.heap.size + 1, 0, none⟩) (show w.heap.size + 1 < w.heap.size + 1 + 1 + 1 + 1 by omega) _) (a := ⟨w.heap.size + 1 + 1, 0, none⟩) (show w.heap.size + 1 + 1 < w.heap.size + 1 + 1 + 1 + 1 by omega) _
        · exact ((HB.out.setCell (p := ⟨w.heap.size, 0, none⟩) (Nat.le_refl _) _).setCell (p := ⟨w.heap.size + 1, 0, none⟩) (show w.heap.size ≤ w.heap.size + 1 by omega) _).setCell (p := ⟨w.heap.size + 1 + 1, 0, none⟩) (show w.heap.size ≤ w.heap.size + 1 + 1 by omega) _
      · have hne : ((j : Int) == (s.size : Int)) = false := by simp; omega
        have hlt : j < s.size := by omega
        have HNE : Hid (¬ i + runLen isSpace s.data.toList i = s.size) := by rw [← HJ.out]; exact hend
        clear hend
        cases hw : wordW s j with
        | bad er k =>
          have hres : R = .error (er, k) := by
            rw [← hgo.out, wordsGo, if_neg HNE.out, ← HJ.out, hw]
          have HRES := Lib.hid hres
          have HW := Lib.hid hw
          clear hres hw
          go_wp2_with fail
          refine (word_c _ s j _ (by omega) hlt HST.out.b3).mono ?_
          intro e w3 hp
          rw [HW.out] at hp
          obtain ⟨he, ho3⟩ := hp
          subst he
          refine leaves_cons (f := 106) (args := #[.pointer (some ⟨w.heap.size, 0, none⟩), .pointer (some ⟨w.heap.size + 1, 0, none⟩), .pointer (some ⟨w.heap.size + 1 + 1, 0, none⟩)]) (by simp) (by simp [go_sem]) ?_
          refine (read_catch w.heap.size (.slice A acc.length c) (.int .i64 0) .nilIface er k w3 (ho3.blk HST.out.b0 (by omega)) (ho3.blk HST.out.b1 (by omega)) (ho3.blk HST.out.b2 (by omega))).mono ?_
          rintro e u' w'' ⟨rfl, rfl, g0, g1, g2, gb⟩
          rw [HRES.out]
          refine ⟨_, read_results rfl _ _ w.heap.size _ _ _ rfl rfl rfl g0 g1 g2, rfl, ?_⟩
          exact (HB.out.trans (ho3.below HB.out.size (by omega))).trans gb
        | ok t n =>
          obtain ⟨hn1, hn2, hpos⟩ := wordW_next hlt hw
          have HW := Lib.hid hw
          have HPOS := Lib.hid hpos
          clear hpos
          by_cases h300 : acc.length = 300
          · have hres : R = .error (4, j) := by
              rw [← hgo.out, wordsGo, if_neg HNE.out, ← HJ.out, hw]
              simp only [h300, if_true]
            have HRES := Lib.hid hres
            clear hres hw
            have hl : ((acc.length : Int) == 300) = true := by simp; omega
            have HL := Lib.hid h300
            clear h300
            go_wp2_with fail
            refine (word_c _ s j _ (by omega) hlt HST.out.b3).mono ?_
            intro e w3 hp
            rw [HW.out] at hp
            obtain ⟨he, hr3, ho3⟩ := hp
            rw [Tok.val] at he
            subst he
            have HST3 := Lib.hid (HST.out.only ho3 hr3)
            have HB3 := Lib.hid (HB.out.trans (ho3.below HB.out.size (by omega)))
            clear ho3 hr3
            have c0 := HST3.out.b0.cell 0
            have z0 := HST3.out.b0.frozen 0
            have l0 := HST3.out.b0.lt
            simp only [List.getElem?_toArray, List.getElem?_cons_zero] at c0
            go_wp2_with fail
            refine leaves_cons (f := 106) (args := #[.pointer (some ⟨w.heap.size, 0, none⟩), .pointer (some ⟨w.heap.size + 1, 0, none⟩), .pointer (some ⟨w.heap.size + 1 + 1, 0, none⟩)]) (by simp) (by simp [go_sem]) ?_
            refine (read_catch w.heap.size (.slice A acc.length c) (.int .i64 0) .nilIface 4 t.pos _ (HST3.out.b0.alloc _) (HST3.out.b1.alloc _) (HST3.out.b2.alloc _)).mono ?_
            rintro e u' w'' ⟨rfl, rfl, g0, g1, g2, gb⟩
            rw [HRES.out]
            refine ⟨_, read_results rfl _ _ w.heap.size _ _ _ rfl rfl rfl g0 g1 g2, by rw [HPOS.out], ?_⟩
            exact (HB3.out.alloc HB3.out.size _).trans gb
          · have hgo' : Hid (wordsGo f s n (acc ++ [t]) = R) := by
              have h := hgo.out
              rw [wordsGo, if_neg HNE.out, ← HJ.out, hw] at h
              simp only [h300, if_false] at h
              exact h
            clear hw
            have hl : ((acc.length : Int) == 300) = false := by simp; omega
            obtain ⟨i0, hi0, hz0, hz1, hz2⟩ := info_parts tokInfo
            go_wp2_with fail
            refine (word_c _ s j _ (by omega) hlt HST.out.b3).mono ?_
            intro e w3 hp
            rw [HW.out] at hp
            obtain ⟨he, hr3, ho3⟩ := hp
            rw [Tok.val] at he
            subst he
            have HST3 := Lib.hid (HST.out.only ho3 hr3)
            have HB3 := Lib.hid (HB.out.trans (ho3.below HB.out.size (by omega)))
            clear ho3 hr3
            have c0 := HST3.out.b0.cell 0
            have z0 := HST3.out.b0.frozen 0
            have l0 := HST3.out.b0.lt
            simp only [List.getElem?_toArray, List.getElem?_cons_zero] at c0
            have hsz3 : w.heap.size + 1 + 1 + 1 + 1 ≤ w3.heap.size := by have := Blk.lt HST3.out.b3; omega
            go_wp2_with (at_builtin; refine wpList_append_own _ rfl _ _ 22 rfl (w.heap.size + 1 + 1 + 1 + 1) 34 i0 (.agg #[.int .i64 0, .string ⟨#[]⟩, .int .i64 0]) 3 32 Tryz.underlying22 hi0 hz0 hz1 hz2 rfl (by decide) _ _ _ rfl ((HST3.out.own.alloc _).alloc _) ⟨w3.heap.size + 1, 0, none⟩ 1 1 [.int .i64 t.kind, .string t.s, .int .i64 t.pos] rfl rfl ?c1 ?c2 ?c3 ?c4 ?c5 ?_)
            case c1 =>
              intro k u hk
              have hB := Blk.new (w3.alloc (.cells #[.int .i64 t.kind, .string t.s, .int .i64 t.pos] 34)) 34 #[.int .i64 t.kind, .string t.s, .int .i64 t.pos]
              have := hB.cell k
              simp only [World.size_alloc] at this
              rw [add_plain, Nat.zero_add, this]
              simpa using hk
            case c2 => intro u hu; simp at hu; rcases hu with rfl | rfl | rfl <;> rfl
            case c3 => unfold maxLen; omega
            case c4 => omega
            case c5 => simp; omega
            intro v' w4 hown4 hgrow4 _
            obtain ⟨A', c', hv, hc'⟩ := own_slice hown4
            subst hv
            have hne4 : (Value.slice A acc.length c).ownBlock = none ∨ ∃ k, (Value.slice A acc.length c).ownBlock = some k ∧ w.heap.size + 1 + 1 + 1 + 1 ≤ k := by
              cases hv : (Value.slice A acc.length c).ownBlock with
              | none => exact .inl rfl
              | some k => exact .inr ⟨k, rfl, (HST3.out.own.lt k hv).1⟩
            have keep : ∀ (g : Nat) (T : TypeId) (cs : Array Value), g < w.heap.size + 1 + 1 + 1 + 1 → Blk w3 g T cs → Blk w4 g T cs := by
              intro g T cs hg hB
              have h2 : Blk ((w3.alloc (.cells #[.int .i64 t.kind, .string t.s, .int .i64 t.pos] 34)).alloc (.cells #[.int .i64 t.kind, .string t.s, .int .i64 t.pos] 34)) g T cs := (hB.alloc _).alloc _
              refine (hgrow4.block g h2.lt ?_).trans h2
              rcases hne4 with h | ⟨k, h, hk⟩ <;> rw [h]
              · simp
              · intro e; injection e; omega
            have B0 := Lib.hid (keep _ _ _ (by omega) HST3.out.b0)
            have B1 := Lib.hid (keep _ _ _ (by omega) HST3.out.b1)
            have B2 := Lib.hid (keep _ _ _ (by omega) HST3.out.b2)
            have B3 := Lib.hid (keep _ _ _ (by omega) HST3.out.b3)
            have HB4 : Hid (Below w.heap.size w w4) := by
              refine ((HB3.out.alloc HB3.out.size _).alloc (by simp; have := HB3.out.size; omega) _).grown hgrow4 (by simp; have := HB3.out.size; omega) ?_
              intro k hk
              rcases hne4 with h | ⟨k', h, hk'⟩
              · rw [h] at hk; cases hk
              · rw [h] at hk; injection hk; omega
            have HOWN := Lib.hid hown4
            have e0 := B0.out.cell 0
            have f0 := B0.out.frozen 0
            simp only [List.getElem?_toArray, List.getElem?_cons_zero] at e0
            clear keep hne4 hgrow4 hown4
            go_wp2_with fail
            have hl1 : (acc ++ [t]).length = acc.length + 1 := by simp
            have hR3 := B3.out.far (p := ⟨w.heap.size, 0, none⟩) (show w.heap.size + 1 + 1 + 1 ≠ w.heap.size by omega) (.slice A' (acc.length + 1) c')
            have hst5 : RSt w.heap.size s (w4.setCell ⟨w.heap.size, 0, none⟩ (.slice A' (acc.length + 1) c')) A' c' (acc ++ [t]) n := by
              refine ⟨?_, B1.out.far (p := ⟨w.heap.size, 0, none⟩) (show w.heap.size + 1 ≠ w.heap.size by omega) (.slice A' (acc.length + 1) c'), B2.out.far (p := ⟨w.heap.size, 0, none⟩) (show w.heap.size + 1 + 1 ≠ w.heap.size by omega) (.slice A' (acc.length + 1) c'), hR3, ?_⟩
              · rw [hl1]; exact B0.out.set_ 0 _
              · rw [hl1]
                have h5 := ownsRow_setCell_below HOWN.out (a := ⟨w.heap.size, 0, none⟩) (show w.heap.size < w.heap.size + 1 + 1 + 1 + 1 by omega) (.slice A' (acc.length + 1) c')
                simpa [Tok.cells] using h5
            refine ⟨⟨f, n, c', A', acc ++ [t], hn2, by omega, by omega, hgo', Lib.hid hst5, Lib.hid (HB4.out.setCell (p := ⟨w.heap.size, 0, none⟩) (Nat.le_refl _) _)⟩, ?_⟩
            have q1 := hst.out.b3.cells.2.1
            rw [cellNat_eq q1, cellNat_eq (k := .i64) (n := n) (RdAt.cells hR3).2.1]
            omega
end Go.Proofs.YtfaadlfaimhbbaaGreatDoor

namespace Go.Proofs.YtfaadlfaimhbbaaGreatDoor
open Go.RowKit

theorem rc_disable (w : World) : (callFunc 197 #[]).run Tryz.prog w = .ok (.value (.tuple #[])) w := run_call_mark0 Tryz.func197 (by kernel_rfl) (by kernel_rfl) (by kernel_rfl) .disable (by kernel_rfl) w
theorem rc_enable (w : World) : (callFunc 199 #[]).run Tryz.prog w = .ok (.value (.tuple #[])) w := run_call_mark0 Tryz.func199 (by kernel_rfl) (by kernel_rfl) (by kernel_rfl) .enable (by kernel_rfl) w
theorem rc_acquire (a : Addr) (w : World) : (callFunc 200 #[.pointer (some a)]).run Tryz.prog w = .ok (.value (.tuple #[])) w := run_call_marked Tryz.func200 (by kernel_rfl) (by kernel_rfl) (by kernel_rfl) .acquire (by kernel_rfl) a w
theorem rc_release (a : Addr) (w : World) : (callFunc 202 #[.pointer (some a)]).run Tryz.prog w = .ok (.value (.tuple #[])) w := run_call_marked Tryz.func202 (by kernel_rfl) (by kernel_rfl) (by kernel_rfl) .releaseMerge (by kernel_rfl) a w

theorem once_load (a : Addr) (x : Int) (w : World) (h0 : w.cell? a = some (.int .u32 x)) :
    Calls Tryz.prog 149 #[.pointer (some a)] w fun e w' => e = .returned (.bool (x != 0)) ∧ w' = w := by
  have hl := run_call_load (P := Tryz.prog) Tryz.func166 (by kernel_rfl) (by kernel_rfl) (by kernel_rfl) .u32 (by kernel_rfl) h0
  go_enter Tryz.func149, Tryz.ntmps149
  go_wp2
  go_ret
  exact ⟨rfl, rfl⟩

/-- Store(true), as a deferred call. -/
theorem store_deferred (a : Addr) (x : Value) (u : FrameMode) (w : World) (hc : w.cell? a = some x) (hz : w.frozen? a = false) :
    CallsD Tryz.prog 169 #[.pointer (some a), .bool true] u w fun e u' w' => u' = u ∧ (e = .returned (.tuple #[]) ∧ w' = w.drew.setCell a (.int .u32 1)) := by
  have hc' : w.drew.cell? a = some x := by go_simp
  have hz' : w.drew.frozen? a = false := by go_simp
  have hst := run_call_store (P := Tryz.prog) Tryz.func186 (by kernel_rfl) (by kernel_rfl) (by kernel_rfl) (by kernel_rfl) (k := .u32) (y := 1) hc' hz'
  go_enter_d Tryz.func169, Tryz.ntmps169
  go_wp2
  go_region_calls
  all_goals (go_end0; exact ⟨rfl, rfl⟩)

set_option maxRecDepth 100000 in
theorem inner_unlock (a : Addr) (w : World) (hc : w.cell? a = some (.int .i32 1)) (hz : w.frozen? a = false) :
    Calls Tryz.prog 185 #[.pointer (some a)] w fun e w' => e = .returned (.tuple #[]) ∧ w' = w.setCell a (.int .i32 0) := by
  have hd := rc_disable
  have he := rc_enable
  have hr := rc_release
  have hadd := run_call_add (P := Tryz.prog) Tryz.func203 (by kernel_rfl) (by kernel_rfl) (by kernel_rfl) .i32 (by kernel_rfl) (y := -1) (s := 0) hc hz (by simp [go_sem]; rfl)
  have hcv := run_convert_to_unsafe (P := Tryz.prog) (src := 259) (dst := 125) Tryz.underlying259 Tryz.underlying125 (by kernel_rfl) hc
  go_enter Tryz.func185, Tryz.ntmps185
  go_wp2
  go_end0
  exact ⟨rfl, rfl⟩
theorem unlock_deferred (a : Addr) (u : FrameMode) (w : World) (hc : w.cell? a = some (.int .i32 1)) (hz : w.frozen? a = false) :
    CallsD Tryz.prog 168 #[.pointer (some a)] u w fun e u' w' => u' = u ∧ (e = .returned (.tuple #[]) ∧ w' = w.setCell a (.int .i32 0)) := by
  go_enter_d Tryz.func168, Tryz.ntmps168
  go_wp2_with (go_at_call 185; refine (inner_unlock a _ hc hz).mono ?_; rintro e w' ⟨rfl, rfl⟩)
  go_end0
  exact ⟨rfl, rfl⟩

set_option maxRecDepth 100000 in
theorem inner_lock (a : Addr) (w : World) (hc : w.cell? a = some (.int .i32 0)) (hz : w.frozen? a = false) :
    Calls Tryz.prog 184 #[.pointer (some a)] w fun e w' => e = .returned (.tuple #[]) ∧ w' = w.setCell a (.int .i32 1) := by
  have hd := rc_disable
  have he := rc_enable
  have ha := rc_acquire
  have hcas := run_call_cas_hit (P := Tryz.prog) Tryz.func198 (by kernel_rfl) (by kernel_rfl) (by kernel_rfl) .i32 (by kernel_rfl) (y := 1) hc hz
  have hc' : (w.setCell a (.int .i32 1)).cell? a = some (.int .i32 1) := World.cell?_setCell_same w a _ hc
  have hcv := run_convert_to_unsafe (P := Tryz.prog) (src := 259) (dst := 125) Tryz.underlying259 Tryz.underlying125 (by kernel_rfl) hc'
  go_enter Tryz.func184, Tryz.ntmps184
  go_wp2
  first | go_end0 | (simp only [Exit.inBlock, Exit.then]; refine bodyPost_ret (results_none rfl _ _ _) rfl ?_) | refine bodyPost_ret (results_none rfl _ _ _) rfl ?_
  exact ⟨rfl, rfl⟩
theorem lock_free (a : Addr) (w : World) (hc : w.cell? a = some (.int .i32 0)) (hz : w.frozen? a = false) :
    Calls Tryz.prog 167 #[.pointer (some a)] w fun e w' => e = .returned (.tuple #[]) ∧ w' = w.setCell a (.int .i32 1) := by
  go_enter Tryz.func167, Tryz.ntmps167
  go_wp2_with (go_at_call 184; refine (inner_lock a _ hc hz).mono ?_; rintro e w' ⟨rfl, rfl⟩)
  go_end0
  exact ⟨rfl, rfl⟩
end Go.Proofs.YtfaadlfaimhbbaaGreatDoor

namespace Go.Proofs.YtfaadlfaimhbbaaGreatDoor
open Go.RowKit

def replV (d : Int) (m : Int) (r : Value) (sl : Value) : Array Value := #[.int .u32 d, .int .i32 m, .int .u32 0, r, sl]
def bldF (g : Nat) : Value := .func (.func 134) #[.pointer (some ⟨g, 0, none⟩)] #[]

set_option maxRecDepth 100000 in
set_option maxHeartbeats 1600000 in
theorem slow_c (g : Nat) (sl _r : Value) (w : World) (R : Value → World → Prop) (hR : ∀ r w w', R r w → Only g w w' → R r w') (hb : Blk w g 192 (replV 0 0 .nilIface sl))
    (hf : Calls Tryz.prog 134 #[.pointer (some ⟨g, 0, none⟩)] (w.setCell ⟨g, 1, none⟩ (.int .i32 1)) fun e w' => e = .returned (.tuple #[]) ∧
      ∃ r s', Only g (w.setCell ⟨g, 1, none⟩ (.int .i32 1)) w' ∧ Blk w' g 192 (replV 0 1 r s') ∧ R r w') :
    Calls Tryz.prog 150 #[.pointer (some ⟨g, 0, none⟩), bldF g] w fun e w' => e = .returned (.tuple #[]) ∧ ∃ r s', Only g w w' ∧ Blk w' g 192 (replV 1 0 r s') ∧ R r w' := by
  have b1 := hb.set_ 1 (.int .i32 1)
  have c1 := hb.cell 1
  have z1 := hb.frozen 1
  have c0 := b1.cell 0
  have HO := Lib.hid (Only.set_ (Only.refl g w) 1 (.int .i32 1))
  have HR := Lib.hid hR
  have hnot : ∀ (x : Bool) (w : World), (Op.unary .not (.bool x)).run Tryz.prog w = .ok (.bool (!x)) w := fun _ _ => rfl
  clear hR b1 hb
  unfold bldF
  go_enter_defers Tryz.func150, Tryz.ntmps150
  go_wp2_with (go_at_call 167; refine (lock_free ⟨g, 1, none⟩ _ c1 z1).mono ?_; rintro e w' ⟨rfl, rfl⟩)
  go_wp2_with (first | (go_at_call 149; refine (once_load ⟨g, 0, none⟩ 0 _ c0).mono ?_; rintro e w' ⟨rfl, rfl⟩) | (go_at_call 134; refine hf.mono ?_; rintro e w1 ⟨rfl, r1, s1, ho, h1, hr⟩))
  have HO1 := Lib.hid ho
  have HR1 := Lib.hid hr
  have a0 := h1.cell 0
  have y0 := h1.frozen 0
  clear ho hr
  go_wp2
  refine leaves_cons (f := 169) (args := #[.pointer (some ⟨g, 0, none⟩), .bool true]) (by simp) (by simp [go_sem]) ?_
  refine (store_deferred ⟨g, 0, none⟩ _ .returning _ a0 y0).mono ?_
  rintro e u' w'' ⟨rfl, rfl, rfl⟩
  have h2 := (h1.drewN 1).set_ 0 (.int .u32 1)
  have a1 := h2.cell 1
  have y1 := h2.frozen 1
  refine leaves_cons (f := 168) (args := #[.pointer (some ⟨g, 1, none⟩)]) (by simp [settle]) (by simp [go_sem]) ?_
  refine (unlock_deferred ⟨g, 1, none⟩ _ _ a1 y1).mono ?_
  rintro e u' w'' ⟨rfl, rfl, rfl⟩
  have h3 := h2.set_ 1 (.int .i32 0)
  have ho3 : Only g w1 ((w1.drew.setCell ⟨g, 0, none⟩ (.int .u32 1)).setCell ⟨g, 1, none⟩ (.int .i32 0)) := (((Only.refl g w1).drewN 1).set_ 0 _).set_ 1 _
  have HE : ∃ r s', Only g w ((w1.drew.setCell ⟨g, 0, none⟩ (.int .u32 1)).setCell ⟨g, 1, none⟩ (.int .i32 0)) ∧ Blk ((w1.drew.setCell ⟨g, 0, none⟩ (.int .u32 1)).setCell ⟨g, 1, none⟩ (.int .i32 0)) g 192 (replV 1 0 r s') ∧ R r ((w1.drew.setCell ⟨g, 0, none⟩ (.int .u32 1)).setCell ⟨g, 1, none⟩ (.int .i32 0)) :=
    ⟨r1, s1, (HO.out.trans HO1.out).trans ho3, h3, HR.out _ _ _ HR1.out ho3⟩
  clear HO HO1 HR HR1 h2 h3 ho3 h1 a1 y1 a0 y0 c0 c1 z1 hf
  have HE := Lib.hid HE
  simp [Leaves, settle, results, Tryz.results150]
  obtain ⟨r2, s2, x1, x2, x3⟩ := HE.out
  exact ⟨x1, r2, ⟨s2, x2⟩, x3⟩

set_option maxRecDepth 100000 in
set_option maxHeartbeats 1600000 in
theorem do_c (g : Nat) (sl r : Value) (w : World) (R : Value → World → Prop) (hR : ∀ r w w', R r w → Only g w w' → R r w') (hb : Blk w g 192 (replV 0 0 .nilIface sl))
    (hf : Calls Tryz.prog 134 #[.pointer (some ⟨g, 0, none⟩)] (w.setCell ⟨g, 1, none⟩ (.int .i32 1)) fun e w' => e = .returned (.tuple #[]) ∧
      ∃ r s', Only g (w.setCell ⟨g, 1, none⟩ (.int .i32 1)) w' ∧ Blk w' g 192 (replV 0 1 r s') ∧ R r w') :
    Calls Tryz.prog 133 #[.pointer (some ⟨g, 0, none⟩), bldF g] w fun e w' => e = .returned (.tuple #[]) ∧ ∃ r s', Only g w w' ∧ Blk w' g 192 (replV 1 0 r s') ∧ R r w' := by
  have c0 := hb.cell 0
  have HS := Lib.hid (slow_c g sl r w R hR hb hf)
  have hnot : ∀ (x : Bool) (w : World), (Op.unary .not (.bool x)).run Tryz.prog w = .ok (.bool (!x)) w := fun _ _ => rfl
  clear hR hb hf
  generalize bldF g = F at HS ⊢
  go_enter Tryz.func133, Tryz.ntmps133
  go_wp2_with (first | (go_at_call 149; refine (once_load ⟨g, 0, none⟩ 0 _ c0).mono ?_; rintro e w' ⟨rfl, rfl⟩) | (go_at_call 150; refine HS.out.mono ?_; rintro e w1 ⟨rfl, h1⟩))
  go_end0
  exact ⟨rfl, h1⟩
end Go.Proofs.YtfaadlfaimhbbaaGreatDoor

namespace Go.Proofs.YtfaadlfaimhbbaaGreatDoor
open Go.RowKit

def S1 (b : UInt8) : Value := .string ⟨#[b]⟩
def S2 (b c : UInt8) : Value := .string ⟨#[b, c]⟩
def onL : List ByteArray := [⟨#[92]⟩, ⟨#[92, 92]⟩, ⟨#[34]⟩, ⟨#[92, 34]⟩]

set_option maxRecDepth 100000 in
theorem strInfo : (Tryz.prog.info? 9).map (fun i => (i.zero, i.size, i.bytes)) = some (some (.string ⟨#[]⟩), 1, 16) := by kernel_rfl
theorem idx34 (w : World) : (Instr.index 9 (.string ⟨#[34]⟩) (.int .i64 0)).run Tryz.prog w = .ok (.int .u8 34) w := str_index ⟨#[34]⟩ 0 34 rfl w
theorem idx92 (w : World) : (Instr.index 9 (.string ⟨#[92]⟩) (.int .i64 0)).run Tryz.prog w = .ok (.int .u8 92) w := str_index ⟨#[92]⟩ 0 92 rfl w
theorem nil_eql (w : World) : (binOp .eql 109 (.slice none 0 0) (.slice none 0 0)).run Tryz.prog w = .ok (.bool true) w := by kernel_rfl
theorem nil_neq (w : World) : (binOp .neq 109 (.slice none 0 0) (.slice none 0 0)).run Tryz.prog w = .ok (.bool false) w := by kernel_rfl
theorem some_neq (a : Addr) (n c : Nat) (w : World) : (binOp .neq 109 (.slice (some a) n c) (.slice none 0 0)).run Tryz.prog w = .ok (.bool true) w := by kernel_rfl
theorem conv1 (w : World) (g : Nat) (x : UInt8) (h : Blk w g 5 #[.int .u8 x.toNat]) : (convert 109 9 (.slice (some ⟨g, 0, none⟩) 1 1)).run Tryz.prog w = .ok (.string ⟨#[x]⟩) w := by
  have := run_convert_bytes_arg (P := Tryz.prog) w 109 5 Tryz.underlying109 Tryz.underlying5 g 0 1 1 [(x.toNat : Int)] rfl (fun i hi => by
    obtain rfl : i = 0 := by omega
    exact h.cell 0) 9 Tryz.underlying9
  rw [this]
  show Result.ok (Value.string ⟨#[UInt8.ofNat ((x.toNat : Int)).toNat]⟩) w = _
  simp
theorem mk2 (w : World) : (Instr.makeSlice 36 (.int .i64 0) (.int .i64 2)).run Tryz.prog w = .ok (.slice (some ⟨w.heap.size, 0, none⟩) 0 2) (w.alloc (.cells #[.string ⟨#[]⟩, .string ⟨#[]⟩] 9)) := by
  obtain ⟨i, hi, hz0, hz1, hz2⟩ := info_parts strInfo
  have h := run_make (P := Tryz.prog) w 36 9 i _ Tryz.underlying36 hi hz0 .i64 .i64 0 2 (by omega) (by omega) (by rw [hz2]; decide) (by omega)
  rw [hz1] at h
  refine h.trans ?_
  rw [show madeCells (Value.string ⟨#[]⟩).cells (Int.toNat 2 * 1) = #[.string ⟨#[]⟩, .string ⟨#[]⟩] from by kernel_rfl]
  rfl
def tab0 (v : Value) : Array Value := (Array.replicate 256 (.slice none 0 0)).push v
theorem built0 (A : Option Addr) (n c : Nat) : Tryz.prog.built 232 [(1, .slice A n c)] = some (tab0 (.slice A n c)) := by kernel_rfl
theorem tab_set (A : Option Addr) (n c : Nat) : (Tryz.zeroCells232.toList.set 256 (.slice A n c)) = (tab0 (.slice A n c)).toList := by kernel_rfl
theorem tab_size (v : Value) : (tab0 v).size = 257 := by simp [tab0]
theorem tab_low (v : Value) {i : Nat} (h : i < 256) : (tab0 v)[i]? = some (.slice none 0 0) := by
  simp [tab0, Array.getElem?_push, show i ≠ 256 by omega, h]
theorem tab_top (v : Value) : (tab0 v)[256]? = some v := by
  have h : (Array.replicate 256 (Value.slice none 0 0)).size = 256 := by simp
  unfold tab0
  rw [Array.getElem?_push, h]
  rfl
theorem zero_size : Tryz.zeroCells232.size = 257 := by kernel_rfl
theorem store_tab (w : World) (B : Nat) (A : Option Addr) (n c : Nat) (h : Blk w B 232 Tryz.zeroCells232) :
    (storeCells ⟨B, 0, none⟩ (Tryz.zeroCells232.toList.set 256 (.slice A n c))).run Tryz.prog w = .ok () (w.setRow B (tab0 (.slice A n c))) := by
  rw [tab_set]
  have := run_storeCells_from (P := Tryz.prog) B 232 (tab0 (.slice A n c)).toList 0 _ w h (by simp [tab_size]) (fun v hv => by
    simp only [tab0, Array.toList_push, Array.toList_replicate, List.mem_append, List.mem_replicate, List.mem_singleton] at hv
    rcases hv with ⟨_, rfl⟩ | rfl <;> rfl)
  simpa using this
theorem run_built (A : Option Addr) (n c : Nat) (w : World) : (Instr.build 232 #[(1, .slice A n c)]).run Tryz.prog w = .ok (.agg (tab0 (.slice A n c))) w := run_build w _ _ _ (built0 A n c)

def OnAt (w : World) (b : Nat) : Prop := w.cell? ⟨b, 0, none⟩ = some (.string ⟨#[92]⟩) ∧ w.cell? ⟨b, 1, none⟩ = some (.string ⟨#[92, 92]⟩) ∧ w.cell? ⟨b, 2, none⟩ = some (.string ⟨#[34]⟩) ∧ w.cell? ⟨b, 3, none⟩ = some (.string ⟨#[92, 34]⟩)

structure RepAt (N B : Nat) (w : World) : Prop where
  low : N ≤ B
  lt : B < w.heap.size
  rest : ∀ i, i < 256 → i ≠ 34 → i ≠ 92 → w.cell? ⟨B, i, none⟩ = some (.slice none 0 0)
  q : ∃ a c, N ≤ a ∧ a < w.heap.size ∧ w.cell? ⟨B, 34, none⟩ = some (.slice (some ⟨a, 0, none⟩) 2 c) ∧ w.cell? ⟨a, 0, none⟩ = some (.int .u8 92) ∧ w.cell? ⟨a, 1, none⟩ = some (.int .u8 34)
  s : ∃ a c, N ≤ a ∧ a < w.heap.size ∧ w.cell? ⟨B, 92, none⟩ = some (.slice (some ⟨a, 0, none⟩) 2 c) ∧ w.cell? ⟨a, 0, none⟩ = some (.int .u8 92) ∧ w.cell? ⟨a, 1, none⟩ = some (.int .u8 92)
  d : ∃ a, N ≤ a ∧ a < w.heap.size ∧ w.cell? ⟨B, 256, none⟩ = some (.slice (some ⟨a, 0, none⟩) 2 2) ∧ w.cell? ⟨a, 0, none⟩ = some (.string ⟨#[34]⟩) ∧ w.cell? ⟨a, 1, none⟩ = some (.string ⟨#[92]⟩)
theorem RepAt.keep {N B : Nat} {w w' : World} (h : RepAt N B w) (hs : w.heap.size ≤ w'.heap.size) (hk : ∀ p : Addr, N ≤ p.block → p.block < w.heap.size → w'.cell? p = w.cell? p) : RepAt N B w' := by
  obtain ⟨low, lt, rest, ⟨a, c, a1, a2, a3, a4, a5⟩, ⟨b, d, b1, b2, b3, b4, b5⟩, ⟨e, e1, e2, e3, e4, e5⟩⟩ := h
  refine ⟨low, by omega, fun i hi h1 h2 => (hk ⟨B, i, none⟩ low lt).trans (rest i hi h1 h2), ⟨a, c, a1, by omega, (hk ⟨B, 34, none⟩ low lt).trans a3, (hk ⟨a, 0, none⟩ a1 a2).trans a4, (hk ⟨a, 1, none⟩ a1 a2).trans a5⟩,
    ⟨b, d, b1, by omega, (hk ⟨B, 92, none⟩ low lt).trans b3, (hk ⟨b, 0, none⟩ b1 b2).trans b4, (hk ⟨b, 1, none⟩ b1 b2).trans b5⟩,
    ⟨e, e1, by omega, (hk ⟨B, 256, none⟩ low lt).trans e3, (hk ⟨e, 0, none⟩ e1 e2).trans e4, (hk ⟨e, 1, none⟩ e1 e2).trans e5⟩⟩
theorem RepAt.only {N B g : Nat} {w w' : World} (h : RepAt N B w) (ho : Only g w w') (hg : g < N) : RepAt N B w' :=
  h.keep ho.size fun p h1 h2 => World.cell?_of_block (ho.block p.block h2 (fun e => by injection e; omega))
theorem RepAt.below {N B : Nat} {w w' : World} (h : RepAt N B w) (hb : Below w.heap.size w w') : RepAt N B w' :=
  h.keep hb.size fun _p _ h2 => hb.cell h2

set_option maxRecDepth 100000 in
set_option maxHeartbeats 1600000 in
theorem build_c (g b : Nat) (c : Nat) (w : World) (hb : Blk w g 192 (replV 0 1 .nilIface (.slice (some ⟨b, 0, none⟩) 4 c)))
    (hll : b < w.heap.size) (hl : OnAt w b) :
    Calls Tryz.prog 151 #[.pointer (some ⟨g, 0, none⟩)] w fun e w' => e = .returned (.iface 233 (.pointer (some ⟨w.heap.size + 1, 0, none⟩))) ∧ Below w.heap.size w w' ∧ RepAt w.heap.size (w.heap.size + 1) w' := by
  have c2 : w.cell? ⟨g, 4, none⟩ = some (.slice (some ⟨b, 0, none⟩) 4 c) := hb.cell 4
  obtain ⟨l0, l1, l2, l3⟩ := hl
  have hbl := hb.lt
  have HL := Lib.hid (And.intro l0 l1)
  have HB := Lib.hid hb
  clear hb
  go_enter Tryz.func151, Tryz.ntmps151
  go_wp2_with fail
  refine wp_loop_rounds 3 ?_
  rw [rounds_succ]
  go_wp2_with fail
  rw [rounds_succ]
  go_wp2_with fail
  rw [rounds_succ]
  go_wp2_with fail
  rw [mk2]
  simp only [Result.andThen]
  rw [Oper.upon_value]
  have hbu := run_built (some ⟨w.heap.size, 0, none⟩) 0 2
  go_wp2_with fail
  have hm : Blk ((w.alloc (.cells #[.string ⟨#[]⟩, .string ⟨#[]⟩] 9)).alloc (.cells Tryz.zeroCells232 232)) w.heap.size 9 #[.string ⟨#[]⟩, .string ⟨#[]⟩] := (Blk.new w _ _).alloc _
  have hB0 : Blk ((w.alloc (.cells #[.string ⟨#[]⟩, .string ⟨#[]⟩] 9)).alloc (.cells Tryz.zeroCells232 232)) (w.heap.size + 1) 232 Tryz.zeroCells232 := by
    have := Blk.new (w.alloc (.cells #[.string ⟨#[]⟩, .string ⟨#[]⟩] 9)) 232 Tryz.zeroCells232
    simpa using this
  rw [store_tab _ _ _ _ _ hB0]
  simp only [Result.andThen]
  rw [Oper.upon_skip]
  obtain ⟨w1, hw1⟩ : ∃ w1, w1 = (((w.alloc (.cells #[.string ⟨#[]⟩, .string ⟨#[]⟩] 9)).alloc (.cells Tryz.zeroCells232 232))).setRow (w.heap.size + 1) (tab0 (.slice (some ⟨w.heap.size, 0, none⟩) 0 2)) := ⟨_, rfl⟩
  rw [← hw1]
  have h1 : Blk w1 (w.heap.size + 1) 232 (tab0 (.slice (some ⟨w.heap.size, 0, none⟩) 0 2)) := by rw [hw1]; exact setRow_heap _ _ _ _ _ _ hB0
  have hm1 : Blk w1 w.heap.size 9 #[.string ⟨#[]⟩, .string ⟨#[]⟩] := by rw [hw1]; exact (setRow_other _ _ _ _ (by omega)).trans hm
  have hs1 : w1.heap.size = w.heap.size + 2 := by rw [hw1]; simp
  have hb1 : Below w.heap.size w w1 := by
    rw [hw1]
    exact ⟨rfl, rfl, rfl, by simp; omega, fun i hi => (setRow_other _ _ _ _ (by omega)).trans ((Below.heap_alloc _ _ i (by simp; omega)).trans (Below.heap_alloc _ _ i hi))⟩
  clear hw1 hm hB0 hbu
  have k0 := (hb1.cell (p := ⟨b, 0, none⟩) hll).trans l0
  have k1 := (hb1.cell (p := ⟨b, 1, none⟩) hll).trans l1
  have k2 := (hb1.cell (p := ⟨b, 2, none⟩) hll).trans l2
  have k3 := (hb1.cell (p := ⟨b, 3, none⟩) hll).trans l3
  have m0 := hm1.cell 0
  have m1 := hm1.cell 1
  have fm0 := hm1.frozen 0
  have fm1 := hm1.frozen 1
  have ft34 := h1.frozen 34
  have ft92 := h1.frozen 92
  have ft256 := h1.frozen 256
  have t34 := (h1.cell 34).trans (tab_low _ (by omega))
  have t92 := (h1.cell 92).trans (tab_low _ (by omega))
  have t256 := (h1.cell 256).trans (tab_top _)
  have x34 := idx34
  have x92 := idx92
  have heq := nil_eql
  clear l0 l1 l2 l3 c2
  go_wp2_with fail
  refine wp_loop_rounds 3 ?_
  rw [rounds_succ]
  go_wp2_with fail
  have hn1 := Blk.new w1 5 #[.int .u8 (34 : UInt8).toNat]
  rw [hs1] at hn1
  rw [show (34 : Int) = ((34 : UInt8).toNat : Int) from rfl, conv1 _ _ _ hn1, show ((34 : UInt8).toNat : Int) = 34 from rfl]
  simp only [Result.andThen]
  rw [Oper.upon_value]
  go_wp2_with fail
  have hmA := (((hm1.set_ 0 (.string ⟨#[34]⟩)).far (p := ⟨w.heap.size + 1, 256, none⟩) (show w.heap.size ≠ w.heap.size + 1 by omega) (.slice (some ⟨w.heap.size, 0, none⟩) 1 2)).alloc (.cells #[.int .u8 34] 5)).alloc (.cells #[.string ⟨#[34]⟩] 9)
  have hBA := (((h1.far (p := ⟨w.heap.size, 0, none⟩) (show w.heap.size + 1 ≠ w.heap.size by omega) (.string ⟨#[34]⟩)).set_ 256 (.slice (some ⟨w.heap.size, 0, none⟩) 1 2)).alloc (.cells #[.int .u8 34] 5)).alloc (.cells #[.string ⟨#[34]⟩] 9)
  have hbA : Below w.heap.size w ((((w1.setCell ⟨w.heap.size, 0, none⟩ (.string ⟨#[34]⟩)).setCell ⟨w.heap.size + 1, 256, none⟩ (.slice (some ⟨w.heap.size, 0, none⟩) 1 2)).alloc (.cells #[.int .u8 34] 5)).alloc (.cells #[.string ⟨#[34]⟩] 9)) := ((((hb1).setCell (p := ⟨w.heap.size, 0, none⟩) (Nat.le_refl _) (.string ⟨#[34]⟩)).setCell (p := ⟨w.heap.size + 1, 256, none⟩) (show w.heap.size ≤ w.heap.size + 1 by omega) (.slice (some ⟨w.heap.size, 0, none⟩) 1 2)).alloc (by simp [hs1]) _).alloc (by simp [hs1]; omega) _
  have hsA : ((((w1.setCell ⟨w.heap.size, 0, none⟩ (.string ⟨#[34]⟩)).setCell ⟨w.heap.size + 1, 256, none⟩ (.slice (some ⟨w.heap.size, 0, none⟩) 1 2)).alloc (.cells #[.int .u8 34] 5)).alloc (.cells #[.string ⟨#[34]⟩] 9)).heap.size = w.heap.size + 4 := by simp [hs1]
  generalize ((((w1.setCell ⟨w.heap.size, 0, none⟩ (.string ⟨#[34]⟩)).setCell ⟨w.heap.size + 1, 256, none⟩ (.slice (some ⟨w.heap.size, 0, none⟩) 1 2)).alloc (.cells #[.int .u8 34] 5)).alloc (.cells #[.string ⟨#[34]⟩] 9)) = wA at hmA hBA hbA hsA ⊢
  obtain ⟨w2, c34, hrun, hbel, hs2, hce⟩ := bytes_conv (P := Tryz.prog) 9 109 5 Tryz.underlying9 Tryz.underlying109 Tryz.underlying5 wA ⟨#[92, 34]⟩
  rw [hrun]
  simp only [Result.andThen]
  rw [Oper.upon_value]
  have hm2 := hmA.belowS hbel
  have hB2 := hBA.belowS hbel
  have hb2 : Below w.heap.size w w2 := hbA.trans (hbel.mono (by omega))
  have q0 := hce 0 92 rfl
  have q1 := hce 1 34 rfl
  rw [hsA] at hs2 q0 q1
  clear hce hbel hrun hmA hBA hbA m0 m1 fm0 fm1 ft34 ft92 ft256 t34 t92 t256 k0 k1 k2 k3 hn1 h1 hm1 hs1 hb1
  have k0 : w2.cell? ⟨b, 0, none⟩ = some (.string ⟨#[92]⟩) := (hb2.cell (p := ⟨b, 0, none⟩) hll).trans HL.out.1
  have k1 : w2.cell? ⟨b, 1, none⟩ = some (.string ⟨#[92, 92]⟩) := (hb2.cell (p := ⟨b, 1, none⟩) hll).trans HL.out.2
  have m1 : w2.cell? ⟨w.heap.size, 1, none⟩ = some (.string ⟨#[]⟩) := hm2.cell 1
  have fm1 := hm2.frozen 1
  have ft34 := hB2.frozen 34
  have ft92 := hB2.frozen 92
  have ft256 := hB2.frozen 256
  have t34 : w2.cell? ⟨w.heap.size + 1, 34, none⟩ = some (.slice none 0 0) := (hB2.cell 34).trans (by rw [Array.getElem?_setIfInBounds_ne (by decide)]; exact tab_low _ (by omega))
  have t92 : w2.cell? ⟨w.heap.size + 1, 92, none⟩ = some (.slice none 0 0) := (hB2.cell 92).trans (by rw [Array.getElem?_setIfInBounds_ne (by decide)]; exact tab_low _ (by omega))
  have t256 : w2.cell? ⟨w.heap.size + 1, 256, none⟩ = some (.slice (some ⟨w.heap.size, 0, none⟩) 1 2) := (hB2.cell 256).trans (by rw [Array.getElem?_setIfInBounds_self_of_lt (by simp [tab_size])])
  rw [hsA, show (⟨#[92, 34]⟩ : ByteArray).size = 2 from rfl]
  have hs2' : w2.heap.size = w.heap.size + 5 := hs2
  clear hs2
  go_wp2_with fail
  rw [rounds_succ]
  go_wp2_with fail
  have hn2 := Blk.new (w2.setCell ⟨w.heap.size + 1, 34, none⟩ (.slice (some ⟨w.heap.size + 4, 0, none⟩) 2 c34)) 5 #[.int .u8 (92 : UInt8).toNat]
  rw [show (w2.setCell ⟨w.heap.size + 1, 34, none⟩ (.slice (some ⟨w.heap.size + 4, 0, none⟩) 2 c34)).heap.size = w.heap.size + 5 from by simp [hs2']] at hn2
  rw [show (92 : Int) = ((92 : UInt8).toNat : Int) from rfl, conv1 _ _ _ hn2, show ((92 : UInt8).toNat : Int) = 92 from rfl]
  simp only [Result.andThen]
  rw [Oper.upon_value]
  clear hn2
  go_wp2_with fail
  have hmC := ((((hm2.far (p := ⟨w.heap.size + 1, 34, none⟩) (show w.heap.size ≠ w.heap.size + 1 by omega) (.slice (some ⟨w.heap.size + 4, 0, none⟩) 2 c34)).set_ 1 (.string ⟨#[92]⟩)).far (p := ⟨w.heap.size + 1, 256, none⟩) (show w.heap.size ≠ w.heap.size + 1 by omega) (.slice (some ⟨w.heap.size, 0, none⟩) 2 2)).alloc (.cells #[.int .u8 92] 5)).alloc (.cells #[.string ⟨#[92]⟩] 9)
  have hBC := ((((hB2.set_ 34 (.slice (some ⟨w.heap.size + 4, 0, none⟩) 2 c34)).far (p := ⟨w.heap.size, 1, none⟩) (show w.heap.size + 1 ≠ w.heap.size by omega) (.string ⟨#[92]⟩)).set_ 256 (.slice (some ⟨w.heap.size, 0, none⟩) 2 2)).alloc (.cells #[.int .u8 92] 5)).alloc (.cells #[.string ⟨#[92]⟩] 9)
  have hbC : Below w.heap.size w (((((w2.setCell ⟨w.heap.size + 1, 34, none⟩ (.slice (some ⟨w.heap.size + 4, 0, none⟩) 2 c34)).setCell ⟨w.heap.size, 1, none⟩ (.string ⟨#[92]⟩)).setCell ⟨w.heap.size + 1, 256, none⟩ (.slice (some ⟨w.heap.size, 0, none⟩) 2 2)).alloc (.cells #[.int .u8 92] 5)).alloc (.cells #[.string ⟨#[92]⟩] 9)) := ((((hb2.setCell (p := ⟨w.heap.size + 1, 34, none⟩) (show w.heap.size ≤ w.heap.size + 1 by omega) _).setCell (p := ⟨w.heap.size, 1, none⟩) (Nat.le_refl _) _).setCell (p := ⟨w.heap.size + 1, 256, none⟩) (show w.heap.size ≤ w.heap.size + 1 by omega) _).alloc (by simp [hs2']) _).alloc (by simp [hs2']; omega) _
  have hsC : (((((w2.setCell ⟨w.heap.size + 1, 34, none⟩ (.slice (some ⟨w.heap.size + 4, 0, none⟩) 2 c34)).setCell ⟨w.heap.size, 1, none⟩ (.string ⟨#[92]⟩)).setCell ⟨w.heap.size + 1, 256, none⟩ (.slice (some ⟨w.heap.size, 0, none⟩) 2 2)).alloc (.cells #[.int .u8 92] 5)).alloc (.cells #[.string ⟨#[92]⟩] 9)).heap.size = w.heap.size + 7 := by simp [hs2']
  have hqC0 : (((((w2.setCell ⟨w.heap.size + 1, 34, none⟩ (.slice (some ⟨w.heap.size + 4, 0, none⟩) 2 c34)).setCell ⟨w.heap.size, 1, none⟩ (.string ⟨#[92]⟩)).setCell ⟨w.heap.size + 1, 256, none⟩ (.slice (some ⟨w.heap.size, 0, none⟩) 2 2)).alloc (.cells #[.int .u8 92] 5)).alloc (.cells #[.string ⟨#[92]⟩] 9)).cell? ⟨w.heap.size + 4, 0, none⟩ = some (.int .u8 92) := by
    rw [World.cell?_alloc_lt _ _ _ (by simp [hs2']), World.cell?_alloc_lt _ _ _ (by simp [hs2']), World.cell?_setCell_other _ _ _ _ (by simp), World.cell?_setCell_other _ _ _ _ (by simp), World.cell?_setCell_other _ _ _ _ (by simp)]; exact q0
  have hqC1 : (((((w2.setCell ⟨w.heap.size + 1, 34, none⟩ (.slice (some ⟨w.heap.size + 4, 0, none⟩) 2 c34)).setCell ⟨w.heap.size, 1, none⟩ (.string ⟨#[92]⟩)).setCell ⟨w.heap.size + 1, 256, none⟩ (.slice (some ⟨w.heap.size, 0, none⟩) 2 2)).alloc (.cells #[.int .u8 92] 5)).alloc (.cells #[.string ⟨#[92]⟩] 9)).cell? ⟨w.heap.size + 4, 1, none⟩ = some (.int .u8 34) := by
    rw [World.cell?_alloc_lt _ _ _ (by simp [hs2']), World.cell?_alloc_lt _ _ _ (by simp [hs2']), World.cell?_setCell_other _ _ _ _ (by simp), World.cell?_setCell_other _ _ _ _ (by simp), World.cell?_setCell_other _ _ _ _ (by simp)]; exact q1
  generalize (((((w2.setCell ⟨w.heap.size + 1, 34, none⟩ (.slice (some ⟨w.heap.size + 4, 0, none⟩) 2 c34)).setCell ⟨w.heap.size, 1, none⟩ (.string ⟨#[92]⟩)).setCell ⟨w.heap.size + 1, 256, none⟩ (.slice (some ⟨w.heap.size, 0, none⟩) 2 2)).alloc (.cells #[.int .u8 92] 5)).alloc (.cells #[.string ⟨#[92]⟩] 9)) = wC at hmC hBC hbC hsC hqC0 hqC1 ⊢
  obtain ⟨w3, c92, hrun, hbel, hs3, hce⟩ := bytes_conv (P := Tryz.prog) 9 109 5 Tryz.underlying9 Tryz.underlying109 Tryz.underlying5 wC ⟨#[92, 92]⟩
  rw [hrun]
  simp only [Result.andThen]
  rw [Oper.upon_value]
  have hm3 := hmC.belowS hbel
  have hB3 := hBC.belowS hbel
  have hb3 : Below w.heap.size w w3 := hbC.trans (hbel.mono (by omega))
  have z0 := hce 0 92 rfl
  have z1 := hce 1 92 rfl
  have y0 := (hbel.cell (p := ⟨w.heap.size + 4, 0, none⟩) (show w.heap.size + 4 < wC.heap.size by omega)).trans hqC0
  have y1 := (hbel.cell (p := ⟨w.heap.size + 4, 1, none⟩) (show w.heap.size + 4 < wC.heap.size by omega)).trans hqC1
  rw [hsC] at hs3 z0 z1
  rw [hsC, show (⟨#[92, 92]⟩ : ByteArray).size = 2 from rfl]
  clear hce hbel hrun hmC hBC hbC m1 fm1 ft34 t34 t92 t256 k0 k1 hs2' hb2 hm2 hB2 q0 q1 hqC0 hqC1
  have gt92 := hB3.frozen 92
  have t92 : ∃ v, w3.cell? ⟨w.heap.size + 1, 92, none⟩ = some v := ⟨_, (hB3.cell 92).trans (Array.getElem?_eq_getElem (by simp [tab_size]))⟩
  obtain ⟨v92, t92⟩ := t92
  clear ft92 ft256
  go_wp2_with fail
  rw [rounds_succ]
  go_wp2_with fail
  go_ret
  have hB4 := hB3.set_ 92 (.slice (some ⟨w.heap.size + 7, 0, none⟩) 2 c92)
  have hm4 := hm3.far (p := ⟨w.heap.size + 1, 92, none⟩) (show w.heap.size ≠ w.heap.size + 1 by omega) (.slice (some ⟨w.heap.size + 7, 0, none⟩) 2 c92)
  have far : ∀ a j, w.heap.size + 1 ≠ a → (w3.setCell ⟨w.heap.size + 1, 92, none⟩ (.slice (some ⟨w.heap.size + 7, 0, none⟩) 2 c92)).cell? ⟨a, j, none⟩ = w3.cell? ⟨a, j, none⟩ :=
    fun a j h => World.cell?_setCell_other _ _ _ _ (by intro e; injection e; omega)
  refine ⟨rfl, hb3.setCell (p := ⟨w.heap.size + 1, 92, none⟩) (show w.heap.size ≤ w.heap.size + 1 by omega) _, ⟨by omega, by simp; omega, fun i hi h1 h2 => ?_,
    ⟨w.heap.size + 4, c34, by omega, by simp; omega, ?_, (far _ _ (by omega)).trans y0, (far _ _ (by omega)).trans y1⟩, ⟨w.heap.size + 7, c92, by omega, by simp; omega, ?_, (far _ _ (by omega)).trans z0, (far _ _ (by omega)).trans z1⟩,
    ⟨w.heap.size, Nat.le_refl _, by simp; omega, ?_, hm4.cell 0, hm4.cell 1⟩⟩⟩
  · rw [hB4.cell i]
    rw [Array.getElem?_setIfInBounds_ne (by omega), Array.getElem?_setIfInBounds_ne (by omega), Array.getElem?_setIfInBounds_ne (by omega), Array.getElem?_setIfInBounds_ne (by omega)]
    exact tab_low _ hi
  · rw [hB4.cell 34]
    rw [Array.getElem?_setIfInBounds_ne (by omega), Array.getElem?_setIfInBounds_ne (by omega), Array.getElem?_setIfInBounds_self_of_lt (by simp [tab_size])]
  · rw [hB4.cell 92]
    rw [Array.getElem?_setIfInBounds_self_of_lt (by simp [tab_size])]
  · rw [hB4.cell 256]
    rw [Array.getElem?_setIfInBounds_ne (by omega), Array.getElem?_setIfInBounds_self_of_lt (by simp [tab_size])]
end Go.Proofs.YtfaadlfaimhbbaaGreatDoor

namespace Go.Proofs.YtfaadlfaimhbbaaGreatDoor
open Go.RowKit

def builtR (N : Nat) (r : Value) (w : World) : Prop := ∃ B, r = .iface 233 (.pointer (some ⟨B, 0, none⟩)) ∧ RepAt N B w

set_option maxRecDepth 100000 in
set_option maxHeartbeats 1600000 in
theorem buildOnce_c (g b : Nat) (c : Nat) (w : World) (hb : Blk w g 192 (replV 0 1 .nilIface (.slice (some ⟨b, 0, none⟩) 4 c)))
    (hll : b < w.heap.size) (hl : OnAt w b) :
    Calls Tryz.prog 134 #[.pointer (some ⟨g, 0, none⟩)] w fun e w' => e = .returned (.tuple #[]) ∧
      ∃ r s', Only g w w' ∧ Blk w' g 192 (replV 0 1 r s') ∧ builtR w.heap.size r w' := by
  have HC := Lib.hid (build_c g b c w hb hll hl)
  have hg := hb.lt
  have HB := Lib.hid hb
  clear hb hl
  go_enter Tryz.func134, Tryz.ntmps134
  go_wp2_with (go_at_call 151; refine HC.out.mono ?_; rintro e w1 ⟨rfl, hbel, hrep⟩; have hB1 := HB.out.belowS hbel; have c3 := hB1.cell 3; have c4 := hB1.cell 4; have f3 := hB1.frozen 3; have f4 := hB1.frozen 4; have HBE := Lib.hid hbel; have HRE := Lib.hid hrep; have HB1 := Lib.hid hB1; clear hbel hrep hB1)
  go_end0
  have ho : Only g w1 ((w1.setCell ⟨g, 3, none⟩ (.iface 233 (.pointer (some ⟨w.heap.size + 1, 0, none⟩)))).setCell ⟨g, 4, none⟩ (.slice none 0 0)) := ((Only.refl g w1).set_ 3 _).set_ 4 _
  exact ⟨rfl, _, _, (Only.ofBelow HBE.out).trans ho, (HB1.out.set_ 3 _).set_ 4 _, _, rfl, HRE.out.only ho hg⟩

theorem Blk.arr4 {w : World} {b : Nat} {x y z u : Value} (h : Blk w b 9 #[x, y, z, u]) : ∀ j v, [x, y, z, u][j]? = some v → w.cell? ((⟨b, 0, none⟩ : Addr).add j) = some v := by
  intro j v hv
  rw [add_plain, h.cell]
  simpa using hv

set_option maxRecDepth 100000 in
set_option maxHeartbeats 1600000 in
theorem newReplacer_c (b : Nat) (w : World) (hl : Blk w b 9 #[S1 92, S2 92 92, S1 34, S2 92 34]) :
    Calls Tryz.prog 104 #[.slice (some ⟨b, 0, none⟩) 4 4] w fun e w' => ∃ g d c, e = .returned (.pointer (some ⟨g, 0, none⟩)) ∧ Below w.heap.size w w' ∧ w.heap.size ≤ g ∧ w.heap.size ≤ d ∧ d ≠ g ∧
      Blk w' g 192 (replV 0 0 .nilIface (.slice (some ⟨d, 0, none⟩) 4 c)) ∧ d < w'.heap.size ∧ OnAt w' d := by
  obtain ⟨i0, hi0, hz0, hz1, hz2⟩ := info_parts strInfo
  have h4 := hl.arr4
  have hg := hl.lt
  have HL := Lib.hid hl
  clear hl
  go_enter Tryz.func104, Tryz.ntmps104
  go_wp2_with (at_builtin; refine wpList_append_own _ rfl _ _ 36 rfl w.heap.size 9 i0 (.string ⟨#[]⟩) 1 16 Tryz.underlying36 hi0 hz0 hz1 hz2 rfl (by decide) _ _ _ rfl (World.ownsRow_nil _ _ _ _) ⟨b, 0, none⟩ 4 4 [S1 92, S2 92 92, S1 34, S2 92 34] rfl rfl ?c1 ?c2 ?c3 ?c4 ?c5 ?_)
  case c1 => exact h4
  case c2 => intro u hu; simp at hu; rcases hu with rfl | rfl | rfl | rfl <;> rfl
  case c3 => unfold maxLen; omega
  case c4 => omega
  case c5 => simp
  intro v' w4 hown4 hgrow4 _
  obtain ⟨d, c4, hv, hd, hdl⟩ := hown4.form (by omega)
  subst hv
  have hon : OnAt w4 d := by
    have := hown4.cells (g := d) rfl
    exact ⟨(add_plain d 0 0 ▸ this 0 (S1 92) rfl), (add_plain d 0 1 ▸ this 1 (S2 92 92) rfl), (add_plain d 0 2 ▸ this 2 (S1 34) rfl), (add_plain d 0 3 ▸ this 3 (S2 92 34) rfl)⟩
  have HON := Lib.hid hon
  have HGR := Lib.hid hgrow4
  clear hon hgrow4 hown4
  go_wp2_with fail
  go_ret
  have hsz := HGR.out.size
  exact ⟨_, _, _, rfl, (Below.alloc (B := w.heap.size) (Only.below (g := w.heap.size) ⟨HGR.out.os, HGR.out.tape, HGR.out.output, HGR.out.size, fun k hk _ => HGR.out.block k hk (by simp [Value.ownBlock])⟩ (Nat.le_refl _) (Nat.le_refl _)) hsz _), hsz, hd, by omega, Blk.new _ _ _, by simp; omega,
    ⟨(World.cell?_alloc_lt _ _ _ hdl).trans HON.out.1, (World.cell?_alloc_lt _ _ _ hdl).trans HON.out.2.1, (World.cell?_alloc_lt _ _ _ hdl).trans HON.out.2.2.1, (World.cell?_alloc_lt _ _ _ hdl).trans HON.out.2.2.2⟩⟩
end Go.Proofs.YtfaadlfaimhbbaaGreatDoor
