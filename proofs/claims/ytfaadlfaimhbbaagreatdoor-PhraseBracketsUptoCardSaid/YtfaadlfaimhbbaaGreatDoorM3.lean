/-
  What strings.Replacer makes of a text: each quote and each backslash has a backslash ahead of it.
  name.Quote: the text between quotes, each quote and each backslash with a backslash ahead of it; or an error.
  word.spelt: the text of a word, and whether it is read as just that word.
  word.Spell: the line of these words.
  The reading of an expression's words, in plain Lean: what phrase.Parse computes, with fuel.
  How far the reading goes, and how many nodes it tells; fuel that is enough.
  The parser's small methods: fail, kind, ahead, is, take, need, word.
-/
import Derived.Test.YtfaadlfaimhbbaaGreatDoorM2
import Derived.Test.YtfaadlfaimhbbaaGreatDoorShelf
import Derived.Deep.CutBlock
import Derived.Laws.CopyOwn
import Derived.Deep.RegionLaw
namespace Go.Proofs.YtfaadlfaimhbbaaGreatDoor
open Go.RowKit

def special (c : UInt8) : Bool := c == 34 || c == 92
def quoteB (c : UInt8) : List UInt8 := if special c then [92, c] else [c]
def quoteL (l : List UInt8) : List UInt8 := l.flatMap quoteB
def cntL (l : List UInt8) : Nat := l.countP special
theorem quoteB_length (c : UInt8) : (quoteB c).length = 1 + if special c then 1 else 0 := by unfold quoteB; split <;> rfl
theorem quoteL_length : ∀ l : List UInt8, (quoteL l).length = l.length + cntL l
  | [] => rfl
  | c :: l => by
    have := quoteL_length l
    simp only [quoteL, cntL, List.flatMap_cons, List.length_append, quoteB_length, List.length_cons, List.countP_cons] at this ⊢
    omega
theorem cntL_count : ∀ l : List UInt8, cntL l = l.count 34 + l.count 92
  | [] => rfl
  | c :: l => by
    have := cntL_count l
    simp only [cntL, List.countP_cons, List.count_cons, special, Bool.or_eq_true, beq_iff_eq] at this ⊢
    by_cases h1 : c = 34
    · subst h1; simp; omega
    · by_cases h2 : c = 92
      · subst h2; simp; omega
      · simp [h1, h2]; omega
theorem quoteL_none : ∀ l : List UInt8, cntL l = 0 → quoteL l = l
  | [], _ => rfl
  | c :: l, h => by
    simp only [cntL, List.countP_cons] at h
    have hc : special c = false := by cases hs : special c <;> simp_all
    have ih := quoteL_none l (by unfold cntL; omega)
    simp only [quoteL, List.flatMap_cons] at ih ⊢
    rw [ih]
    simp [quoteB, hc]
theorem take_one {α : Type} {l : List α} {k : Nat} {x : α} (hx : l[k]? = some x) : l.take (k + 1) = l.take k ++ [x] := by
  rw [List.take_add_one, hx]; rfl
theorem quoteL_next {l : List UInt8} {k : Nat} {x : UInt8} (hx : l[k]? = some x) : quoteL (l.take (k + 1)) = quoteL (l.take k) ++ quoteB x := by
  rw [take_one hx]; simp [quoteL]
theorem cntL_next {l : List UInt8} {k : Nat} {x : UInt8} (hx : l[k]? = some x) : cntL (l.take (k + 1)) = cntL (l.take k) + if special x then 1 else 0 := by
  rw [take_one hx]; simp [cntL, List.countP_cons]
theorem cntL_le (l : List UInt8) (k : Nat) : cntL (l.take k) ≤ cntL l := by
  have h : cntL l = cntL (l.take k) + cntL (l.drop k) := by
    unfold cntL; rw [← List.countP_append, List.take_append_drop]
  omega
theorem quoteL_le (l : List UInt8) (k : Nat) : (quoteL (l.take k)).length ≤ (quoteL l).length := by
  have h1 := quoteL_length l
  have h2 := quoteL_length (l.take k)
  have h3 := cntL_le l k
  have h4 : (l.take k).length ≤ l.length := by simp; omega
  omega

/-- What stands in the table at a byte. -/
theorem RepAt.at_ {N B : Nat} {w : World} (h : RepAt N B w) (c : UInt8) (hc : special c = true) :
    ∃ a k, N ≤ a ∧ a < w.heap.size ∧ w.cell? ⟨B, c.toNat, none⟩ = some (.slice (some ⟨a, 0, none⟩) 2 k) ∧ w.cell? ⟨a, 0, none⟩ = some (.int .u8 92) ∧ w.cell? ⟨a, 1, none⟩ = some (.int .u8 c.toNat) := by
  simp only [special, Bool.or_eq_true, beq_iff_eq] at hc
  rcases hc with rfl | rfl
  · exact h.q
  · exact h.s
theorem RepAt.no {N B : Nat} {w : World} (h : RepAt N B w) (c : UInt8) (hc : special c = false) : w.cell? ⟨B, c.toNat, none⟩ = some (.slice none 0 0) := by
  have hl := c.toNat_lt
  refine h.rest c.toNat (by omega) ?_ ?_
  · intro e
    have : c = 34 := by rw [← UInt8.toNat_inj]; exact e
    subst this; simp [special] at hc
  · intro e
    have : c = 92 := by rw [← UInt8.toNat_inj]; exact e
    subst this; simp [special] at hc

theorem splice_at {α : Type} (L : List α) (z : α) (m j : Nat) (cs : List α) (hj : j = L.length) (_h : cs.length ≤ m) : splice (L ++ List.replicate m z) j cs = L ++ cs ++ List.replicate (m - cs.length) z := by
  subst hj
  simp [splice, List.drop_append]
theorem set_at {α : Type} (L : List α) (z c : α) (m j : Nat) (hj : j = L.length) (h : 1 ≤ m) : (L ++ List.replicate m z).set j c = L ++ [c] ++ List.replicate (m - 1) z := by
  subst hj
  obtain ⟨m, rfl⟩ : ∃ k, m = k + 1 := ⟨m - 1, by omega⟩
  simp [List.replicate_succ]
def bv (c : UInt8) : Value := .int .u8 c.toNat
def zeroB (n : Nat) : Array Value := madeCells (Value.int .u8 0).cells n
theorem zeroB_list (n : Nat) : (zeroB n).toList = List.replicate n (.int .u8 0) := by
  apply List.ext_getElem?
  intro j
  simp [zeroB, madeCells, Value.cells, List.getElem?_replicate, Nat.mod_one]
  by_cases h : j < n <;> simp [h]
theorem mkBytes (w : World) (n : Nat) (hn : n ≤ 100000) : (Instr.makeSlice 109 (.int .i64 (n : Int)) (.int .i64 (n : Int))).run Tryz.prog w = .ok (.slice (some ⟨w.heap.size, 0, none⟩) n n) (w.alloc (.cells (zeroB n) 5)) := by
  obtain ⟨i, hi, hz0, hz1, hz2⟩ := info_parts byteInfo
  have h := run_make (P := Tryz.prog) w 109 5 i _ Tryz.underlying109 hi hz0 .i64 .i64 n n (by omega) (by omega) (by rw [hz2]; omega) (by omega)
  rw [hz1] at h
  simpa [zeroB] using h

set_option maxRecDepth 100000 in
set_option maxHeartbeats 1600000 in
theorem replaceB_c (N B : Nat) (s : ByteArray) (w : World) (hs : s.size ≤ 1000) (h : RepAt N B w) :
    Calls Tryz.prog 280 #[.pointer (some ⟨B, 0, none⟩), .string s] w fun e w' => e = .returned (.string ⟨(quoteL s.data.toList).toArray⟩) ∧ Below w.heap.size w w' := by
  obtain ⟨dd, d1, d2, d3, d4, d5⟩ := h.d
  obtain ⟨l, hl⟩ : ∃ l, l = s.data.toList := ⟨_, rfl⟩
  have hls : l.length = s.size := by rw [hl, Lib.size_eq]
  have hcnt := Lib.hid (cntL_count l)
  obtain ⟨aq, cq, q1, q2, q3, q4, q5⟩ := h.q
  obtain ⟨ab, cb, s1, s2, s3, s4, s5⟩ := h.s
  have x34 := idx34
  have x92 := idx92
  obtain ⟨n34, hn34⟩ : ∃ n, n = Lib.countByte s.data.toList 34 := ⟨_, rfl⟩
  obtain ⟨n92, hn92⟩ : ∃ n, n = Lib.countByte s.data.toList 92 := ⟨_, rfl⟩
  have b34 : n34 ≤ s.size := by rw [hn34, ← hls, hl]; exact List.count_le_length
  have b92 : n92 ≤ s.size := by rw [hn92, ← hls, hl]; exact List.count_le_length
  have H34 := Lib.hid hn34
  have H92 := Lib.hid hn92
  have HLS := Lib.hid hls
  have HL := Lib.hid hl
  have H := Lib.hid h
  clear h hn34 hn92 hl hls
  go_enter Tryz.func280, Tryz.ntmps280
  go_upto_if 26 with fail
  go_cut [5, 6] from 7 (fun n v w' => n = .int .i64 ((s.size + cntL l : Nat) : Int) ∧ v = .bool (cntL l != 0) ∧ ∃ m, w' = w.drewN m)
  case first =>
    by_cases h16 : (16 : Int) ≤ s.size
    · go_wp2_with fail
      refine wp_loop_rounds 3 ?_
      rw [rounds_succ]
      by_cases z34 : n34 = 0
      · have f34 : ((n34 : Int) != 0) = false := by simp [z34]
        by_cases z92 : n92 = 0
        · have f92 : ((n92 : Int) != 0) = false := by simp [z92]
          go_wp2_with (go_at_call 282; refine (Tryz.strings_Count_one s 34 _).mono ?_; rintro e w' ⟨rfl, hw⟩; obtain rfl := hw.symm; rw [← H34.out])
          rw [rounds_succ]
          go_wp2_with (go_at_call 282; refine (Tryz.strings_Count_one s 92 _).mono ?_; rintro e w' ⟨rfl, hw⟩; obtain rfl := hw.symm; rw [← H92.out])
          rw [rounds_succ]
          go_wp2_with fail
          go_meet
          have hc := hcnt.out
          have h3 := H34.out
          have h9 := H92.out
          have h0 := HL.out
          unfold Lib.countByte at h3 h9
          rw [← h0] at h3 h9
          refine ⟨?_, ?_, ?_⟩
          · congr 1; omega
          · congr 1; simp; omega
          · first | exact ⟨_, rfl⟩ | exact ⟨0, rfl⟩
        · have f92 : ((n92 : Int) != 0) = true := by simp [z92]
          go_wp2_with (go_at_call 282; refine (Tryz.strings_Count_one s 34 _).mono ?_; rintro e w' ⟨rfl, hw⟩; obtain rfl := hw.symm; rw [← H34.out])
          rw [rounds_succ]
          go_wp2_with (go_at_call 282; refine (Tryz.strings_Count_one s 92 _).mono ?_; rintro e w' ⟨rfl, hw⟩; obtain rfl := hw.symm; rw [← H92.out])
          go_quiet (fail)
          revert nq
          intro m2
          go_wp2_with fail
          rw [rounds_succ]
          go_wp2_with fail
          go_meet
          have hc := hcnt.out
          have h3 := H34.out
          have h9 := H92.out
          have h0 := HL.out
          unfold Lib.countByte at h3 h9
          rw [← h0] at h3 h9
          refine ⟨?_, ?_, ?_⟩
          · congr 1; omega
          · congr 1; simp; omega
          · first | exact ⟨_, rfl⟩ | exact ⟨0, rfl⟩
      · have f34 : ((n34 : Int) != 0) = true := by simp [z34]
        by_cases z92 : n92 = 0
        · have f92 : ((n92 : Int) != 0) = false := by simp [z92]
          go_wp2_with (go_at_call 282; refine (Tryz.strings_Count_one s 34 _).mono ?_; rintro e w' ⟨rfl, hw⟩; obtain rfl := hw.symm; rw [← H34.out])
          go_quiet (fail)
          revert nq
          intro m1
          go_wp2_with fail
          rw [rounds_succ]
          go_wp2_with (go_at_call 282; refine (Tryz.strings_Count_one s 92 _).mono ?_; rintro e w' ⟨rfl, hw⟩; obtain rfl := hw.symm; rw [← H92.out])
          rw [rounds_succ]
          go_wp2_with fail
          go_meet
          have hc := hcnt.out
          have h3 := H34.out
          have h9 := H92.out
          have h0 := HL.out
          unfold Lib.countByte at h3 h9
          rw [← h0] at h3 h9
          refine ⟨?_, ?_, ?_⟩
          · congr 1; omega
          · congr 1; simp; omega
          · first | exact ⟨_, rfl⟩ | exact ⟨0, rfl⟩
        · have f92 : ((n92 : Int) != 0) = true := by simp [z92]
          go_wp2_with (go_at_call 282; refine (Tryz.strings_Count_one s 34 _).mono ?_; rintro e w' ⟨rfl, hw⟩; obtain rfl := hw.symm; rw [← H34.out])
          go_quiet (fail)
          revert nq
          intro m1
          go_wp2_with fail
          rw [rounds_succ]
          go_wp2_with (go_at_call 282; refine (Tryz.strings_Count_one s 92 _).mono ?_; rintro e w' ⟨rfl, hw⟩; obtain rfl := hw.symm; rw [← H92.out])
          go_quiet (fail)
          revert nq
          intro m2
          go_wp2_with fail
          rw [rounds_succ]
          go_wp2_with fail
          go_meet
          have hc := hcnt.out
          have h3 := H34.out
          have h9 := H92.out
          have h0 := HL.out
          unfold Lib.countByte at h3 h9
          rw [← h0] at h3 h9
          refine ⟨?_, ?_, ?_⟩
          · congr 1; omega
          · congr 1; simp; omega
          · first | exact ⟨_, rfl⟩ | exact ⟨0, rfl⟩
    · go_wp2_with fail
      go_loop [5, 6, 10] (fun n v i => ∃ k : Nat, k ≤ s.size ∧ i = .int .i64 k ∧ n = .int .i64 ((s.size + cntL (l.take k) : Nat) : Int) ∧ v = .bool (cntL (l.take k) != 0)) (fun _ _ i => s.size - (intOf i).toNat)
      case atStart => exact ⟨0, Nat.zero_le _, rfl, by simp [cntL], by simp [cntL]⟩
      case round =>
        obtain ⟨k, hk, rfl, rfl, rfl⟩ := hrel
        by_cases hlt : k < s.size
        · obtain ⟨x, hx⟩ : ∃ x, l[k]? = some x := ⟨_, List.getElem?_eq_getElem (by rw [HLS.out]; exact hlt)⟩
          have hx' : s.data.toList[k]? = some x := by rw [← HL.out]; exact hx
          have hidx := str_index s k x hx'
          have hnx := cntL_next hx
          have HNX := Lib.hid hnx
          have hle := cntL_le l (k + 1)
          have hlen : cntL l ≤ s.size := by rw [← HLS.out]; exact List.countP_le_length
          obtain ⟨n, hn⟩ : ∃ n, n = cntL (l.take k) := ⟨_, rfl⟩
          have hnl : n ≤ 1000 := by rw [hn]; have := cntL_le l k; omega
          rw [← hn] at HNX ⊢
          have HN := Lib.hid hn
          clear hx hx' hnx hle hlen hn
          have hlt' : (k : Int) < s.size := by omega
          have hub := x.toNat_lt
          have hub' : (x.toNat : Int) < 256 := by omega
          cases hsp : special x with
          | true =>
            obtain ⟨a, c, e1, e2, e3, e4, e5⟩ := H.out.at_ x hsp
            have HSP := Lib.hid hsp
            clear hsp
            have hne := some_neq ⟨a, 0, none⟩ 2 c
            go_wp2_with fail
            go_round
            case rel =>
              rw [if_pos HSP.out] at HNX
              exact ⟨k + 1, by omega, rfl, by congr 1; rw [HNX.out]; omega, by congr 1; rw [HNX.out]; simp⟩
            case measure => simp [intOf]; omega
          | false =>
            have e3 := H.out.no x hsp
            have HSP := Lib.hid hsp
            clear hsp
            have hne := nil_neq
            go_wp2_with fail
            go_round
            case rel =>
              rw [HSP.out] at HNX
              exact ⟨k + 1, by omega, rfl, by congr 1; rw [HNX.out]; simp, by congr 1; rw [HNX.out]; simp⟩
            case measure => simp [intOf]; omega
        · obtain rfl : k = s.size := by omega
          have hall : l.take s.size = l := List.take_of_length_le (by rw [HLS.out]; exact Nat.le_refl _)
          rw [hall]
          clear hall
          go_wp2_with fail
          go_meet
          exact ⟨rfl, rfl, 0, rfl⟩
  case rest =>
    obtain ⟨n, hn⟩ : ∃ n : Nat, n = s.size + cntL l := ⟨_, rfl⟩
    rw [← hn] at hcut
    obtain ⟨rfl, rfl, m, rfl⟩ := hcut
    by_cases hz : cntL l = 0
    · have hq := quoteL_none l hz
      have HQ := Lib.hid hq
      have hz1 : (cntL l != 0) = false := by simp [hz]
      clear hq hz
      go_wp2_with fail
      go_ret
      refine ⟨ret_val ?_, below_drewN (Below.refl _ _) _⟩
      show Value.string s = _
      rw [← HL.out, HQ.out, HL.out]
    · have hz1 : (cntL l != 0) = true := by simp [hz]
      rw [hz1]
      clear hz1
      have hnl : n ≤ 2000 := by
        have : cntL l ≤ s.size := by rw [← HLS.out]; exact List.countP_le_length
        omega
      have hql : (quoteL l).length = n := by rw [quoteL_length, HLS.out, hn]
      have HQL := Lib.hid hql
      have HN := Lib.hid hn
      have HZ := Lib.hid hz
      clear hql hn hz
      have hmk := fun w => mkBytes w n (by omega)
      go_wp2_with fail
      have hst0 : Blk ((w.drewN m).alloc (.cells (zeroB n) 5)) w.heap.size 5 (([] : List UInt8).map bv ++ List.replicate (n - 0) (Value.int .u8 0)).toArray := by
        have := Blk.new (w.drewN m) 5 (zeroB n)
        rw [show zeroB n = (List.replicate n (Value.int .u8 0)).toArray from by rw [← zeroB_list]] at this ⊢
        exact this
      have hb0 : Below w.heap.size w ((w.drewN m).alloc (.cells (zeroB n) 5)) := (below_drewN (Below.refl _ w) m).alloc (Nat.le_refl _) _
      go_loopw [13, 14] (fun jv iv wr => ∃ k j : Nat, k ≤ s.size ∧ iv = .int .i64 k ∧ jv = .int .i64 j ∧ Hid (j = (quoteL (l.take k)).length) ∧ Hid (Blk wr w.heap.size 5 ((quoteL (l.take k)).map bv ++ List.replicate (n - j) (Value.int .u8 0)).toArray) ∧ Hid (Below w.heap.size w wr))
        (fun _ iv _ => s.size - (intOf iv).toNat)
      case atStart => exact ⟨0, 0, Nat.zero_le _, rfl, rfl, Lib.hid rfl, Lib.hid hst0, Lib.hid hb0⟩
      case round =>
        obtain ⟨k, j, hk, rfl, rfl, hj, hB, hb⟩ := hrel
        by_cases hlt : k < s.size
        · obtain ⟨x, hx⟩ : ∃ x, l[k]? = some x := ⟨_, List.getElem?_eq_getElem (by rw [HLS.out]; exact hlt)⟩
          have hx' : s.data.toList[k]? = some x := by rw [← HL.out]; exact hx
          have hidx := str_index s k x hx'
          have HNX := Lib.hid (quoteL_next hx)
          have hle := quoteL_le l (k + 1)
          rw [quoteL_next hx, List.length_append, ← hj.out, HQL.out] at hle
          have hlt' : (k : Int) < s.size := by omega
          have hub := x.toNat_lt
          have hub' : (x.toNat : Int) < 256 := by omega
          have hR := H.out.below hb.out
          clear hx hx'
          cases hsp : special x with
          | true =>
            obtain ⟨a, c, e1, e2, e3, e4, e5⟩ := hR.at_ x hsp
            have hj2 : j + 2 ≤ n := by rw [quoteB_length, hsp] at hle; simpa using hle
            have hj2' : (j : Int) + 2 ≤ n := by omega
            have hjn : j ≤ n := by omega
            have hjn' : (j : Int) ≤ n := by omega
            have hjne : ¬ n = j := by omega
            have hjne' : ¬ n - j = 0 := by omega
            have HSP := Lib.hid hsp
            have HR := Lib.hid hR
            clear hsp hR hle
            have hne := some_neq ⟨a, 0, none⟩ 2 c
            go_wp2_with fail
            have hsrc : ∀ i v, [Value.int .u8 92, .int .u8 x.toNat][i]? = some v → wr.cell? ((⟨a, 0, none⟩ : Addr).add i) = some v := by
              intro i v hv
              rw [add_plain, Nat.zero_add]
              rcases i with _ | _ | i
              · simp only [List.getElem?_cons_zero, Option.some.injEq] at hv; subst hv; exact e4
              · simp only [List.getElem?_cons_succ, List.getElem?_cons_zero, Option.some.injEq] at hv; subst hv; exact e5
              · simp at hv
            have HSRC := Lib.hid hsrc
            clear hsrc
            have hone : ∀ u ∈ [Value.int .u8 92, .int .u8 x.toNat], u.oneCell' = true := by intro u hu; simp at hu; rcases hu with rfl | rfl <;> rfl
            have HONE := Lib.hid hone
            clear hone
            have hfit : j + [Value.int .u8 92, .int .u8 x.toNat].length ≤ ((quoteL (l.take k)).map bv ++ List.replicate (n - j) (Value.int .u8 0)).length := by simp [← hj.out]; omega
            have HFIT := Lib.hid hfit
            clear hfit
            have hmin : [Value.int .u8 92, .int .u8 x.toNat].length = Nat.min 2 (n - j) := by
              simp only [List.length_cons, List.length_nil, Nat.zero_add, Nat.reduceAdd]; exact (Nat.min_eq_left (by omega)).symm
            have HMIN := Lib.hid hmin
            clear hmin
            go_region_law (refine step_copy_splice rfl (.tmp 105) (.tmp 111) 109 109 rfl 5 Tryz.underlying109 (by kernel_rfl) (some ⟨w.heap.size, j, none⟩) (some ⟨a, 0, none⟩) (n - j) (n - j) 2 c rfl rfl w.heap.size j _ 5 hB.out [.int .u8 92, .int .u8 x.toNat] HMIN.out (fun _ => ⟨rfl, _, rfl, HSRC.out⟩) HFIT.out HONE.out w.heap.size w (hb.out.drew) (Nat.le_refl _) ?_; intro w2 hB2 hb2)
            have hnew : Blk w2 w.heap.size 5 ((quoteL (l.take (k + 1))).map bv ++ List.replicate (n - (j + 2)) (Value.int .u8 0)).toArray := by
              have h0 := hB2.out
              rw [splice_at _ _ _ _ _ (by simp [← hj.out]) (by simp; omega)] at h0
              rw [HNX.out, quoteB, if_pos HSP.out, List.map_append]
              rw [show n - (j + 2) = n - j - 2 from by omega]
              exact h0
            have HNEW := Lib.hid hnew
            have HB2 := Lib.hid hb2
            clear hnew hb2 hB2
            go_wp2_with fail
            go_roundw
            case rel => exact ⟨k + 1, j + 2, by omega, rfl, rfl, Lib.hid (by rw [HNX.out, List.length_append, quoteB_length, if_pos HSP.out, ← hj.out]), HNEW, HB2⟩
            case measure => simp [intOf]; omega
          | false =>
            have e3 := hR.no x hsp
            have hj1 : j + 1 ≤ n := by rw [quoteB_length, hsp] at hle; simpa using hle
            have hj1' : (j : Int) < n := by omega
            have HSP := Lib.hid hsp
            have HR := Lib.hid hR
            clear hsp hR hle
            have hne := nil_neq
            have hcj : wr.cell? ⟨w.heap.size, j, none⟩ = some (.int .u8 0) := by
              have hlen : ((quoteL (l.take k)).map bv).length = j := by rw [List.length_map, ← hj.out]
              rw [hB.out.cell j]
              simp only [List.getElem?_toArray]
              rw [List.getElem?_append_right (by omega), hlen, Nat.sub_self, List.getElem?_replicate, if_pos (by omega)]
            have hfj := hB.out.frozen j
            have hnew : Blk (wr.setCell ⟨w.heap.size, j, none⟩ (.int .u8 x.toNat)) w.heap.size 5 ((quoteL (l.take (k + 1))).map bv ++ List.replicate (n - (j + 1)) (Value.int .u8 0)).toArray := by
              have h0 := hB.out.set_ j (.int .u8 x.toNat)
              rw [List.setIfInBounds_toArray, set_at _ _ _ _ _ (by simp [← hj.out]) (by omega)] at h0
              rw [HNX.out, quoteB, HSP.out, List.map_append]
              rw [show n - (j + 1) = n - j - 1 from by omega]
              exact h0
            have hbn : Below w.heap.size w (wr.setCell ⟨w.heap.size, j, none⟩ (.int .u8 x.toNat)) := hb.out.setCell (p := ⟨w.heap.size, j, none⟩) (Nat.le_refl _) _
            have HNEW := Lib.hid hnew
            have HBN := Lib.hid hbn
            clear hnew hbn
            go_wp2_with fail
            go_roundw
            case rel => exact ⟨k + 1, j + 1, by omega, rfl, rfl, Lib.hid (by rw [HNX.out, List.length_append, quoteB_length, HSP.out, ← hj.out]; rfl), HNEW, HBN⟩
            case measure => simp [intOf]; omega
        · obtain rfl : k = s.size := by omega
          have hall : l.take s.size = l := List.take_of_length_le (by rw [HLS.out]; exact Nat.le_refl _)
          rw [hall] at hj hB
          clear hall
          have hjn : j = n := by rw [hj.out, HQL.out]
          subst hjn
          have hcv : (convert 109 9 (.slice (some ⟨w.heap.size, 0, none⟩) j j)).run Tryz.prog wr = .ok (.string ⟨(quoteL l).toArray⟩) wr := by
            have := run_convert_bytes_arg (P := Tryz.prog) wr 109 5 Tryz.underlying109 Tryz.underlying5 w.heap.size 0 j j ((quoteL l).map fun c => (c.toNat : Int)) (by simp [HQL.out]) (fun i hi => by
              rw [Nat.zero_add, hB.out.cell i]
              have hi' : i < (quoteL l).length := by rw [HQL.out]; exact hi
              simp only [List.getElem?_toArray]
              rw [List.getElem?_append_left (by simpa using hi')]
              simp [List.getD, hi', bv]) 9 Tryz.underlying9
            rw [this]
            congr 2
            rw [strOfNums]
            have hid : ((fun n : Int => UInt8.ofNat n.toNat) ∘ fun c : UInt8 => (c.toNat : Int)) = id := by funext c; simp
            rw [List.map_map, hid, List.map_id]
          go_wp2_with fail
          go_ret
          refine ⟨ret_val ?_, hb.out⟩
          rw [← HL.out]
          rfl
end Go.Proofs.YtfaadlfaimhbbaaGreatDoor

namespace Go.Proofs.YtfaadlfaimhbbaaGreatDoor
open Go.RowKit

set_option maxRecDepth 100000 in
set_option maxHeartbeats 1600000 in
theorem replace_c (g d c : Nat) (s : ByteArray) (w : World) (hs : s.size ≤ 1000) (hb : Blk w g 192 (replV 0 0 .nilIface (.slice (some ⟨d, 0, none⟩) 4 c))) (hd : d < w.heap.size) (hdg : d ≠ g) (ho : OnAt w d) :
    Calls Tryz.prog 105 #[.pointer (some ⟨g, 0, none⟩), .string s] w fun e w' => e = .returned (.string ⟨(quoteL s.data.toList).toArray⟩) ∧ Only g w w' := by
  have hmf : ∀ (fn : Fn) (first cap : Array Value) (w : World), (Instr.makeFunc fn first cap).run Tryz.prog w = .ok (.func fn first cap) w := fun _ _ _ _ => rfl
  have hm : ∀ (n B : Nat) (w : World), (method (n + 1) 233 (.pointer (some ⟨B, 0, none⟩)) "Replace").run Tryz.prog w = .ok (280, .pointer (some ⟨B, 0, none⟩)) w := fun _ _ _ => by kernel_rfl
  have hg := hb.lt
  have hb1 := hb.set_ 1 (.int .i32 1)
  have hon : OnAt (w.setCell ⟨g, 1, none⟩ (.int .i32 1)) d := by
    have far : ∀ j, (w.setCell ⟨g, 1, none⟩ (.int .i32 1)).cell? ⟨d, j, none⟩ = w.cell? ⟨d, j, none⟩ := fun j => World.cell?_setCell_other _ _ _ _ (by intro e; injection e; omega)
    exact ⟨(far _).trans ho.1, (far _).trans ho.2.1, (far _).trans ho.2.2.1, (far _).trans ho.2.2.2⟩
  have hbo := buildOnce_c g d c (w.setCell ⟨g, 1, none⟩ (.int .i32 1)) hb1 (by simpa using hd) hon
  rw [show (w.setCell ⟨g, 1, none⟩ (.int .i32 1)).heap.size = w.heap.size from by simp] at hbo
  have hdo := do_c g (.slice (some ⟨d, 0, none⟩) 4 c) .nilIface w (builtR w.heap.size) (fun r w1 w2 h1 h2 => by obtain ⟨B, e, h⟩ := h1; exact ⟨B, e, h.only h2 hg⟩) hb hbo
  have HDO := Lib.hid hdo
  clear hbo hon hb1 hb ho hdo
  unfold bldF at HDO
  go_enter Tryz.func105, Tryz.ntmps105
  go_wp2_with (first
    | (go_at_call 133; refine HDO.out.mono ?_; rintro e w1 ⟨rfl, r, s', h1, h2, B, rfl, h3⟩; have c3 : w1.cell? ⟨g, 3, none⟩ = some (.iface 233 (.pointer (some ⟨B, 0, none⟩))) := h2.cell 3; have H1 := Lib.hid h1; have H3 := Lib.hid h3; clear h1 h2 h3)
    | (go_at_call 280; refine (replaceB_c _ _ s _ hs H3.out).mono ?_; rintro e w2 ⟨rfl, h4⟩))
  go_ret
  exact ⟨rfl, H1.out.thenBelow h4⟩

theorem on_new (w : World) : OnAt (w.alloc (.cells #[S1 92, S2 92 92, S1 34, S2 92 34] 9)) w.heap.size := by
  have := Blk.new w 9 #[S1 92, S2 92 92, S1 34, S2 92 34]
  exact ⟨this.cell 0, this.cell 1, this.cell 2, this.cell 3⟩

def quoteW (s : ByteArray) : List UInt8 := 34 :: (quoteL s.data.toList ++ [34])
def quoteV (s : ByteArray) : Value := if plainErr s = 0 then .tuple #[.string ⟨(quoteW s).toArray⟩, .nilIface] else .tuple #[.string ⟨#[]⟩, errV (plainErr s)]
set_option maxRecDepth 100000 in
set_option maxHeartbeats 1600000 in
theorem quote_c (s : ByteArray) (w : World) (hs : s.size ≤ 9223372036854775807) :
    Calls Tryz.prog 71 #[.string s] w fun e w' => e = .returned (quoteV s) ∧ Below w.heap.size w w' := by
  by_cases hp : plainErr s = 0
  · have hv : quoteV s = .tuple #[.string ⟨(quoteW s).toArray⟩, .nilIface] := if_pos hp
    rw [hv]
    have hle : s.size ≤ 1000 := by
      unfold plainErr at hp
      by_cases h60 : 60 < s.size
      · rw [if_pos h60] at hp; cases hp
      · omega
    have HP := Lib.hid hp
    have hql : (quoteL s.data.toList).length ≤ 2000 := by
      rw [quoteL_length]
      have : cntL s.data.toList ≤ s.data.toList.length := List.countP_le_length
      have h2 := Lib.size_eq s
      omega
    have hz : (⟨(quoteL s.data.toList).toArray⟩ : ByteArray).size ≤ 2000 := by simpa [ByteArray.size] using hql
    have hc1 := fun w => run_string_add_sum (P := Tryz.prog) w ⟨#[34]⟩ ⟨(quoteL s.data.toList).toArray⟩ (by rw [show (⟨#[34]⟩ : ByteArray).size = 1 from rfl]; omega)
    have hc2 := fun w => run_string_add_sum (P := Tryz.prog) w (⟨#[34]⟩ ++ ⟨(quoteL s.data.toList).toArray⟩) ⟨#[34]⟩ (by rw [ByteArray.size_append, show (⟨#[34]⟩ : ByteArray).size = 1 from rfl]; omega)
    clear hp hv hql hz
    go_enter Tryz.func71, Tryz.ntmps71
    go_wp2_with (first
      | (go_at_call 103; refine (plain_c s _ hs).mono ?_; rintro e w1 ⟨rfl, h1⟩; rw [HP.out, errV_zero])
      | (go_at_call 104; refine (newReplacer_c _ _ (Blk.new _ _ _)).mono ?_; rintro e w2 ⟨g, d, c, rfl, h2, h3, h4, hdg, h5, h6, h7⟩)
      | (go_at_call 105; refine (replace_c g d c s _ hle h5 h6 hdg h7).mono ?_; rintro e w3 ⟨rfl, h8⟩))
    go_ret2
    refine ⟨?_, ?_⟩
    · refine ret_val ?_
      congr 3
    · have hs1 := h1.size
      rw [World.size_alloc] at h3
      have hb2 : Below w.heap.size w w2 := (h1.alloc hs1 _).trans (h2.mono (by rw [World.size_alloc]; omega))
      exact hb2.trans (h8.below hb2.size (by omega))
  · have hv : quoteV s = .tuple #[.string ⟨#[]⟩, errV (plainErr s)] := if_neg hp
    rw [hv]
    clear hv
    have he := errV_ne hp
    have hn : plainErr s ≠ 0 := hp
    rw [he]
    have HE := Lib.hid he
    clear hp he hn
    go_enter Tryz.func71, Tryz.ntmps71
    go_wp2_with (first
      | (go_at_call 103; refine (plain_c s _ hs).mono ?_; rintro e w1 ⟨rfl, h1⟩; rw [HE.out]))
    go_ret2
    exact ⟨rfl, h1⟩
end Go.Proofs.YtfaadlfaimhbbaaGreatDoor

namespace Go.Proofs.YtfaadlfaimhbbaaGreatDoor
open Go.RowKit

def textW (t : Tok) : Option ByteArray :=
  if t.kind = 3 then (if plainErr t.s = 0 then some ⟨(quoteW t.s).toArray⟩ else none)
  else if t.kind = 4 then some (⟨#[63]⟩ ++ t.s) else some t.s
def speltW (t : Tok) : ByteArray × Bool :=
  match textW t with
  | none => (⟨#[]⟩, false)
  | some x =>
    match readW x with
    | .ok [u] => (x, decide (u = ⟨t.kind, t.s, 0⟩))
    | _ => (⟨#[]⟩, false)

theorem bytes_beq (a b : ByteArray) : (a.toList == b.toList) = decide (a = b) := by
  rw [ByteArray.toList_eq, ByteArray.toList_eq]
  by_cases h : a = b
  · subst h; simp
  · have : a.data.toList ≠ b.data.toList := fun e => h (by cases a; cases b; simpa using e)
    simp [h]
    intro e
    exact this (by rw [e])
theorem tok_eql (x y : Tok) (w : World) : (binOp .eql 34 (.agg #[.int .i64 x.kind, .string x.s, .int .i64 x.pos]) (.agg #[.int .i64 y.kind, .string y.s, .int .i64 y.pos])).run Tryz.prog w = .ok (.bool (decide (x = y))) w := by
  have h : decide (x = y) = (x.kind == y.kind && (x.s.toList == y.s.toList && x.pos == y.pos)) := by
    obtain ⟨a, b, c⟩ := x
    obtain ⟨d, e, f⟩ := y
    simp only [Tok.mk.injEq]
    rw [bytes_beq]
    by_cases h1 : a = d <;> by_cases h2 : b = e <;> by_cases h3 : c = f <;> simp [h1, h2, h3]
  rw [h]
  generalize hk : (x.kind == y.kind) = k
  generalize hs : (x.s.toList == y.s.toList) = s
  generalize hp : (x.pos == y.pos) = p
  cases k <;> cases s <;> cases p <;> simp [go_sem, hk, hs, hp]

theorem quoteW_size {s : ByteArray} (hp : plainErr s = 0) : (⟨(quoteW s).toArray⟩ : ByteArray).size ≤ 100000001 := by
  have hle : s.size ≤ 60 := by
    unfold plainErr at hp
    by_cases h60 : 60 < s.size
    · rw [if_pos h60] at hp; cases hp
    · omega
  have h1 := quoteL_length s.data.toList
  have h2 : cntL s.data.toList ≤ s.data.toList.length := List.countP_le_length
  have h3 := Lib.size_eq s
  have h4 : (⟨(quoteW s).toArray⟩ : ByteArray).size = (quoteL s.data.toList).length + 2 := by simp [quoteW, ByteArray.size]
  omega

set_option maxRecDepth 100000 in
set_option maxHeartbeats 1600000 in
theorem spelt_c (t : Tok) (w : World) (hs : t.s.size ≤ 100000000) :
    Calls Tryz.prog 37 #[t.val] w fun e w' => e = .returned (.tuple #[.string (speltW t).1, .bool (speltW t).2]) ∧ Below w.heap.size w w' := by
  obtain ⟨w0, hw0⟩ : ∃ w0, w0 = w.alloc (.cells #[.int .i64 t.kind, .string t.s, .int .i64 t.pos] 34) := ⟨_, rfl⟩
  have hB0 : Blk w0 w.heap.size 34 #[.int .i64 t.kind, .string t.s, .int .i64 t.pos] := by rw [hw0]; exact Blk.new _ _ _
  have hs0 : w0.heap.size = w.heap.size + 1 := by rw [hw0]; simp
  have hb0 : Below w.heap.size w w0 := by rw [hw0]; exact (Below.refl _ _).alloc (Nat.le_refl _) _
  obtain ⟨c0, c1, c2, f0, f1, f2⟩ := hB0.cells3
  have hlim : t.s.size ≤ 9223372036854775807 := by omega
  have HW0 := Lib.hid hw0
  have HB0 := Lib.hid hB0
  have HBE := Lib.hid hb0
  obtain ⟨R, hR⟩ : ∃ R, R = speltW t := ⟨_, rfl⟩
  rw [← hR]
  have HR := Lib.hid hR
  clear hB0 hb0 hw0 hR
  unfold Tok.val
  go_enter Tryz.func37, Tryz.ntmps37
  go_upto_block 0 with fail
  rw [← HW0.out]
  go_cut [4] from 5 (fun v w' => ∃ y, v = .string y ∧ textW t = some y ∧ y.size ≤ 100000001 ∧ Below (w.heap.size + 1) w0 w')
  case first =>
    by_cases h3 : t.kind = 3
    · have k3 : ((t.kind : Int) == 3) = true := by simp [h3]
      by_cases hp : plainErr t.s = 0
      · have hq : quoteV t.s = .tuple #[.string ⟨(quoteW t.s).toArray⟩, .nilIface] := if_pos hp
        have HT : Hid (textW t = some ⟨(quoteW t.s).toArray⟩) := Lib.hid (by rw [textW, if_pos h3, if_pos hp])
        have HQ := Lib.hid hq
        have hle : (⟨(quoteW t.s).toArray⟩ : ByteArray).size ≤ 100000001 := quoteW_size hp
        clear hq h3 hp
        go_wp2_with (go_at_call 71; refine (quote_c t.s _ hlim).mono ?_; rintro e w1 ⟨rfl, h1⟩; rw [HQ.out])
        go_meet
        exact ⟨_, rfl, HT.out, hle, by rw [hs0] at h1; exact h1⟩
      · have hq : quoteV t.s = .tuple #[.string ⟨#[]⟩, errV (plainErr t.s)] := if_neg hp
        have HT : Hid (R = (⟨#[]⟩, false)) := Lib.hid (by rw [HR.out, speltW, textW, if_pos h3, if_neg hp])
        have he := errV_ne hp
        rw [he] at hq
        have HQ := Lib.hid hq
        clear hq h3 hp he
        go_wp2_with (go_at_call 71; refine (quote_c t.s _ hlim).mono ?_; rintro e w1 ⟨rfl, h1⟩; rw [HQ.out])
        go_ret2
        rw [HT.out]
        exact ⟨rfl, HBE.out.trans (h1.mono (by omega))⟩
    · have k3 : ((t.kind : Int) == 3) = false := by simp [h3]
      by_cases h4 : t.kind = 4
      · have k4 : ((t.kind : Int) == 4) = true := by simp [h4]
        have HT : Hid (textW t = some (⟨#[63]⟩ ++ t.s)) := Lib.hid (by rw [textW, if_neg h3, if_pos h4])
        have hc1 := fun w => run_string_add_sum (P := Tryz.prog) w ⟨#[63]⟩ t.s (by rw [show (⟨#[63]⟩ : ByteArray).size = 1 from rfl]; omega)
        have hle : (⟨#[63]⟩ ++ t.s : ByteArray).size ≤ 100000001 := by rw [ByteArray.size_append, show (⟨#[63]⟩ : ByteArray).size = 1 from rfl]; omega
        clear h3 h4
        go_wp2_with fail
        go_meet
        exact ⟨_, rfl, HT.out, hle, Below.refl _ _⟩
      · have k4 : ((t.kind : Int) == 4) = false := by simp [h4]
        have HT : Hid (textW t = some t.s) := Lib.hid (by rw [textW, if_neg h3, if_neg h4])
        clear h3 h4
        go_wp2_with fail
        go_meet
        exact ⟨_, rfl, HT.out, by omega, Below.refl _ _⟩
  case rest =>
    obtain ⟨y, rfl, hy, hys, hbc⟩ := hcut
    have hBc : Blk wc w.heap.size 34 #[.int .i64 t.kind, .string t.s, .int .i64 t.pos] := HB0.out.below hbc (Nat.lt_succ_self _)
    have hbw : Below w.heap.size w wc := HBE.out.trans (hbc.mono (Nat.le_succ _))
    have HBC := Lib.hid hBc
    have HBW := Lib.hid hbw
    have HY := Lib.hid hy
    have hlc : w.heap.size + 1 ≤ wc.heap.size := hBc.lt
    clear hBc hbw hy hbc c0 c1 c2 f0 f1 f2
    have hrd := read_c y wc (by omega)
    obtain ⟨r, hr⟩ : ∃ r, r = readW y := ⟨_, rfl⟩
    rw [← hr] at hrd
    have HRD := Lib.hid hr
    cases r with
    | error ek =>
      obtain ⟨er, k⟩ := ek
      have hres : R = (⟨#[]⟩, false) := by rw [HR.out, speltW, HY.out]; simp only []; rw [← hr]
      have HRES := Lib.hid hres
      have HC := Lib.hid hrd
      clear hres hrd hr
      go_wp2_with (go_at_call 72; refine HC.out.mono ?_; rintro e w1 ⟨rfl, h1⟩)
      go_ret2
      rw [HRES.out]
      exact ⟨rfl, HBW.out.trans (h1.mono (by omega))⟩
    | ok toks =>
      have HC := Lib.hid hrd
      clear hrd
      by_cases hlen : toks.length = 1
      · obtain ⟨u, rfl⟩ : ∃ u, toks = [u] := List.length_eq_one_iff.1 hlen
        have hres : R = (y, decide (u = ⟨t.kind, t.s, 0⟩)) := by rw [HR.out, speltW, HY.out]; simp only []; rw [← hr]
        have HRES := Lib.hid hres
        clear hres hr hlen
        have heq := tok_eql u ⟨t.kind, t.s, 0⟩
        simp only at heq
        go_wp2_with (go_at_call 72; refine HC.out.mono ?_; rintro e w1 ⟨A, c, rfl, hc, ht, h1⟩; obtain ⟨b, off, rfl, hb, d0, d1, d2⟩ := ht.at_ (k := 0) (x := u) rfl; simp only [Nat.zero_mul, Nat.add_zero] at d0 d1 d2; obtain ⟨c0, c1, c2, f0, f1, f2⟩ := (HBC.out.below h1 (by omega)).cells3; have HH := Lib.hid h1; clear h1 ht)
        go_quiet (fail)
        revert nq
        intro n1
        go_wp2_with fail
        go_ret2
        rw [HRES.out]
        exact ⟨rfl, below_drewN (HBW.out.trans (HH.out.mono (by omega))) _⟩
      · have hres : R = (⟨#[]⟩, false) := by
          rw [HR.out, speltW, HY.out]; simp only []; rw [← hr]
          rcases toks with _ | ⟨a, _ | ⟨b, l⟩⟩
          · rfl
          · simp at hlen
          · rfl
        have HRES := Lib.hid hres
        have hne : (((toks.length : Nat) : Int) != 1) = true := by simp; omega
        clear hres hr hlen
        go_wp2_with (go_at_call 72; refine HC.out.mono ?_; rintro e w1 ⟨A, c, rfl, hc, ht, h1⟩; have HH := Lib.hid h1; clear h1 ht)
        go_ret2
        rw [HRES.out]
        exact ⟨rfl, HBW.out.trans (HH.out.mono (by omega))⟩
end Go.Proofs.YtfaadlfaimhbbaaGreatDoor

namespace Go.Proofs.YtfaadlfaimhbbaaGreatDoor
open Go.RowKit

theorem below_own {B base e size n : Nat} {v : Value} {xs : List Value} {W w w' : World} (hb : Below B W w) (own : w.ownsRow base e size v n xs) (hg : w.grownBy w' v.ownBlock) (h1 : B ≤ base) (h2 : B ≤ w.heap.size) : Below B W w' :=
  hb.grown hg h2 fun k hk => Nat.le_trans h1 (own.lt k hk).1

theorem own_below {base e size n : Nat} {v : Value} {xs : List Value} {a w' : World} (own' : a.ownsRow base e size v n xs) (h : Below a.heap.size a w') : w'.ownsRow base e size v n xs :=
  own'.kept (row := none) ⟨h.os, h.tape, h.output, h.size, fun k hk _ => h.block k hk⟩ (by
    cases hv : v.ownBlock with
    | none => exact .inl rfl
    | some k => exact .inr (by simp))
def spellW (ts : List Tok) : Except Int ByteArray :=
  if 300 < ts.length then .error 4
  else if ts.all fun t => (speltW t).2 then
    (if 900 < (Lib.join (ts.map fun t => (speltW t).1.data.toList) [32]).length then .error 4 else .ok ⟨(Lib.join (ts.map fun t => (speltW t).1.data.toList) [32]).toArray⟩)
  else .error 1
def spellV : Except Int ByteArray → Value
  | .error e => .tuple #[.string ⟨#[]⟩, .iface 40 (.int .i64 e)]
  | .ok s => .tuple #[.string s, .nilIface]
theorem speltW_size (t : Tok) (ht : t.s.size ≤ 100000000) : (speltW t).1.size ≤ 100000001 := by
  unfold speltW
  cases hx : textW t with
  | none => simp [ByteArray.size]
  | some x =>
    have hxs : x.size ≤ 100000001 := by
      unfold textW at hx
      by_cases h3 : t.kind = 3
      · rw [if_pos h3] at hx
        by_cases hp : plainErr t.s = 0
        · rw [if_pos hp] at hx; injection hx with hx; rw [← hx]; exact quoteW_size hp
        · rw [if_neg hp] at hx; cases hx
      · rw [if_neg h3] at hx
        by_cases h4 : t.kind = 4
        · rw [if_pos h4] at hx; injection hx with hx; rw [← hx, ByteArray.size_append, show (⟨#[63]⟩ : ByteArray).size = 1 from rfl]; omega
        · rw [if_neg h4] at hx; injection hx with hx; rw [← hx]; omega
    simp only []
    split
    · exact hxs
    · simp [ByteArray.size]
theorem join_le (sep : List UInt8) (m : Nat) : ∀ xs : List (List UInt8), (∀ x ∈ xs, x.length ≤ m) → (Lib.join xs sep).length ≤ xs.length * (m + sep.length)
  | [], _ => by simp [Lib.join_nil]
  | [x], h => by
    rw [Lib.join_one]
    have := h x (by simp)
    simp only [List.length_cons, List.length_nil]; omega
  | x :: y :: l, h => by
    have ih := join_le sep m (y :: l) (fun z hz => h z (by simp [hz]))
    have hx := h x (by simp)
    have : Lib.join (x :: y :: l) sep = x ++ sep ++ Lib.join (y :: l) sep := by simp [Lib.join, List.intercalate]
    rw [this]
    simp only [List.length_append, List.length_cons] at ih ⊢
    rw [Nat.add_mul (l.length + 1) 1]
    omega

set_option maxRecDepth 100000 in
set_option maxHeartbeats 1600000 in
theorem spell_c (A : Option Addr) (c : Nat) (ts : List Tok) (w : World) (ht : ToksAt w A ts) (hs : ∀ t ∈ ts, t.s.size ≤ 100000000) (hlen : ts.length ≤ 9223372036854775807) :
    Calls Tryz.prog 22 #[.slice A ts.length c] w fun e w' => e = .returned (spellV (spellW ts)) ∧ Below w.heap.size w w' := by
  obtain ⟨R, hR⟩ : ∃ R, R = spellW ts := ⟨_, rfl⟩
  rw [← hR]
  have HR := Lib.hid hR
  have HS := Lib.hid hs
  have HT := Lib.hid ht
  obtain ⟨n, hn⟩ : ∃ n, n = ts.length := ⟨_, rfl⟩
  rw [← hn] at hlen ⊢
  have HN := Lib.hid hn
  clear hR hs ht hn
  by_cases h300 : 300 < n
  · have hgt : (300 : Int) < n := by omega
    have hres : R = .error 4 := by rw [HR.out, spellW, if_pos (by rw [← HN.out]; exact h300)]
    subst hres
    go_enter Tryz.func22, Tryz.ntmps22
    go_wp2_with fail
    go_ret2
    exact ⟨rfl, Below.refl _ _⟩
  · have hgt : ¬ (300 : Int) < n := by omega
    go_enter Tryz.func22, Tryz.ntmps22
    go_wp2_with fail
    obtain ⟨i0, hi0, hz0, hz1, hz2⟩ := info_parts strInfo
    go_loopw [4, 16] (fun lv iv wr => ∃ (k d : Nat) (L : Option Addr) (acc : List ByteArray), k ≤ n ∧ iv = .int .i64 k ∧ lv = .slice L k d ∧ Hid (k ≤ d) ∧ Hid (acc = (ts.take k).map fun t => (speltW t).1) ∧ Hid ((ts.take k).all (fun t => (speltW t).2) = true) ∧ Hid (wr.ownsRow w.heap.size 9 1 (.slice L k d) k (acc.map Value.string)) ∧ Hid (Below w.heap.size w wr))
      (fun _ iv _ => n - (intOf iv).toNat)
    case atStart => exact ⟨0, 0, none, [], Nat.zero_le _, rfl, rfl, Lib.hid (Nat.le_refl _), Lib.hid rfl, Lib.hid rfl, Lib.hid (World.ownsRow_nil _ _ _ _), Lib.hid (Below.refl _ _)⟩
    case round =>
      obtain ⟨k, d, L, acc, hk, rfl, rfl, hd, hacc, hall, hown, hb⟩ := hrel
      by_cases hlt : k < n
      · obtain ⟨t, htk⟩ : ∃ t, ts[k]? = some t := ⟨_, List.getElem?_eq_getElem (by rw [← HN.out]; exact hlt)⟩
        have hlt' : (k : Int) < n := by omega
        obtain ⟨b, off, rfl, hbl, d0, d1, d2⟩ := (HT.out.below hb.out).at_ htk
        have hts := HS.out t (List.mem_of_getElem? htk)
        have HTK := Lib.hid (take_one htk)
        have hT2 : ts.take (k + 1) = ts.take k ++ [t] := take_one htk
        have hsz := hb.out.size
        have hc := fun w => spelt_c t w hts
        simp only [Tok.val] at hc
        have HC := Lib.hid hc
        clear hc htk
        cases hsp : (speltW t).2 with
        | false =>
          have hres : R = .error 1 := by
            rw [HR.out, spellW, if_neg (by rw [← HN.out]; exact h300), if_neg]
            intro h
            rw [← List.take_append_drop (k + 1) ts, hT2] at h
            simp [hsp] at h
          have HRES := Lib.hid hres
          rw [hsp] at HC
          clear hsp hres hT2
          go_wp2_with (go_at_call 37; refine (HC.out _).mono ?_; rintro e w1 ⟨rfl, h1⟩)
          go_ret2
          rw [HRES.out]
          exact ⟨rfl, (hb.out.alloc hb.out.size _).trans (h1.mono (by simp; omega))⟩
        | true =>
          have hall2 : (ts.take (k + 1)).all (fun t => (speltW t).2) = true := by rw [hT2, List.all_append, hall.out]; simp [hsp]
          have hacc2 : acc ++ [(speltW t).1] = (ts.take (k + 1)).map fun t => (speltW t).1 := by rw [hT2, List.map_append, ← hacc.out]; rfl
          have HALL2 := Lib.hid hall2
          have HACC2 := Lib.hid hacc2
          rw [hsp] at HC
          generalize hx : (speltW t).1 = x at HC HACC2
          clear hsp hall2 hacc2 hT2 hx
          go_wp2_with (first
            | (go_at_call 37; refine (HC.out _).mono ?_; rintro e w1 ⟨rfl, h1⟩; have HH := Lib.hid h1; clear h1)
            | (at_builtin; refine wpList_append_own _ rfl _ _ 36 rfl w.heap.size 9 i0 (.string ⟨#[]⟩) 1 16 Tryz.underlying36 hi0 hz0 hz1 hz2 rfl (by decide) _ _ _ rfl (World.ownsRow.alloc (own_below (World.ownsRow.alloc hown.out _) HH.out) _) ⟨_, 0, none⟩ 1 1 [.string x] rfl rfl ?c1 ?c2 ?c3 ?c4 ?c5 ?_))
          case c1 => exact cell_one_new _ _ _
          case c2 => intro u hu; simp at hu; subst hu; rfl
          case c3 => unfold maxLen; omega
          case c4 => omega
          case c5 => have := HH.out.size; simp at this ⊢; omega
          intro v' w4 hown4 hgrow4 _
          obtain ⟨L', d', hv, hd'⟩ := own_slice hown4
          subst hv
          have hb1 : Below w.heap.size w w1 := (hb.out.alloc hsz _).trans (HH.out.mono (by simp; omega))
          have hb4 : Below w.heap.size w w4 := below_own (hb1.alloc hb1.size _) (World.ownsRow.alloc (own_below (World.ownsRow.alloc hown.out _) HH.out) _) hgrow4 (Nat.le_refl _) (by have := hb1.size; simp; omega)
          have HB4 := Lib.hid hb4
          have HOWN := Lib.hid hown4
          clear hb1 hb4 hown4 hgrow4
          go_wp2_with fail
          go_roundw
          case rel =>
            refine ⟨k + 1, d', L', acc ++ [x], by omega, rfl, rfl, Lib.hid hd', HACC2, HALL2, Lib.hid ?_, HB4⟩
            rw [List.map_append]
            exact HOWN.out
          case measure => simp [intOf]; omega
      · obtain rfl : k = n := by omega
        have hfull : ts.take k = ts := List.take_of_length_le (by rw [← HN.out]; exact Nat.le_refl _)
        rw [hfull] at hacc hall
        clear hfull
        have hres : R = if 900 < (Lib.join (ts.map fun t => (speltW t).1.data.toList) [32]).length then .error 4 else .ok ⟨(Lib.join (ts.map fun t => (speltW t).1.data.toList) [32]).toArray⟩ := by
          rw [HR.out, spellW, if_neg (by rw [← HN.out]; exact h300), if_pos hall.out]
        have hj : ts.map (fun t => (speltW t).1.data.toList) = acc.map (·.data.toList) := by rw [hacc.out, List.map_map]; rfl
        have hjl := join_le [32] 100000001 (acc.map (·.data.toList)) (by
          intro x hx
          rw [hacc.out, List.map_map] at hx
          obtain ⟨t, ht, rfl⟩ := List.mem_map.1 hx
          have := speltW_size t (HS.out t ht)
          rw [Lib.size_eq] at this
          exact this)
        have hal : acc.length = k := by rw [hacc.out, List.length_map, ← HN.out]
        have hjl2 : (Lib.join (acc.map (·.data.toList)) [32]).length ≤ 140737488355328 := by
          refine Nat.le_trans hjl ?_
          rw [List.length_map, hal]
          have : k * (100000001 + 1) ≤ 300 * (100000001 + 1) := Nat.mul_le_mul_right _ (by omega)
          simp only [List.length_cons, List.length_nil]; omega
        rw [hj] at hres
        have hcall : Calls Tryz.prog 38 #[.slice L k d, .string ⟨#[32]⟩] wr fun e w' => e = .returned (.string ⟨(Lib.join (acc.map (·.data.toList)) [32]).toArray⟩) ∧ Below wr.heap.size wr w' := by
          by_cases h0 : k = 0
          · obtain rfl := List.eq_nil_of_length_eq_zero (hal.trans h0)
            rw [h0]
            refine (Tryz.strings_Join_none L d ⟨#[32]⟩ wr).mono ?_
            rintro e w' ⟨rfl, rfl⟩
            exact ⟨rfl, Below.refl _ _⟩
          · obtain ⟨g, cap, hv, _, hg⟩ := hown.out.form (by omega)
            injection hv with hL _ hD
            subst hL
            have hcl := hown.out.cells (g := g) rfl
            have := Tryz.strings_Join g 0 d acc ⟨#[32]⟩ wr (fun j x hx => by
              have := hcl j (.string x) (by simp [hx])
              rw [add_plain] at this
              exact this) hg (by omega) (by rw [hal]; exact hd.out) hjl2
            rw [hal] at this
            exact this
        generalize hJ : Lib.join (acc.map (·.data.toList)) [32] = J at hres hcall hjl2
        have HCALL := Lib.hid hcall
        have HRES := Lib.hid hres
        have hJs : (⟨J.toArray⟩ : ByteArray).size = J.length := by simp [ByteArray.size]
        have HJS := Lib.hid hJs
        clear hcall hres hjl hj hJs hJ
        by_cases h900 : 900 < J.length
        · have hg : (900 : Int) < ((⟨J.toArray⟩ : ByteArray).size : Int) := by rw [HJS.out]; omega
          have hr2 : R = .error 4 := by rw [HRES.out, if_pos h900]
          subst hr2
          go_wp2_with (go_at_call 38; refine HCALL.out.mono ?_; rintro e w1 ⟨rfl, h1⟩)
          go_ret2
          exact ⟨rfl, hb.out.trans (h1.mono hb.out.size)⟩
        · have hg : ¬ (900 : Int) < ((⟨J.toArray⟩ : ByteArray).size : Int) := by rw [HJS.out]; omega
          have hr2 : R = .ok ⟨J.toArray⟩ := by rw [HRES.out, if_neg h900]
          subst hr2
          go_wp2_with (go_at_call 38; refine HCALL.out.mono ?_; rintro e w1 ⟨rfl, h1⟩)
          go_ret2
          exact ⟨rfl, hb.out.trans (h1.mono hb.out.size)⟩
end Go.Proofs.YtfaadlfaimhbbaaGreatDoor

namespace Go.Proofs.YtfaadlfaimhbbaaGreatDoor
open Go.RowKit

abbrev PRes := Except (Int × Nat) (List Node × Nat)
abbrev PR := Option PRes
def PR.then (r : PR) (k : List Node → Nat → PR) : PR :=
  match r with
  | none => none
  | some (.error e) => some (.error e)
  | some (.ok (ns, j)) => k ns j
@[simp] theorem PR.then_none (k : List Node → Nat → PR) : PR.then none k = none := rfl
@[simp] theorem PR.then_error (e : Int × Nat) (k : List Node → Nat → PR) : PR.then (some (.error e)) k = some (.error e) := rfl
@[simp] theorem PR.then_ok (ns : List Node) (j : Nat) (k : List Node → Nat → PR) : PR.then (some (.ok (ns, j))) k = k ns j := rfl

def isAt (ts : List Tok) (i : Nat) (s : List UInt8) : Bool :=
  match ts[i]? with
  | some t => (t.kind == 1 || t.kind == 5) && t.s.toList == s
  | none => false
def kindAt (ts : List Tok) (i : Nat) : Int := match ts[i]? with | some t => t.kind | none => 0
def needP (ts : List Tok) (i : Nat) (s : List UInt8) (k : Nat → PR) : PR := if isAt ts i s then k (i + 1) else some (.error (1, i))
def wordP (ts : List Tok) (i : Nat) (kind : Int) (k : ByteArray → Nat → PR) : PR :=
  match ts[i]? with
  | some t => if t.kind = kind then k t.s (i + 1) else some (.error (1, i))
  | none => some (.error (1, i))
def opN (o : Int) : Node := ⟨o, 0, ⟨#[]⟩, ⟨#[]⟩⟩

inductive CL
  | or_ | and_ | add_ | mul_
inductive PF
  | whole | either | both | rel | sum | prod | sign | post | atom
  | chain (L : CL) (acc : List Node)
  | posts (acc : List Node)
  | set (parts : List (List Node))
  | recd (parts : List (List Node)) (last : ByteArray)
def CL.sign : CL → List UInt8 → Option Int
  | .or_, s => if s = [124, 124] then some 12 else none
  | .and_, s => if s = [38, 38] then some 11 else none
  | .add_, s => if s = [43] then some 17 else if s = [45] then some 18 else none
  | .mul_, s => if s = [42] then some 19 else none
def CL.part : CL → PF
  | .or_ => .both | .and_ => .rel | .add_ => .prod | .mul_ => .sign
def postOp (s : List UInt8) : Int :=
  if s = [99, 111, 110, 116, 97, 105, 110, 115] then 25
  else if s = [99, 111, 110, 116, 97, 105, 110, 115, 65, 108, 108] then 26
  else if s = [99, 111, 110, 116, 97, 105, 110, 115, 65, 110, 121] then 27 else 0
def numberP (ts : List Tok) (i : Nat) (minus : List UInt8) : PR :=
  wordP ts i 2 fun s j =>
    match Lib.parseIntB 64 (minus ++ s.data.toList) with
    | .ok v => some (.ok ([⟨2, v, ⟨#[]⟩, ⟨#[]⟩⟩], j))
    | _ => some (.error (5, i))
def namedP (ts : List Tok) (i : Nat) : PR :=
  if isAt ts (i + 1) [58, 58] then wordP ts i 1 fun kind j => wordP ts (j + 1) 3 fun s k => some (.ok ([⟨4, 0, kind, s⟩], k))
  else if isAt ts i [116, 114, 117, 101] then some (.ok ([⟨1, 1, ⟨#[]⟩, ⟨#[]⟩⟩], i + 1))
  else if isAt ts i [102, 97, 108, 115, 101] then some (.ok ([⟨1, 0, ⟨#[]⟩, ⟨#[]⟩⟩], i + 1))
  else wordP ts i 1 fun s j => if reserved s then some (.error (1, i + 1)) else some (.ok ([⟨8, 0, s, ⟨#[]⟩⟩], j))

def strLe (a b : ByteArray) : Bool := Op.bytesLess a.toList b.toList || a.toList == b.toList

def run (ts : List Tok) : Nat → PF → Nat → PR
  | 0, _, _ => none
  | f + 1, .whole, i =>
    if isAt ts i [105, 102] && !isAt ts (i + 1) [58, 58] then
      (run ts f .whole (i + 1)).then fun c j => needP ts j [116, 104, 101, 110] fun j =>
        (run ts f .whole j).then fun a j => needP ts j [101, 108, 115, 101] fun j =>
          (run ts f .whole j).then fun b j => some (.ok (opN 13 :: (c ++ (a ++ b)), j))
    else run ts f .either i
  | f + 1, .either, i => (run ts f .both i).then fun e j => run ts f (.chain .or_ e) j
  | f + 1, .both, i => (run ts f .rel i).then fun e j => run ts f (.chain .and_ e) j
  | f + 1, .sum, i => (run ts f .prod i).then fun e j => run ts f (.chain .add_ e) j
  | f + 1, .prod, i => (run ts f .sign i).then fun e j => run ts f (.chain .mul_ e) j
  | f + 1, .chain L acc, i =>
    match ts[i]? with
    | none => some (.ok (acc, i))
    | some t =>
      if t.kind = 5 then
        match L.sign t.s.toList with
        | none => some (.ok (acc, i))
        | some o => (run ts f L.part (i + 1)).then fun x j => run ts f (.chain L (opN o :: (acc ++ x))) j
      else some (.ok (acc, i))
  | f + 1, .rel, i =>
    (run ts f .sum i).then fun e j =>
      if isAt ts j [61, 61] then (run ts f .sum (j + 1)).then fun x k => some (.ok (opN 14 :: (e ++ x), k))
      else if isAt ts j [60] then (run ts f .sum (j + 1)).then fun x k => some (.ok (opN 15 :: (e ++ x), k))
      else if isAt ts j [60, 61] then (run ts f .sum (j + 1)).then fun x k => some (.ok (opN 16 :: (e ++ x), k))
      else if isAt ts j [105, 110] then (run ts f .sum (j + 1)).then fun x k => some (.ok (opN 20 :: (e ++ x), k))
      else if isAt ts j [104, 97, 115] then wordP ts (j + 1) 1 fun s k => some (.ok (⟨21, 0, s, ⟨#[]⟩⟩ :: e, k))
      else if isAt ts j [105, 115] then wordP ts (j + 1) 1 fun s k => some (.ok (⟨24, 0, s, ⟨#[]⟩⟩ :: e, k))
      else if isAt ts j [108, 105, 107, 101] then wordP ts (j + 1) 3 fun s k => some (.ok (⟨23, 0, s, ⟨#[]⟩⟩ :: e, k))
      else some (.ok (e, j))
  | f + 1, .sign, i =>
    if isAt ts i [33] then (run ts f .sign (i + 1)).then fun x j => some (.ok (opN 9 :: x, j))
    else if isAt ts i [45] && !(kindAt ts (i + 1) == 2) then (run ts f .sign (i + 1)).then fun x j => some (.ok (opN 10 :: x, j))
    else run ts f .post i
  | f + 1, .post, i => (run ts f .atom i).then fun e j => run ts f (.posts e) j
  | f + 1, .posts acc, i =>
    if isAt ts i [46] then
      wordP ts (i + 1) 1 fun s j =>
        if postOp s.toList = 0 || !isAt ts j [40] then run ts f (.posts (⟨22, 0, s, ⟨#[]⟩⟩ :: acc)) j
        else (run ts f .whole (j + 1)).then fun x k => needP ts k [41] fun k => run ts f (.posts (opN (postOp s.toList) :: (acc ++ x))) k
    else some (.ok (acc, i))
  | f + 1, .atom, i =>
    if kindAt ts i = 2 then numberP ts i []
    else if kindAt ts i = 3 then wordP ts i 3 fun s j => some (.ok ([⟨3, 0, s, ⟨#[]⟩⟩], j))
    else if kindAt ts i = 4 then wordP ts i 4 fun s j => some (.ok ([⟨8, 0, ⟨#[63]⟩ ++ s, ⟨#[]⟩⟩], j))
    else if kindAt ts i = 1 then namedP ts i
    else if isAt ts i [45] then numberP ts (i + 1) [45]
    else if isAt ts i [40] then (run ts f .whole (i + 1)).then fun e j => needP ts j [41] fun j => some (.ok (e, j))
    else if isAt ts i [91] then run ts f (.set []) (i + 1)
    else if isAt ts i [123] then run ts f (.recd [] ⟨#[]⟩) (i + 1)
    else some (.error (1, i))
  | f + 1, .set parts, i =>
    if isAt ts i [93] then some (.ok (⟨5, parts.length, ⟨#[]⟩, ⟨#[]⟩⟩ :: parts.flatten, i + 1))
    else if parts.length = 0 then (run ts f .whole i).then fun x j => run ts f (.set (parts ++ [x])) j
    else needP ts i [44] fun i => (run ts f .whole i).then fun x j => run ts f (.set (parts ++ [x])) j
  | f + 1, .recd parts last, i =>
    if isAt ts i [125] then some (.ok (⟨6, parts.length, ⟨#[]⟩, ⟨#[]⟩⟩ :: parts.flatten, i + 1))
    else
      let go : Nat → PR := fun i =>
        wordP ts i 1 fun s j =>
          if strLe s last then some (.error (1, i))
          else needP ts j [58] fun j => (run ts f .whole j).then fun x k => run ts f (.recd (parts ++ [⟨7, 0, s, ⟨#[]⟩⟩ :: x]) s) k
      if parts.length = 0 then go i else needP ts i [44] go

/-! ## more fuel gives the same -/
theorem then_mono {r r' : PR} {k k' : List Node → Nat → PR} {x : PRes} (hr : ∀ y, r = some y → r' = some y) (hk : ∀ ns j y, k ns j = some y → k' ns j = some y) (h : r.then k = some x) : r'.then k' = some x := by
  cases r with
  | none => cases h
  | some y =>
    rw [hr y rfl]
    cases y with
    | error e => exact h
    | ok p => exact hk _ _ _ h
theorem needP_mono {ts : List Tok} {i : Nat} {s : List UInt8} {k k' : Nat → PR} {x : PRes} (hk : ∀ j y, k j = some y → k' j = some y) (h : needP ts i s k = some x) : needP ts i s k' = some x := by
  unfold needP at h ⊢
  split at h
  · rename_i hc; rw [if_pos hc]; exact hk _ _ h
  · rename_i hc; rw [if_neg hc]; exact h
theorem wordP_mono {ts : List Tok} {i : Nat} {c : Int} {k k' : ByteArray → Nat → PR} {x : PRes} (hk : ∀ s j y, k s j = some y → k' s j = some y) (h : wordP ts i c k = some x) : wordP ts i c k' = some x := by
  unfold wordP at h ⊢
  cases ht : ts[i]? with
  | none => rw [ht] at h; exact h
  | some t =>
    rw [ht] at h
    simp only at h ⊢
    split at h
    · rename_i hc; rw [if_pos hc]; exact hk _ _ _ h
    · rename_i hc; rw [if_neg hc]; exact h
theorem ite_mono {c : Prop} [Decidable c] {a b a' b' : PR} {x : PRes} (ha : a = some x → a' = some x) (hb : b = some x → b' = some x) (h : (if c then a else b) = some x) : (if c then a' else b') = some x := by
  split at h
  · rename_i hc; rw [if_pos hc]; exact ha h
  · rename_i hc; rw [if_neg hc]; exact hb h

theorem run_mono (ts : List Tok) : ∀ (f : Nat) (pf : PF) (i : Nat) (x : PRes), run ts f pf i = some x → run ts (f + 1) pf i = some x
  | 0, _, _, _, h => by cases h
  | f + 1, pf, i, x, h => by
    have ih := run_mono ts f
    cases pf with
    | whole =>
      unfold run at h ⊢
      refine ite_mono ?_ ?_ h
      · exact then_mono (ih _ _) fun _ _ _ => needP_mono fun _ _ => then_mono (ih _ _) fun _ _ _ => needP_mono fun _ _ => then_mono (ih _ _) fun _ _ _ h => h
      · exact ih _ _ _
    | either => unfold run at h ⊢; exact then_mono (ih _ _) (fun _ _ => ih _ _) h
    | both => unfold run at h ⊢; exact then_mono (ih _ _) (fun _ _ => ih _ _) h
    | sum => unfold run at h ⊢; exact then_mono (ih _ _) (fun _ _ => ih _ _) h
    | prod => unfold run at h ⊢; exact then_mono (ih _ _) (fun _ _ => ih _ _) h
    | chain L acc =>
      unfold run at h ⊢
      cases ht : ts[i]? with
      | none => rw [ht] at h; exact h
      | some t =>
        rw [ht] at h
        simp only at h ⊢
        refine ite_mono ?_ (fun h => h) h
        cases hs : L.sign t.s.toList with
        | none => exact fun h => h
        | some o => exact then_mono (ih _ _) fun _ _ => ih _ _
    | rel =>
      unfold run at h ⊢
      refine then_mono (ih _ _) (fun e j y => ?_) h
      refine ite_mono (then_mono (ih _ _) fun _ _ _ h => h) ?_
      refine ite_mono (then_mono (ih _ _) fun _ _ _ h => h) ?_
      refine ite_mono (then_mono (ih _ _) fun _ _ _ h => h) ?_
      exact ite_mono (then_mono (ih _ _) fun _ _ _ h => h) (fun h => h)
    | sign =>
      unfold run at h ⊢
      refine ite_mono (then_mono (ih _ _) fun _ _ _ h => h) ?_ h
      exact ite_mono (then_mono (ih _ _) fun _ _ _ h => h) (ih _ _ _)
    | post => unfold run at h ⊢; exact then_mono (ih _ _) (fun _ _ => ih _ _) h
    | posts acc =>
      unfold run at h ⊢
      refine ite_mono (wordP_mono fun s j y => ?_) (fun h => h) h
      exact ite_mono (ih _ _ _) (then_mono (ih _ _) fun _ _ _ => needP_mono fun _ _ => ih _ _ _)
    | atom =>
      unfold run at h ⊢
      refine ite_mono (fun h => h) ?_ h
      refine ite_mono (fun h => h) ?_
      refine ite_mono (fun h => h) ?_
      refine ite_mono (fun h => h) ?_
      refine ite_mono (fun h => h) ?_
      refine ite_mono (then_mono (ih _ _) fun _ _ _ h => h) ?_
      refine ite_mono (ih _ _ _) ?_
      exact ite_mono (ih _ _ _) (fun h => h)
    | set parts =>
      unfold run at h ⊢
      refine ite_mono (fun h => h) ?_ h
      exact ite_mono (then_mono (ih _ _) fun _ _ => ih _ _) (needP_mono fun _ _ => then_mono (ih _ _) fun _ _ => ih _ _)
    | recd parts last =>
      unfold run at h ⊢
      refine ite_mono (fun h => h) ?_ h
      have go : ∀ (i : Nat) (y : PRes), (wordP ts i 1 fun s j => if strLe s last = true then some (.error (1, i)) else needP ts j [58] fun j => (run ts f .whole j).then fun x k => run ts f (.recd (parts ++ [⟨7, 0, s, ⟨#[]⟩⟩ :: x]) s) k) = some y →
          (wordP ts i 1 fun s j => if strLe s last = true then some (.error (1, i)) else needP ts j [58] fun j => (run ts (f + 1) .whole j).then fun x k => run ts (f + 1) (.recd (parts ++ [⟨7, 0, s, ⟨#[]⟩⟩ :: x]) s) k) = some y :=
        fun i y => wordP_mono fun s j y => ite_mono (fun h => h) (needP_mono fun _ _ => then_mono (ih _ _) fun _ _ => ih _ _)
      exact ite_mono (go _ _) (needP_mono go)
theorem run_le {ts : List Tok} {f f' : Nat} {pf : PF} {i : Nat} {x : PRes} (h : run ts f pf i = some x) (hf : f ≤ f') : run ts f' pf i = some x := by
  obtain ⟨d, rfl⟩ : ∃ d, f' = f + d := ⟨f' - f, by omega⟩
  induction d with
  | zero => exact h
  | succ d ih => exact run_mono ts _ _ _ _ (ih (by omega))
end Go.Proofs.YtfaadlfaimhbbaaGreatDoor

namespace Go.Proofs.YtfaadlfaimhbbaaGreatDoor
open Go.RowKit

def OkP (G : List Node → Nat → Prop) (r : PR) : Prop := ∀ ns j, r = some (.ok (ns, j)) → G ns j
theorem OkP.none {G : List Node → Nat → Prop} : OkP G none := fun _ _ h => by cases h
theorem OkP.error {G : List Node → Nat → Prop} {e : Int × Nat} : OkP G (some (.error e)) := fun _ _ h => by cases h
theorem OkP.ok {G : List Node → Nat → Prop} {ns : List Node} {j : Nat} (h : G ns j) : OkP G (some (.ok (ns, j))) := fun _ _ e => by cases e; exact h
theorem OkP.then {G Q : List Node → Nat → Prop} {r : PR} {k : List Node → Nat → PR} (hr : OkP Q r) (hk : ∀ ns j, Q ns j → OkP G (k ns j)) : OkP G (r.then k) := by
  cases r with
  | none => exact .none
  | some y =>
    cases y with
    | error e => exact .error
    | ok p => exact hk _ _ (hr _ _ rfl)
theorem isAt_lt {ts : List Tok} {i : Nat} {s : List UInt8} (h : isAt ts i s = true) : i < ts.length := by
  unfold isAt at h
  cases ht : ts[i]? with
  | none => rw [ht] at h; cases h
  | some t => exact lt_of_some ht
theorem OkP.need {G : List Node → Nat → Prop} {ts : List Tok} {i : Nat} {s : List UInt8} {k : Nat → PR} (hk : i < ts.length → OkP G (k (i + 1))) : OkP G (needP ts i s k) := by
  unfold needP
  split
  · rename_i h; exact hk (isAt_lt h)
  · exact .error
theorem OkP.word {G : List Node → Nat → Prop} {ts : List Tok} {i : Nat} {c : Int} {k : ByteArray → Nat → PR} (hk : ∀ s, i < ts.length → OkP G (k s (i + 1))) : OkP G (wordP ts i c k) := by
  unfold wordP
  cases ht : ts[i]? with
  | none => exact .error
  | some t =>
    simp only
    split
    · exact hk _ (lt_of_some ht)
    · exact .error
theorem OkP.ite {G : List Node → Nat → Prop} {c : Prop} [Decidable c] {a b : PR} (ha : c → OkP G a) (hb : ¬ c → OkP G b) : OkP G (if c then a else b) := by
  split
  · exact ha ‹_›
  · exact hb ‹_›

def PF.base : PF → Nat
  | .chain _ acc => acc.length
  | .posts acc => acc.length
  | .set parts => parts.flatten.length
  | .recd parts _ => parts.flatten.length
  | _ => 0
def PF.least : PF → Nat
  | .chain _ acc => acc.length
  | .posts acc => acc.length
  | _ => 1
def Len (ts : List Tok) (pf : PF) (i : Nat) (ns : List Node) (j : Nat) : Prop := i ≤ j ∧ j ≤ ts.length ∧ ns.length + i ≤ pf.base + j ∧ pf.least ≤ ns.length

theorem number_len {ts : List Tok} {i : Nat} {m : List UInt8} {G : List Node → Nat → Prop} (h : ∀ v, i < ts.length → G [⟨2, v, ⟨#[]⟩, ⟨#[]⟩⟩] (i + 1)) : OkP G (numberP ts i m) := by
  unfold numberP
  refine .word fun s hi => ?_
  cases Lib.parseIntB 64 (m ++ s.data.toList) with
  | ok v => exact .ok (h v hi)
  | _ => exact .error
theorem run_len (ts : List Tok) : ∀ (f : Nat) (pf : PF) (i : Nat), i ≤ ts.length → OkP (Len ts pf i) (run ts f pf i)
  | 0, _, _, _ => .none
  | f + 1, pf, i, hi => by
    have ih := run_len ts f
    cases pf with
    | whole =>
      unfold run
      refine .ite (fun hc => ?_) (fun _ => ih _ _ hi)
      have hlt : i < ts.length := by
        rw [Bool.and_eq_true] at hc
        exact isAt_lt hc.1
      refine .then (ih _ _ (by omega)) fun c j hc => .need fun hj => .then (ih _ _ (by omega)) fun a k ha => .need fun hk => .then (ih _ _ (by omega)) fun b l hb => .ok ?_
      simp only [Len, PF.base, PF.least, List.length_cons, List.length_append] at *
      omega
    | either => unfold run; exact .then (ih _ _ hi) fun e j he n k hk => (by have h := ih (.chain .or_ e) j he.2.1 n k hk; simp only [Len, PF.base, PF.least] at *; omega)
    | both => unfold run; exact .then (ih _ _ hi) fun e j he n k hk => (by have h := ih (.chain .and_ e) j he.2.1 n k hk; simp only [Len, PF.base, PF.least] at *; omega)
    | sum => unfold run; exact .then (ih _ _ hi) fun e j he n k hk => (by have h := ih (.chain .add_ e) j he.2.1 n k hk; simp only [Len, PF.base, PF.least] at *; omega)
    | prod => unfold run; exact .then (ih _ _ hi) fun e j he n k hk => (by have h := ih (.chain .mul_ e) j he.2.1 n k hk; simp only [Len, PF.base, PF.least] at *; omega)
    | chain L acc =>
      unfold run
      cases ht : ts[i]? with
      | none => exact .ok (by simp only [Len, PF.base, PF.least]; omega)
      | some t =>
        have hlt := lt_of_some ht
        simp only
        refine .ite (fun _ => ?_) (fun _ => .ok (by simp only [Len, PF.base, PF.least]; omega))
        cases L.sign t.s.toList with
        | none => exact .ok (by simp only [Len, PF.base, PF.least]; omega)
        | some o =>
          refine .then (ih _ _ (by omega)) fun x j hx n k hk => ?_
          have h := ih _ _ hx.2.1 n k hk
          have hb : L.part.base = 0 := by cases L <;> rfl
          simp only [Len, PF.base, PF.least, List.length_cons, List.length_append] at *
          omega
    | rel =>
      unfold run
      refine .then (ih _ _ hi) fun e j he => ?_
      have bin : ∀ o, j < ts.length → OkP (Len ts .rel i) ((run ts f .sum (j + 1)).then fun x k => some (.ok (opN o :: (e ++ x), k))) := by
        intro o hj
        refine .then (ih _ _ (by omega)) fun x k hx => .ok ?_
        simp only [Len, PF.base, PF.least, List.length_cons, List.length_append] at *
        omega
      have wrd : ∀ o c, OkP (Len ts .rel i) (wordP ts (j + 1) c fun s k => some (.ok (⟨o, 0, s, ⟨#[]⟩⟩ :: e, k))) := by
        intro o c
        refine .word fun s hj => .ok ?_
        simp only [Len, PF.base, PF.least, List.length_cons] at *
        omega
      refine .ite (fun h => bin _ (isAt_lt h)) fun _ => .ite (fun h => bin _ (isAt_lt h)) fun _ => .ite (fun h => bin _ (isAt_lt h)) fun _ => .ite (fun h => bin _ (isAt_lt h)) fun _ => .ite (fun _ => wrd _ _) fun _ => .ite (fun _ => wrd _ _) fun _ => .ite (fun _ => wrd _ _) fun _ => .ok ?_
      simp only [Len, PF.base, PF.least] at *
      omega
    | sign =>
      unfold run
      have un : ∀ o, i < ts.length → OkP (Len ts .sign i) ((run ts f .sign (i + 1)).then fun x j => some (.ok (opN o :: x, j))) := by
        intro o hlt
        refine .then (ih _ _ (by omega)) fun x k hx => .ok ?_
        simp only [Len, PF.base, PF.least, List.length_cons] at *
        omega
      refine .ite (fun h => un _ (isAt_lt h)) fun _ => .ite (fun h => un _ ?_) fun _ => ih _ _ hi
      rw [Bool.and_eq_true] at h
      exact isAt_lt h.1
    | post => unfold run; exact .then (ih _ _ hi) fun e j he n k hk => (by have h := ih (.posts e) j he.2.1 n k hk; simp only [Len, PF.base, PF.least] at *; omega)
    | posts acc =>
      unfold run
      refine .ite (fun _ => .word fun s hlt => .ite (fun _ n k hk => ?_) (fun h => ?_)) (fun _ => .ok ?_)
      · have h := ih _ _ (by omega) n k hk
        simp only [Len, PF.base, PF.least, List.length_cons] at *
        omega
      · have h40 : isAt ts (i + 1 + 1) [40] = true := by
          simp only [Bool.or_eq_true, Bool.not_eq_true', not_or] at h
          simpa using h.2
        have hj := isAt_lt h40
        refine .then (ih _ _ (by omega)) fun x j hx => .need fun hj n k hk => ?_
        have h := ih _ _ (by omega) n k hk
        simp only [Len, PF.base, PF.least, List.length_cons, List.length_append] at *
        omega
      · simp only [Len, PF.base, PF.least]; omega
    | atom =>
      unfold run
      refine .ite (fun _ => number_len fun v h => ?_) fun _ => .ite (fun _ => .word fun s h => .ok ?_) fun _ => .ite (fun _ => .word fun s h => .ok ?_) fun _ => .ite (fun _ => ?_) fun _ => .ite (fun _ => number_len fun v h => ?_) fun _ =>
        .ite (fun hc => ?_) fun _ => .ite (fun hc n k hk => ?_) fun _ => .ite (fun hc n k hk => ?_) fun _ => .error
      · simp only [Len, PF.base, PF.least, List.length_cons, List.length_nil]; omega
      · simp only [Len, PF.base, PF.least, List.length_cons, List.length_nil]; omega
      · simp only [Len, PF.base, PF.least, List.length_cons, List.length_nil]; omega
      · unfold namedP
        refine .ite (fun _ => .word fun s h => .word fun s h => .ok ?_) fun _ => .ite (fun h => .ok ?_) fun _ => .ite (fun h => .ok ?_) fun _ => .word fun s h => .ite (fun _ => .error) fun _ => .ok ?_
        · simp only [Len, PF.base, PF.least, List.length_cons, List.length_nil]; omega
        · have h := isAt_lt h; simp only [Len, PF.base, PF.least, List.length_cons, List.length_nil]; omega
        · have h := isAt_lt h; simp only [Len, PF.base, PF.least, List.length_cons, List.length_nil]; omega
        · simp only [Len, PF.base, PF.least, List.length_cons, List.length_nil]; omega
      · simp only [Len, PF.base, PF.least, List.length_cons, List.length_nil]; omega
      · have h := isAt_lt hc
        refine .then (ih _ _ (by omega)) fun x j hx => .need fun hj => .ok ?_
        simp only [Len, PF.base, PF.least] at *; omega
      · have h := isAt_lt hc
        have h := ih _ _ (by omega) n k hk
        simp only [Len, PF.base, PF.least, List.flatten_nil, List.length_nil] at *; omega
      · have h := isAt_lt hc
        have h := ih _ _ (by omega) n k hk
        simp only [Len, PF.base, PF.least, List.flatten_nil, List.length_nil] at *; omega
    | set parts =>
      unfold run
      have more : ∀ i' , i ≤ i' → i' ≤ ts.length → OkP (Len ts (.set parts) i) ((run ts f .whole i').then fun x j => run ts f (.set (parts ++ [x])) j) := by
        intro i' h1 h2
        refine .then (ih _ _ h2) fun x j hx n k hk => ?_
        have h := ih _ _ hx.2.1 n k hk
        simp only [Len, PF.base, PF.least, List.flatten_append, List.length_append, List.flatten_cons, List.flatten_nil, List.append_nil] at *; omega
      refine .ite (fun hc => .ok ?_) fun _ => .ite (fun _ => more _ (Nat.le_refl _) hi) fun _ => .need fun h => more _ (by omega) (by omega)
      have h := isAt_lt hc
      simp only [Len, PF.base, PF.least, List.length_cons]; omega
    | recd parts last =>
      unfold run
      have more : ∀ i' , i ≤ i' → i' ≤ ts.length → OkP (Len ts (.recd parts last) i) (wordP ts i' 1 fun s j => if strLe s last = true then some (.error (1, i')) else needP ts j [58] fun j => (run ts f .whole j).then fun x k => run ts f (.recd (parts ++ [⟨7, 0, s, ⟨#[]⟩⟩ :: x]) s) k) := by
        intro i' h1 h2
        refine .word fun s h => .ite (fun _ => .error) fun _ => .need fun h3 => .then (ih _ _ (by omega)) fun x j hx n k hk => ?_
        have h := ih _ _ hx.2.1 n k hk
        simp only [Len, PF.base, PF.least, List.flatten_append, List.length_append, List.flatten_cons, List.flatten_nil, List.append_nil, List.length_cons] at *; omega
      refine .ite (fun hc => .ok ?_) fun _ => .ite (fun _ => more _ (Nat.le_refl _) hi) fun _ => .need fun h => more _ (by omega) (by omega)
      have h := isAt_lt hc
      simp only [Len, PF.base, PF.least, List.length_cons]; omega

/-! ## fuel that is enough -/
def SomeP (r : PR) : Prop := r ≠ none
theorem SomeP.yes {x : PRes} : SomeP (some x) := fun h => by cases h
theorem SomeP.then {r : PR} {k : List Node → Nat → PR} (hr : SomeP r) (hk : ∀ ns j, r = some (.ok (ns, j)) → SomeP (k ns j)) : SomeP (r.then k) := by
  cases r with
  | none => exact absurd rfl hr
  | some y =>
    cases y with
    | error e => exact .yes
    | ok p => exact hk _ _ rfl
theorem SomeP.need {ts : List Tok} {i : Nat} {s : List UInt8} {k : Nat → PR} (hk : i < ts.length → SomeP (k (i + 1))) : SomeP (needP ts i s k) := by
  unfold needP
  split
  · rename_i h; exact hk (isAt_lt h)
  · exact .yes
theorem SomeP.word {ts : List Tok} {i : Nat} {c : Int} {k : ByteArray → Nat → PR} (hk : ∀ s, i < ts.length → SomeP (k s (i + 1))) : SomeP (wordP ts i c k) := by
  unfold wordP
  cases ht : ts[i]? with
  | none => exact .yes
  | some t =>
    simp only
    split
    · exact hk _ (lt_of_some ht)
    · exact .yes
theorem SomeP.ite {c : Prop} [Decidable c] {a b : PR} (ha : c → SomeP a) (hb : ¬ c → SomeP b) : SomeP (if c then a else b) := by
  split
  · exact ha ‹_›
  · exact hb ‹_›
theorem SomeP.number {ts : List Tok} {i : Nat} {m : List UInt8} : SomeP (numberP ts i m) := by
  unfold numberP
  refine .word fun s hi => ?_
  cases Lib.parseIntB 64 (m ++ s.data.toList) <;> exact .yes
def PF.lv : PF → Nat
  | .whole => 11 | .either => 10 | .both => 9 | .rel => 8 | .sum => 7 | .prod => 6 | .sign => 5 | .post => 4 | .atom => 3
  | .chain _ _ => 1 | .posts _ => 1 | .set _ => 12 | .recd _ _ => 12
theorem CL.part_lv (L : CL) : L.part.lv ≤ 9 ∧ 5 ≤ L.part.lv ∧ L.part.least = 1 ∧ L.part.base = 0 := by cases L <;> exact ⟨by decide, by decide, rfl, rfl⟩
theorem run_some (ts : List Tok) : ∀ (f : Nat) (pf : PF) (i : Nat), i ≤ ts.length → 16 * (ts.length - i) + pf.lv < f → SomeP (run ts f pf i)
  | 0, _, _, _, h => by omega
  | f + 1, pf, i, hi, hf => by
    have ih := run_some ts f
    have len := fun pf i hi ns j => run_len ts f pf i hi ns j
    cases pf with
    | whole =>
      unfold run
      simp only [PF.lv] at hf
      refine .ite (fun hc => ?_) (fun _ => ih _ _ hi (by simp only [PF.lv]; omega))
      have hlt : i < ts.length := by
        rw [Bool.and_eq_true] at hc
        exact isAt_lt hc.1
      refine .then (ih _ _ (by omega) (by simp only [PF.lv]; omega)) fun c j hc => .need fun hj => ?_
      have h1 := len _ _ (by omega) _ _ hc
      simp only [Len, PF.base, PF.least] at h1
      refine .then (ih _ _ (by omega) (by simp only [PF.lv]; omega)) fun a k ha => .need fun hk => ?_
      have h2 := len _ _ (by omega) _ _ ha
      simp only [Len, PF.base, PF.least] at h2
      exact .then (ih _ _ (by omega) (by simp only [PF.lv]; omega)) fun b l hb => .yes
    | either =>
      unfold run; simp only [PF.lv] at hf
      refine .then (ih _ _ hi (by simp only [PF.lv]; omega)) fun e j he => ?_
      have h := len _ _ hi _ _ he
      simp only [Len, PF.base, PF.least] at h
      exact ih _ _ h.2.1 (by simp only [PF.lv]; omega)
    | both =>
      unfold run; simp only [PF.lv] at hf
      refine .then (ih _ _ hi (by simp only [PF.lv]; omega)) fun e j he => ?_
      have h := len _ _ hi _ _ he
      simp only [Len, PF.base, PF.least] at h
      exact ih _ _ h.2.1 (by simp only [PF.lv]; omega)
    | sum =>
      unfold run; simp only [PF.lv] at hf
      refine .then (ih _ _ hi (by simp only [PF.lv]; omega)) fun e j he => ?_
      have h := len _ _ hi _ _ he
      simp only [Len, PF.base, PF.least] at h
      exact ih _ _ h.2.1 (by simp only [PF.lv]; omega)
    | prod =>
      unfold run; simp only [PF.lv] at hf
      refine .then (ih _ _ hi (by simp only [PF.lv]; omega)) fun e j he => ?_
      have h := len _ _ hi _ _ he
      simp only [Len, PF.base, PF.least] at h
      exact ih _ _ h.2.1 (by simp only [PF.lv]; omega)
    | post =>
      unfold run; simp only [PF.lv] at hf
      refine .then (ih _ _ hi (by simp only [PF.lv]; omega)) fun e j he => ?_
      have h := len _ _ hi _ _ he
      simp only [Len, PF.base, PF.least] at h
      exact ih _ _ h.2.1 (by simp only [PF.lv]; omega)
    | chain L acc =>
      unfold run; simp only [PF.lv] at hf
      cases ht : ts[i]? with
      | none => exact .yes
      | some t =>
        have hlt := lt_of_some ht
        simp only
        refine .ite (fun _ => ?_) (fun _ => .yes)
        cases L.sign t.s.toList with
        | none => exact .yes
        | some o =>
          have hp := L.part_lv
          refine .then (ih _ _ (by omega) (by omega)) fun x j hx => ?_
          have h := len _ _ (by omega) _ _ hx
          simp only [Len] at h
          exact ih _ _ h.2.1 (by simp only [PF.lv]; omega)
    | rel =>
      unfold run; simp only [PF.lv] at hf
      refine .then (ih _ _ hi (by simp only [PF.lv]; omega)) fun e j he => ?_
      have h := len _ _ hi _ _ he
      simp only [Len, PF.base, PF.least] at h
      have bin : ∀ (c : List UInt8) (k : List Node → Nat → PRes), isAt ts j c = true → SomeP ((run ts f .sum (j + 1)).then fun x l => some (k x l)) := by
        intro c k hc
        have hj := isAt_lt hc
        exact .then (ih _ _ (by omega) (by simp only [PF.lv]; omega)) fun _ _ _ => .yes
      exact .ite (bin _ _) fun _ => .ite (bin _ _) fun _ => .ite (bin _ _) fun _ => .ite (bin _ _) fun _ => .ite (fun _ => .word fun _ _ => .yes) fun _ => .ite (fun _ => .word fun _ _ => .yes) fun _ => .ite (fun _ => .word fun _ _ => .yes) fun _ => .yes
    | sign =>
      unfold run; simp only [PF.lv] at hf
      have un : ∀ (k : List Node → Nat → PRes), i < ts.length → SomeP ((run ts f .sign (i + 1)).then fun x l => some (k x l)) := by
        intro k hj
        exact .then (ih _ _ (by omega) (by simp only [PF.lv]; omega)) fun _ _ _ => .yes
      refine .ite (fun h => un _ (isAt_lt h)) fun _ => .ite (fun h => un _ ?_) fun _ => ih _ _ hi (by simp only [PF.lv]; omega)
      rw [Bool.and_eq_true] at h
      exact isAt_lt h.1
    | posts acc =>
      unfold run; simp only [PF.lv] at hf
      refine .ite (fun _ => .word fun s hlt => .ite (fun _ => ih _ _ (by omega) (by simp only [PF.lv]; omega)) (fun h => ?_)) (fun _ => .yes)
      have h40 : isAt ts (i + 1 + 1) [40] = true := by
        simp only [Bool.or_eq_true, Bool.not_eq_true', not_or] at h
        simpa using h.2
      have hj := isAt_lt h40
      refine .then (ih _ _ (by omega) (by simp only [PF.lv]; omega)) fun x j hx => .need fun hj => ?_
      have h := len _ _ (by omega) _ _ hx
      simp only [Len, PF.base, PF.least] at h
      exact ih _ _ (by omega) (by simp only [PF.lv]; omega)
    | atom =>
      unfold run; simp only [PF.lv] at hf
      refine .ite (fun _ => .number) fun _ => .ite (fun _ => .word fun _ _ => .yes) fun _ => .ite (fun _ => .word fun _ _ => .yes) fun _ => .ite (fun _ => ?_) fun _ => .ite (fun _ => .number) fun _ => .ite (fun hc => ?_) fun _ => .ite (fun hc => ?_) fun _ => .ite (fun hc => ?_) fun _ => .yes
      · unfold namedP
        exact .ite (fun _ => .word fun _ _ => .word fun _ _ => .yes) fun _ => .ite (fun _ => .yes) fun _ => .ite (fun _ => .yes) fun _ => .word fun _ _ => .ite (fun _ => .yes) fun _ => .yes
      · have h := isAt_lt hc
        exact .then (ih _ _ (by omega) (by simp only [PF.lv]; omega)) fun _ _ _ => .need fun _ => .yes
      · have h := isAt_lt hc
        exact ih _ _ (by omega) (by simp only [PF.lv]; omega)
      · have h := isAt_lt hc
        exact ih _ _ (by omega) (by simp only [PF.lv]; omega)
    | set parts =>
      unfold run; simp only [PF.lv] at hf
      have more : ∀ i', i ≤ i' → i' ≤ ts.length → SomeP ((run ts f .whole i').then fun x j => run ts f (.set (parts ++ [x])) j) := by
        intro i' h1 h2
        refine .then (ih _ _ h2 (by simp only [PF.lv]; omega)) fun x j hx => ?_
        have h := len _ _ h2 _ _ hx
        simp only [Len, PF.base, PF.least] at h
        exact ih _ _ h.2.1 (by simp only [PF.lv]; omega)
      exact .ite (fun _ => .yes) fun _ => .ite (fun _ => more _ (Nat.le_refl _) hi) fun _ => .need fun h => more _ (by omega) (by omega)
    | recd parts last =>
      unfold run; simp only [PF.lv] at hf
      have more : ∀ i', i ≤ i' → i' ≤ ts.length → SomeP (wordP ts i' 1 fun s j => if strLe s last = true then some (.error (1, i')) else needP ts j [58] fun j => (run ts f .whole j).then fun x k => run ts f (.recd (parts ++ [⟨7, 0, s, ⟨#[]⟩⟩ :: x]) s) k) := by
        intro i' h1 h2
        refine .word fun s h => .ite (fun _ => .yes) fun _ => .need fun h3 => ?_
        refine .then (ih _ _ (by omega) (by simp only [PF.lv]; omega)) fun x j hx => ?_
        have h := len _ _ (by omega) _ _ hx
        simp only [Len, PF.base, PF.least] at h
        exact ih _ _ h.2.1 (by simp only [PF.lv]; omega)
      exact .ite (fun _ => .yes) fun _ => .ite (fun _ => more _ (Nat.le_refl _) hi) fun _ => .need fun h => more _ (by omega) (by omega)
def fuel (ts : List Tok) : Nat := 16 * ts.length + 12
end Go.Proofs.YtfaadlfaimhbbaaGreatDoor

namespace Go.Proofs.YtfaadlfaimhbbaaGreatDoor
open Go.RowKit

def wrongV (e : Int) (i : Int) : Value := .iface 57 (.agg #[.int .i64 e, .int .i64 i])
def VarsAt (w : World) : Prop :=
  (∃ x, w.cell? ⟨7, 0, none⟩ = some x ∧ (x = .nilIface ∨ ∃ t p, x = .iface t p)) ∧ (∃ x, w.cell? ⟨8, 0, none⟩ = some x ∧ (x = .nilIface ∨ ∃ t p, x = .iface t p)) ∧
    7 < w.heap.size ∧ 8 < w.heap.size
/-- What stands in memory where a parser stands at word i. -/
structure Ps (g : Nat) (A : Option Addr) (c : Nat) (ts : List Tok) (i : Nat) (w : World) : Prop where
  blk : Blk w g 60 #[.slice A ts.length c, .int .i64 i]
  toks : ToksAt w A ts
  ne : ∀ b off sp, A = some ⟨b, off, sp⟩ → b ≠ g
  vars : VarsAt w
  above : 7 ≠ g ∧ 8 ≠ g
  le : i ≤ ts.length
  len : ts.length ≤ 300
  small : ∀ t ∈ ts, t.s.size ≤ 100000000
theorem VarsAt.only {g : Nat} {w w' : World} (h : VarsAt w) (ha : 7 ≠ g ∧ 8 ≠ g) (ho : Only g w w') : VarsAt w' := by
  obtain ⟨⟨x, hx, hx'⟩, ⟨y, hy, hy'⟩, h1, h2⟩ := h
  refine ⟨⟨x, ?_, hx'⟩, ⟨y, ?_, hy'⟩, Nat.lt_of_lt_of_le h1 ho.size, Nat.lt_of_lt_of_le h2 ho.size⟩
  · exact (World.cell?_of_block (ho.block _ h1 (fun e => ha.1 (by injection e)))).trans hx
  · exact (World.cell?_of_block (ho.block _ h2 (fun e => ha.2 (by injection e)))).trans hy
section
variable {g : Nat} {A : Option Addr} {c : Nat} {ts : List Tok} {i : Nat} {w : World}
theorem Ps.lt (h : Ps g A c ts i w) : g < w.heap.size := h.blk.lt
theorem Ps.only {w' : World} {j : Nat} (h : Ps g A c ts i w) (ho : Only g w w') (hb : Blk w' g 60 #[.slice A ts.length c, .int .i64 j]) (hj : j ≤ ts.length) : Ps g A c ts j w' :=
  ⟨hb, ho.arr h.toks h.ne, h.ne, h.vars.only h.above ho, h.above, hj, h.len, h.small⟩
theorem Ps.below {w' : World} (h : Ps g A c ts i w) (hb : Below w.heap.size w w') : Ps g A c ts i w' :=
  h.only (Only.ofBelow hb) (h.blk.belowS hb) h.le
theorem Ps.drewN (h : Ps g A c ts i w) (m : Nat) : Ps g A c ts i (w.drewN m) := h.below (below_drewN (Below.refl _ _) m)
theorem Ps.cells (h : Ps g A c ts i w) : w.cell? ⟨g, 0, none⟩ = some (.slice A ts.length c) ∧ w.cell? ⟨g, 1, none⟩ = some (.int .i64 i) ∧ w.frozen? ⟨g, 0, none⟩ = false ∧ w.frozen? ⟨g, 1, none⟩ = false :=
  ⟨h.blk.cell 0, h.blk.cell 1, h.blk.frozen 0, h.blk.frozen 1⟩
/-- One store to the place of the parser. -/
theorem Ps.step (h : Ps g A c ts i w) {j : Nat} (hj : j ≤ ts.length) : Ps g A c ts j (w.setCell ⟨g, 1, none⟩ (.int .i64 j)) :=
  h.only ((Only.refl g w).set_ 1 _) (h.blk.set_ 1 _) hj
end

set_option maxRecDepth 100000 in
set_option maxHeartbeats 1000000 in
theorem fail_c {g : Nat} {A : Option Addr} {c : Nat} {ts : List Tok} {i : Nat} {w : World} (h : Ps g A c ts i w) :
    Calls Tryz.prog 25 #[.pointer (some ⟨g, 0, none⟩)] w fun e w' => e = pan (wrongV 1 i) ∧ w = w' := by
  obtain ⟨c0, c1, f0, f1⟩ := h.cells
  clear h
  go_enter Tryz.func25, Tryz.ntmps25
  go_wp2
  exact ⟨rfl, rfl, rfl⟩

theorem kind_no {ts : List Tok} {i : Nat} (h : ¬ i < ts.length) : kindAt ts i = 0 := by
  unfold kindAt; rw [List.getElem?_eq_none (by omega)]
set_option maxRecDepth 100000 in
set_option maxHeartbeats 1000000 in
theorem kind_c {g : Nat} {A : Option Addr} {c : Nat} {ts : List Tok} {i : Nat} {w : World} (h : Ps g A c ts i w) :
    Calls Tryz.prog 112 #[.pointer (some ⟨g, 0, none⟩)] w fun e w' => e = .returned (.int .i64 (kindAt ts i)) ∧ ∃ m, w' = w.drewN m := by
  obtain ⟨c0, c1, f0, f1⟩ := h.cells
  by_cases hi : i < ts.length
  · obtain ⟨t, ht⟩ : ∃ t, ts[i]? = some t := ⟨_, List.getElem?_eq_getElem hi⟩
    have hk : kindAt ts i = t.kind := by unfold kindAt; rw [ht]
    rw [hk]
    obtain ⟨b, off, rfl, hb, d0, d1, d2⟩ := h.toks.at_ ht
    have hlt : (i : Int) < ts.length := by omega
    have hl := h.len
    have H := Lib.hid h
    clear h ht hk
    go_enter Tryz.func112, Tryz.ntmps112
    go_wp2_with fail
    go_quiet (fail)
    revert nq
    intro n1
    go_wp2_with fail
    go_quiet (fail)
    revert nq
    intro n2
    go_wp2_with fail
    go_ret
    exact ⟨rfl, n1 + n2, World.drewN_drewN _ _ _⟩
  · rw [kind_no hi]
    have hlt : decide ((i : Int) < ts.length) = false := by simp; omega
    have hltn : decide (i < ts.length) = false := by simp; omega
    have hli : ¬ (i : Int) < ts.length := by omega
    have hl := h.len
    clear h hi
    go_enter Tryz.func112, Tryz.ntmps112
    go_wp2_with fail
    go_quiet (fail)
    revert nq
    intro n1
    go_wp2_with fail
    go_ret
    exact ⟨rfl, n1, rfl⟩

theorem isAt_eq {ts : List Tok} {i : Nat} {t : Tok} (ht : ts[i]? = some t) (l : List UInt8) : isAt ts i l = ((t.kind == 1 || t.kind == 5) && t.s.toList == (⟨l.toArray⟩ : ByteArray).toList) := by
  unfold isAt; rw [ht, ByteArray.toList_eq (bs := ⟨l.toArray⟩)]
theorem isAt_no {ts : List Tok} {i : Nat} (h : ¬ i < ts.length) (l : List UInt8) : isAt ts i l = false := by
  unfold isAt; rw [List.getElem?_eq_none (by omega)]
set_option maxRecDepth 100000 in
set_option maxHeartbeats 1000000 in
theorem ahead_c {g : Nat} {A : Option Addr} {c : Nat} {ts : List Tok} {i : Nat} {w : World} (h : Ps g A c ts i w) (n : Nat) (hn : n ≤ 10) (l : List UInt8) :
    Calls Tryz.prog 40 #[.pointer (some ⟨g, 0, none⟩), .int .i64 (n : Int), .string ⟨l.toArray⟩] w fun e w' => e = .returned (.bool (isAt ts (i + n) l)) ∧ Below w.heap.size w w' := by
  obtain ⟨c0, c1, f0, f1⟩ := h.cells
  have hl := h.len
  have hle := h.le
  by_cases hi : i + n < ts.length
  · obtain ⟨t, ht⟩ : ∃ t, ts[i + n]? = some t := ⟨_, List.getElem?_eq_getElem hi⟩
    have hk := isAt_eq ht l
    have HK := Lib.hid hk
    obtain ⟨R, hR⟩ : ∃ R, R = isAt ts (i + n) l := ⟨_, rfl⟩
    rw [← hR] at hk ⊢
    have HR := Lib.hid hk
    obtain ⟨b, off, rfl, hb, d0, d1, d2⟩ := h.toks.at_ ht
    have hlt : ¬ (ts.length : Int) ≤ (i : Int) + n := by omega
    have hge : decide ((ts.length : Int) ≤ (i : Int) + n) = false := by simp; omega
    have hlt2 : (i : Int) + n < ts.length := by omega
    have hle2 : (i : Int) ≤ ts.length := by omega
    have hl2 : (ts.length : Int) ≤ 300 := by omega
    have H := Lib.hid h
    have HT := Lib.hid ht
    clear h ht hk hR
    generalize hS : (⟨l.toArray⟩ : ByteArray) = S at HR
    clear hS
    go_enter Tryz.func40, Tryz.ntmps40
    go_wp2_with fail
    go_quiet (fail)
    revert nq
    intro n1
    have H1 := H.out.drewN n1
    have hbel : Below w.heap.size w (w.drewN n1) := below_drewN (Below.refl _ _) _
    generalize w.drewN n1 = w1 at H1 hbel ⊢
    clear c0 c1 d0 d1 d2 f0 f1
    obtain ⟨c0, c1, f0, f1⟩ := H1.cells
    obtain ⟨b', off', hbo, hb1, d0, d1, d2⟩ := H1.toks.at_ HT.out
    obtain ⟨rfl, rfl⟩ : b = b' ∧ off = off' := by injection hbo with h; injection h with h1 h2; exact ⟨h1, h2⟩
    have a0 : ∀ o, (w1.alloc o).cell? ⟨g, 0, none⟩ = some (.slice (some ⟨b, off, none⟩) ts.length c) := fun o => (World.cell?_alloc_lt _ _ _ H1.lt).trans c0
    have a1 : ∀ o, (w1.alloc o).cell? ⟨g, 1, none⟩ = some (.int .i64 i) := fun o => (World.cell?_alloc_lt _ _ _ H1.lt).trans c1
    have e0 : ∀ o, (w1.alloc o).cell? ⟨b, off + (i + n) * 3, none⟩ = some (.int .i64 t.kind) := fun o => (World.cell?_alloc_lt _ _ _ hb1).trans d0
    have e1 : ∀ o, (w1.alloc o).cell? ⟨b, off + (i + n) * 3 + 1, none⟩ = some (.string t.s) := fun o => (World.cell?_alloc_lt _ _ _ hb1).trans d1
    have e2 : ∀ o, (w1.alloc o).cell? ⟨b, off + (i + n) * 3 + 2, none⟩ = some (.int .i64 t.pos) := fun o => (World.cell?_alloc_lt _ _ _ hb1).trans d2
    have HH1 := Lib.hid H1
    have HBE := Lib.hid hbel
    clear H1 hbel
    go_wp2_with fail
    go_region
    have hr := HR.out
    cases k1 : (t.kind == 1) <;> cases k5 : (t.kind == 5) <;> cases ks : (t.s.toList == S.toList) <;> rw [k1, k5, ks] at hr <;> subst hr
    all_goals go_wp2_with fail
    all_goals go_ret
    all_goals exact ⟨rfl, (HBE.out.alloc HBE.out.size _).drew⟩
  · rw [isAt_no hi]
    have hlt : decide ((ts.length : Int) ≤ (i : Int) + n) = true := by simp; omega
    have hle2 : (i : Int) ≤ ts.length := by omega
    have hl2 : (ts.length : Int) ≤ 300 := by omega
    clear h hi
    go_enter Tryz.func40, Tryz.ntmps40
    go_wp2_with fail
    go_quiet (fail)
    revert nq
    intro n1
    go_wp2_with fail
    go_ret
    exact ⟨rfl, below_drewN (Below.refl _ _) _⟩
end Go.Proofs.YtfaadlfaimhbbaaGreatDoor
