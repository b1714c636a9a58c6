/-
  The document's reader of words: a number, a name, a slot, a quoted text.
  The document's reader of words: a sign; any word.
  The document's reader of words: the words of a line; the law's helper 'quick'.
  PhraseBrackets: the law's walk.
  Arguments that are slices of tokens or of nodes, opened to lists; a witness whose world is shaped; what the listed variables give.
-/
import Derived.Test.YtfaadlfaimhbbaaGreatDoorM6
import Derived.Test.YtfaadlfaimhbbaaGreatDoorRows
import Derived.ProofKit
import Derived.OpenShut
import Derived.LaidMore
import Derived.Lay
import Derived.Stop.Joined
import Derived.JoinedCond
import Derived.Deep.DeepHandedRow
import Derived.Lib.LaidU8
import Derived.Deep.Slices
namespace Go.Proofs.YtfaadlfaimhbbaaGreatDoor
open Go.RowKit

theorem runP_true : runP true = digitI := by funext b; simp [runP]
theorem runP_false : runP false = inNameI := by funext b; simp [runP, inNameI, Bool.or_comm]

/-! ## numbers -/
def Dg (s : ByteArray) (E f : Nat) : List UInt8 := (s.data.toList.take E).drop f
theorem extract_dg (s : ByteArray) (f E : Nat) : (s.extract f E).data.toList = Dg s E f := by
  rw [ByteArray.data_extract, Array.toList_extract, List.extract_eq_take_drop]
  unfold Dg
  rw [List.take_drop]
  by_cases h : f ≤ E
  · congr 2; omega
  · rw [List.drop_eq_nil_of_le (by rw [List.length_take]; omega), List.drop_eq_nil_of_le (by rw [List.length_take]; omega)]
theorem dg_cons {s : ByteArray} {E f : Nat} {x : UInt8} (hx : s.data.toList[f]? = some x) (hf : f < E) : Dg s E f = x :: Dg s E (f + 1) := by
  unfold Dg
  exact drop_at (by rw [List.getElem?_take_of_lt hf]; exact hx)
theorem dg_len {s : ByteArray} {E f : Nat} (hE : E ≤ s.size) : (Dg s E f).length = E - f := by
  unfold Dg
  rw [List.length_drop, List.length_take, ← Lib.size_eq]
  omega
theorem numT_eq (s : ByteArray) (i : Nat) : numT s i = Lib.trimLeftB (Dg s (i + runLen digitI s.data.toList i) i) 48 := by
  unfold numT; rw [extract_dg]
theorem trim_cons48 (l : List UInt8) : Lib.trimLeftB (48 :: l) 48 = Lib.trimLeftB l 48 := by simp [Lib.trimLeftB]
theorem trim_cons_ne {x : UInt8} (l : List UInt8) (h : x ≠ 48) : Lib.trimLeftB (x :: l) 48 = x :: l := by
  have : (x == 48) = false := by simp [h]
  simp [Lib.trimLeftB, this]
/-- Where the leading noughts end: the number's word. -/
theorem number_fin {s : ByteArray} {i E f : Nat} {x : UInt8} (hE : E = i + runLen digitI s.data.toList i) (hEs : E ≤ s.size) (hf : f < E)
    (htr : Lib.trimLeftB (Dg s E i) 48 = Lib.trimLeftB (Dg s E f) 48) (hx : s.data.toList[f]? = some x) (hend : f + 1 = E ∨ x ≠ 48) :
    numberW s i = if 19 < E - f then .bad 4 i else .ok ⟨2, s.extract f E, i⟩ E := by
  have hcons := dg_cons hx hf
  have hlen := dg_len (f := f) hEs
  have hex : s.extract f E = ⟨(Dg s E f).toArray⟩ := by
    apply ByteArray.ext; apply Array.ext'; rw [extract_dg]
  unfold numberW
  rw [numT_eq, ← hE, htr, hex]
  by_cases hx48 : x = 48
  · subst hx48
    have h1 : f + 1 = E := by rcases hend with h | h; exact h; exact absurd rfl h
    have hnil : Dg s E (f + 1) = [] := List.eq_nil_of_length_eq_zero (by rw [dg_len hEs]; omega)
    rw [hcons, hnil, trim_cons48]
    rw [show Lib.trimLeftB [] 48 = ([] : List UInt8) from rfl, if_neg (show ¬ 19 < ([] : List UInt8).length by decide), if_neg (show ¬ 19 < E - f by omega)]
    rfl
  · have htr2 : Lib.trimLeftB (Dg s E f) 48 = Dg s E f := by rw [hcons, trim_cons_ne _ hx48]
    have hne : Dg s E f ≠ [] := by rw [hcons]; simp
    rw [htr2, hlen, if_neg hne]

set_option maxRecDepth 100000 in
set_option maxHeartbeats 2000000 in
theorem rword_digit (s : ByteArray) (i : Nat) (w : World) (hs : s.size ≤ 100000000) (c : UInt8) (hx : s.data.toList[i]? = some c) (hd : digitI c.toNat = true) :
    Calls Tryz.prog 34 #[.string s, .int .i64 (i : Int)] w (RWordPost w (numberW s i)) := by
  have HZ := Lib.hid (Lib.size_eq s)
  have hi : i < s.size := by have := lt_of_some hx; rw [Lib.size_eq]; exact this
  have hi' : (i : Int) < s.size := by omega
  obtain ⟨E, hE⟩ : ∃ E, E = i + runLen digitI s.data.toList i := ⟨_, rfl⟩
  have hEi : i < E := by have := runLen_yes (p := digitI) hx hd; omega
  have hEs : E ≤ s.size := by have := runLen_le digitI s.data.toList i (by rw [← HZ.out]; omega); rw [HZ.out]; omega
  have HRUN : Hid (∀ w, Calls Tryz.prog 57 #[.string s, .int .i64 (i : Int), .bool true] w fun e w' => e = .returned (.int .i64 (E : Int)) ∧ w = w') := by
    intro w
    have := rrun_c s i true w hs (by omega)
    rw [runP_true, ← hE] at this
    exact this
  have hidx := str_index s i c hx
  have HD := Lib.hid (fun w => rdigit_c c.toNat w)
  rw [hd] at HD
  have HE := Lib.hid hE
  have HX := Lib.hid hx
  clear hE hx hd
  go_enter Tryz.func34, Tryz.ntmps34
  go_wp2_with (first
    | (go_at_call 56; refine (HD.out _).mono ?_; rintro e w2 ⟨rfl, rfl⟩)
    | (go_at_call 57; refine (HRUN.out _).mono ?_; rintro e w2 ⟨rfl, rfl⟩))
  refine name_world ?_
  intro w1 hw1
  have hblk : Blk w1 w.heap.size 34 #[.int .i64 0, .string ⟨#[]⟩, .int .i64 0] := by rw [hw1]; exact Blk.new _ _ _
  have hb1 : Below w.heap.size w w1 := by rw [hw1]; exact (Below.refl _ _).alloc (Nat.le_refl _) _
  have HB1 := Lib.hid hb1
  have HBLK := Lib.hid hblk
  obtain ⟨c0, c1, c2, z0, z1, z2⟩ := blk3_of hblk
  clear hw1 hblk hb1 hidx
  go_loop [9] (fun fv => ∃ (f : Nat), i ≤ f ∧ f < E ∧ fv = .int .i64 f ∧ Hid (Lib.trimLeftB (Dg s E i) 48 = Lib.trimLeftB (Dg s E f) 48)) (fun fv => E - (intOf fv).toNat)
  case atStart => exact ⟨i, Nat.le_refl _, hEi, rfl, Lib.hid rfl⟩
  case round =>
    obtain ⟨f, hif, hfE, rfl, htr⟩ := hrel
    obtain ⟨x, hx⟩ : ∃ x, s.data.toList[f]? = some x := ⟨_, List.getElem?_eq_getElem (by rw [← HZ.out]; omega)⟩
    have hidx := str_index s f x hx
    have FIN := Lib.hid (number_fin HE.out hEs hfE htr.out hx)
    have hcons := dg_cons hx hfE
    have HCONS := Lib.hid hcons
    have hle : (f : Int) ≤ s.size := by omega
    have hlt' : (f : Int) < s.size := by omega
    have hfe : (f : Int) ≤ E := by omega
    have hes : (E : Int) ≤ s.size := by omega
    clear hcons hx
    have fin : f + 1 = E ∨ x ≠ 48 → Hid (numberW s i = if 19 < E - f then .bad 4 i else .ok ⟨2, s.extract f E, i⟩ E) := fun h => Lib.hid (FIN.out h)
    have FINH := Lib.hid fin
    clear fin FIN
    by_cases h1 : f + 1 = E
    · have h1' : ¬ (f : Int) < (E : Int) - 1 := by omega
      have hd1 : decide ((f : Int) < (E : Int) - 1) = false := by simp; omega
      have HF := FINH.out (.inl h1)
      clear FINH
      have h19 : ¬ 19 < E - f := by omega
      have h19' : (E : Int) - f ≤ 19 := by omega
      clear h1
      go_wp2_with fail
      refine bodyPost_ret (rword_results rfl _ _ w.heap.size _ _ _ rfl rfl rfl (HBLK.out.three _ _ _) rfl) rfl ?_
      rw [HF.out, if_neg h19]
      exact ⟨rfl, below_three HB1.out _ _ _⟩
    · have h1' : (f : Int) < (E : Int) - 1 := by omega
      have hd1 : decide ((f : Int) < (E : Int) - 1) = true := by simp; omega
      by_cases hx48 : x = 48
      · have e1 : ((x.toNat : Int) == 48) = true := by rw [hx48]; rfl
        have htr2 : Lib.trimLeftB (Dg s E i) 48 = Lib.trimLeftB (Dg s E (f + 1)) 48 := by rw [htr.out, HCONS.out, hx48, trim_cons48]
        have HTR2 := Lib.hid htr2
        clear htr2 hx48 FINH
        go_wp2_with fail
        go_round
        case rel => exact ⟨f + 1, by omega, by omega, by go_num, HTR2⟩
        case measure => simp [intOf]; omega
      · have e1 : ((x.toNat : Int) == 48) = false := u8_ne (by decide) hx48
        have HF := FINH.out (.inr hx48)
        clear FINH hx48
        by_cases h19 : 19 < E - f
        · have h19' : (19 : Int) < (E : Int) - f := by omega
          go_wp2_with fail
          refine bodyPost_ret (rword_results rfl _ _ w.heap.size _ _ _ rfl rfl rfl (HBLK.out.three _ _ _) rfl) rfl ?_
          rw [HF.out, if_pos h19]
          exact ⟨rfl, below_three HB1.out _ _ _⟩
        · have h19' : (E : Int) - f ≤ 19 := by omega
          go_wp2_with fail
          refine bodyPost_ret (rword_results rfl _ _ w.heap.size _ _ _ rfl rfl rfl (HBLK.out.three _ _ _) rfl) rfl ?_
          rw [HF.out, if_neg h19]
          exact ⟨rfl, below_three HB1.out _ _ _⟩

/-! ## names and slots -/
set_option maxRecDepth 100000 in
set_option maxHeartbeats 2000000 in
theorem rword_name (s : ByteArray) (i : Nat) (w : World) (hs : s.size ≤ 100000000) (c : UInt8) (hx : s.data.toList[i]? = some c) (hd : digitI c.toNat = false) (hn : inNameI c.toNat = true) :
    Calls Tryz.prog 34 #[.string s, .int .i64 (i : Int)] w (RWordPost w (namedW 1 s i i)) := by
  have hl : letterI c.toNat = true := by unfold inNameI at hn; rw [hd, Bool.or_false] at hn; exact hn
  have HZ := Lib.hid (Lib.size_eq s)
  have hi : i < s.size := by have := lt_of_some hx; rw [Lib.size_eq]; exact this
  have hi' : (i : Int) < s.size := by omega
  obtain ⟨E, hE⟩ : ∃ E, E = i + runLen inNameI s.data.toList i := ⟨_, rfl⟩
  have hEi : i ≤ E := by omega
  have hEs : E ≤ s.size := by have := runLen_le inNameI s.data.toList i (by rw [← HZ.out]; omega); rw [HZ.out]; omega
  have HRUN : Hid (∀ w, Calls Tryz.prog 57 #[.string s, .int .i64 (i : Int), .bool false] w fun e w' => e = .returned (.int .i64 (E : Int)) ∧ w = w') := by
    intro w
    have := rrun_c s i false w hs (by omega)
    rw [runP_false, ← hE] at this
    exact this
  have hidx := str_index s i c hx
  have HD := Lib.hid (fun w => rdigit_c c.toNat w)
  rw [hd] at HD
  have HL := Lib.hid (fun w => rletter_c c.toNat w)
  rw [hl] at HL
  obtain ⟨X, hX⟩ : ∃ X, X = s.extract i E := ⟨_, rfl⟩
  have hXs : X.size ≤ 100000000 := by rw [hX, ByteArray.size_extract]; omega
  have hNF : namedW 1 s i i = if nameErrB X = 0 then .ok ⟨1, X, i⟩ E else .bad (nameErrB X) i := by unfold namedW; rw [hX, hE]
  have HNF := Lib.hid hNF
  have HX2 := Lib.hid hX
  have HCK := Lib.hid (fun w => nameFault_c X w hXs)
  have hie : (i : Int) ≤ E := by omega
  have hes : (E : Int) ≤ s.size := by omega
  have h63 : ((c.toNat : Int) == 63) = false := by
    rw [beq_eq_false_iff_ne]; intro h; unfold letterI at hl; simp only [decide_eq_true_eq] at hl; omega
  clear hE hx hd hn hl hNF hX hXs
  go_enter Tryz.func34, Tryz.ntmps34
  go_wp2_with (first
    | (go_at_call 56; refine (HD.out _).mono ?_; rintro e w2 ⟨rfl, rfl⟩)
    | (go_at_call 58; refine (HL.out _).mono ?_; rintro e w2 ⟨rfl, rfl⟩)
    | (go_at_call 57; refine (HRUN.out _).mono ?_; rintro e w2 ⟨rfl, rfl⟩))
  rw [← HX2.out]
  refine (HCK.out _).mono ?_
  rintro e w2 ⟨rfl, rfl⟩
  by_cases h0 : nameErrB X = 0
  · have h0' : (nameErrB X != 0) = false := by rw [h0]; rfl
    have H0 := Lib.hid h0
    clear h0
    go_wp2_with fail
    refine bodyPost_ret (rword_results rfl _ _ w.heap.size _ _ _ rfl rfl rfl (Blk.new w _ _) rfl) rfl ?_
    rw [HNF.out, if_pos H0.out, HX2.out]
    exact ⟨rfl, (Below.refl _ _).alloc (Nat.le_refl _) _⟩
  · have h0' : (nameErrB X != 0) = true := by simp [h0]
    have H0 := Lib.hid h0
    clear h0
    go_wp2_with fail
    refine bodyPost_ret (rword_results rfl _ _ w.heap.size _ _ _ rfl rfl rfl (Blk.new w _ _) rfl) rfl ?_
    rw [HNF.out, if_neg H0.out]
    exact ⟨rfl, (Below.refl _ _).alloc (Nat.le_refl _) _⟩

set_option maxRecDepth 100000 in
set_option maxHeartbeats 2000000 in
theorem rword_slot (s : ByteArray) (i : Nat) (w : World) (hs : s.size ≤ 100000000) (hx : s.data.toList[i]? = some 63) :
    Calls Tryz.prog 34 #[.string s, .int .i64 (i : Int)] w (RWordPost w (namedW 4 s (i + 1) i)) := by
  have HZ := Lib.hid (Lib.size_eq s)
  have hi : i < s.size := by have := lt_of_some hx; rw [Lib.size_eq]; exact this
  have hi' : (i : Int) < s.size := by omega
  obtain ⟨E, hE⟩ : ∃ E, E = i + 1 + runLen inNameI s.data.toList (i + 1) := ⟨_, rfl⟩
  have hEi : i + 1 ≤ E := by omega
  have hEs : E ≤ s.size := by have := runLen_le inNameI s.data.toList (i + 1) (by rw [← HZ.out]; omega); rw [HZ.out]; omega
  have HRUN : Hid (∀ w, Calls Tryz.prog 57 #[.string s, .int .i64 ((i : Int) + 1), .bool false] w fun e w' => e = .returned (.int .i64 (E : Int)) ∧ w = w') := by
    intro w
    have := rrun_c s (i + 1) false w hs (by omega)
    rw [runP_false, ← hE] at this
    exact this
  have hidx : ∀ w, (Instr.index 9 (.string s) (.int .i64 (i : Int))).run Tryz.prog w = .ok (.int .u8 63) w := str_index s i 63 hx
  have HD : Hid (∀ w, Calls Tryz.prog 56 #[.int .u8 63] w fun e w' => e = .returned (.bool false) ∧ w = w') := fun w => rdigit_c 63 w
  have HL : Hid (∀ w, Calls Tryz.prog 58 #[.int .u8 63] w fun e w' => e = .returned (.bool false) ∧ w = w') := fun w => rletter_c 63 w
  obtain ⟨X, hX⟩ : ∃ X, X = s.extract (i + 1) E := ⟨_, rfl⟩
  have hXs : X.size ≤ 100000000 := by rw [hX, ByteArray.size_extract]; omega
  have hNF : namedW 4 s (i + 1) i = if nameErrB X = 0 then .ok ⟨4, X, i⟩ E else .bad (nameErrB X) i := by unfold namedW; rw [hX, hE]
  have HNF := Lib.hid hNF
  have HX2 := Lib.hid hX
  have HCK := Lib.hid (fun w => nameFault_c X w hXs)
  have hie : (i : Int) + 1 ≤ E := by omega
  have hes : (E : Int) ≤ s.size := by omega
  clear hE hx hNF hX hXs
  go_enter Tryz.func34, Tryz.ntmps34
  go_wp2_with (first
    | (go_at_call 56; refine (HD.out _).mono ?_; rintro e w2 ⟨rfl, rfl⟩)
    | (go_at_call 58; refine (HL.out _).mono ?_; rintro e w2 ⟨rfl, rfl⟩)
    | (go_at_call 57; refine (HRUN.out _).mono ?_; rintro e w2 ⟨rfl, rfl⟩))
  rw [← HX2.out]
  refine (HCK.out _).mono ?_
  rintro e w2 ⟨rfl, rfl⟩
  by_cases h0 : nameErrB X = 0
  · have h0' : (nameErrB X != 0) = false := by rw [h0]; rfl
    have H0 := Lib.hid h0
    clear h0
    go_wp2_with fail
    refine bodyPost_ret (rword_results rfl _ _ w.heap.size _ _ _ rfl rfl rfl (Blk.new w _ _) rfl) rfl ?_
    rw [HNF.out, if_pos H0.out, HX2.out]
    exact ⟨rfl, (Below.refl _ _).alloc (Nat.le_refl _) _⟩
  · have h0' : (nameErrB X != 0) = true := by simp [h0]
    have H0 := Lib.hid h0
    clear h0
    go_wp2_with fail
    refine bodyPost_ret (rword_results rfl _ _ w.heap.size _ _ _ rfl rfl rfl (Blk.new w _ _) rfl) rfl ?_
    rw [HNF.out, if_neg H0.out]
    exact ⟨rfl, (Below.refl _ _).alloc (Nat.le_refl _) _⟩

/-! ## quoted -/
set_option maxRecDepth 100000 in
set_option maxHeartbeats 2000000 in
theorem rword_quoted (s : ByteArray) (i : Nat) (w : World) (hs : s.size ≤ 100000000) (hx : s.data.toList[i]? = some 34) :
    Calls Tryz.prog 34 #[.string s, .int .i64 (i : Int)] w (RWordPost w (quotedW s i)) := by
  have hi : i < s.size := by have := lt_of_some hx; rw [Lib.size_eq]; exact this
  have hi' : (i : Int) < s.size := by omega
  have hidx : ∀ w, (Instr.index 9 (.string s) (.int .i64 (i : Int))).run Tryz.prog w = .ok (.int .u8 34) w := str_index s i 34 hx
  have HD : Hid (∀ w, Calls Tryz.prog 56 #[.int .u8 34] w fun e w' => e = .returned (.bool false) ∧ w = w') := fun w => rdigit_c 34 w
  have HL : Hid (∀ w, Calls Tryz.prog 58 #[.int .u8 34] w fun e w' => e = .returned (.bool false) ∧ w = w') := fun w => rletter_c 34 w
  have HQ := Lib.hid (fun w => rquoted_c s i w hs hi)
  clear hx
  obtain ⟨R, hR⟩ : ∃ R, R = quotedW s i := ⟨_, rfl⟩
  rw [← hR] at HQ ⊢
  clear hR
  go_enter Tryz.func34, Tryz.ntmps34
  go_wp2_with (first
    | (go_at_call 56; refine (HD.out _).mono ?_; rintro e w2 ⟨rfl, rfl⟩)
    | (go_at_call 58; refine (HL.out _).mono ?_; rintro e w2 ⟨rfl, rfl⟩))
  refine (HQ.out _).mono ?_
  intro e w2 hp
  have hB0 : Below w.heap.size w (w.alloc (.cells #[.int .i64 0, .string ⟨#[]⟩, .int .i64 0] 34)) := (Below.refl _ _).alloc (Nat.le_refl _) _
  have hN0 := Blk.new w 34 #[.int .i64 0, .string ⟨#[]⟩, .int .i64 0]
  cases R with
  | ok t n =>
    obtain ⟨he, hb⟩ := hp
    rw [Tok.val] at he
    subst he
    have HB := Lib.hid (hB0.trans (hb.mono (by simp)))
    have hN := hN0.belowS hb
    have HN := Lib.hid hN
    obtain ⟨c0, c1, c2, z0, z1, z2⟩ := blk3_of hN
    clear hN hb hB0 hN0
    go_wp2_with fail
    refine bodyPost_ret (rword_results rfl _ _ w.heap.size _ _ _ rfl rfl rfl (HN.out.three _ _ _) rfl) rfl ?_
    exact ⟨rfl, below_three HB.out _ _ _⟩
  | bad er k =>
    obtain ⟨he, hb⟩ := hp
    rw [tokZ] at he
    subst he
    have HB := Lib.hid (hB0.trans (hb.mono (by simp)))
    have hN := hN0.belowS hb
    have HN := Lib.hid hN
    obtain ⟨c0, c1, c2, z0, z1, z2⟩ := blk3_of hN
    clear hN hb hB0 hN0
    go_wp2_with fail
    refine bodyPost_ret (rword_results rfl _ _ w.heap.size _ _ _ rfl rfl rfl (HN.out.three _ _ _) rfl) rfl ?_
    exact ⟨rfl, below_three HB.out _ _ _⟩
end Go.Proofs.YtfaadlfaimhbbaaGreatDoor

namespace Go.Proofs.YtfaadlfaimhbbaaGreatDoor
open Go.RowKit

def refSigns : List (List UInt8) := [[40], [41], [91], [93], [123], [125], [44], [58], [46], [58, 58], [61, 61], [60], [60, 61], [38, 38], [124, 124], [33], [43], [45], [42]]
def stepF (p : List UInt8 → Bool) (f x : List UInt8) : List UInt8 := if p x && decide (f.length < x.length) then x else f
def foundF (p : List UInt8 → Bool) (k : Nat) : List UInt8 := (refSigns.take k).foldl (stepF p) []
theorem foundF_succ {p : List UInt8 → Bool} {k : Nat} {x : List UInt8} (hx : refSigns[k]? = some x) : foundF p (k + 1) = stepF p (foundF p k) x := by
  unfold foundF
  rw [take_one hx, List.foldl_append]; rfl
theorem begins_prefix (l m : List UInt8) (i : Nat) : beginsL l m i = Lib.hasPrefix (l.drop i) m := by
  rw [← Lib.hasPrefix_of_take]
  unfold beginsL
  by_cases h : (l.drop i).take m.length = m
  · have hl : m.length ≤ (l.drop i).length := by
      have := congrArg List.length h
      rw [List.length_take] at this; omega
    rw [decide_eq_true h, decide_eq_true hl, h]; simp
  · rw [decide_eq_false h]
    simp [h]
theorem pre_one (c a : UInt8) (r : List UInt8) : Lib.hasPrefix (c :: r) [a] = (a == c) := by simp [Lib.hasPrefix, List.isPrefixOf]
theorem pre_two (c a b : UInt8) (r : List UInt8) : Lib.hasPrefix (c :: r) [a, b] = (a == c && (match r with | [] => false | d :: _ => b == d)) := by
  cases r <;> simp [Lib.hasPrefix, List.isPrefixOf]
def pM (c : UInt8) (q1 q2 q3 q4 : Bool) (x : List UInt8) : Bool :=
  match x with
  | [a] => a == c
  | [a, b] => a == c && (if b = 58 then q1 else if b = 61 then q2 else if b = 38 then q3 else if b = 124 then q4 else false)
  | _ => false
def keyF (c : UInt8) (q1 q2 q3 q4 : Bool) : Bool := decide (foundF (pM c q1 q2 q3 q4) 19 = (signsL.find? (pM c q1 q2 q3 q4)).getD [])
theorem key_all : ((List.range 256).all fun n => [true, false].all fun q1 => [true, false].all fun q2 => [true, false].all fun q3 => [true, false].all fun q4 => keyF (UInt8.ofNat n) q1 q2 q3 q4) = true := by decide +kernel
theorem key_one (c : UInt8) (q1 q2 q3 q4 : Bool) : foundF (pM c q1 q2 q3 q4) 19 = (signsL.find? (pM c q1 q2 q3 q4)).getD [] := by
  have h := List.all_eq_true.1 key_all c.toNat (by simpa using c.toNat_lt)
  have hb : ∀ q : Bool, q ∈ [true, false] := by decide
  have h1 := List.all_eq_true.1 h q1 (hb _)
  have h2 := List.all_eq_true.1 h1 q2 (hb _)
  have h3 := List.all_eq_true.1 h2 q3 (hb _)
  have h4 := List.all_eq_true.1 h3 q4 (hb _)
  rw [show UInt8.ofNat c.toNat = c by simp] at h4
  exact of_decide_eq_true h4
theorem foldl_step_congr {p p' : List UInt8 → Bool} : ∀ (L : List (List UInt8)) (f : List UInt8), (∀ x ∈ L, p x = p' x) → L.foldl (stepF p) f = L.foldl (stepF p') f
  | [], _, _ => rfl
  | x :: L, f, h => by
    rw [List.foldl_cons, List.foldl_cons, foldl_step_congr L _ (fun y hy => h y (List.mem_cons_of_mem _ hy))]
    unfold stepF
    rw [h x (List.mem_cons_self ..)]
theorem find_congr {p p' : List UInt8 → Bool} : ∀ (L : List (List UInt8)), (∀ x ∈ L, p x = p' x) → L.find? p = L.find? p'
  | [], _ => rfl
  | x :: L, h => by
    rw [List.find?_cons, List.find?_cons, h x (List.mem_cons_self ..), find_congr L (fun y hy => h y (List.mem_cons_of_mem _ hy))]
theorem found_sign (l : List UInt8) : foundF (Lib.hasPrefix l) 19 = signOf l := by
  cases l with
  | nil => rfl
  | cons c r =>
    obtain ⟨m, hm⟩ : ∃ m : UInt8 → Bool, m = fun b => (match r with | [] => false | d :: _ => b == d) := ⟨_, rfl⟩
    have h2 : ∀ a b, Lib.hasPrefix (c :: r) [a, b] = (a == c && m b) := fun a b => by rw [pre_two, hm]
    have h1 : ∀ a, Lib.hasPrefix (c :: r) [a] = (a == c) := fun a => pre_one c a r
    have ag : ∀ x ∈ refSigns, Lib.hasPrefix (c :: r) x = pM c (m 58) (m 61) (m 38) (m 124) x := by
      intro x hx
      simp only [refSigns, List.mem_cons, List.not_mem_nil, or_false] at hx
      rcases hx with rfl | rfl | rfl | rfl | rfl | rfl | rfl | rfl | rfl | rfl | rfl | rfl | rfl | rfl | rfl | rfl | rfl | rfl | rfl
      all_goals first | (rw [h1]; rfl) | (rw [h2]; rfl)
    have ag2 : ∀ x ∈ signsL, Lib.hasPrefix (c :: r) x = pM c (m 58) (m 61) (m 38) (m 124) x := by
      intro x hx
      simp only [signsL, List.mem_cons, List.not_mem_nil, or_false] at hx
      rcases hx with rfl | rfl | rfl | rfl | rfl | rfl | rfl | rfl | rfl | rfl | rfl | rfl | rfl | rfl | rfl | rfl | rfl | rfl | rfl
      all_goals first | (rw [h1]; rfl) | (rw [h2]; rfl)
    unfold signOf
    rw [find_congr signsL ag2, ← key_one]
    unfold foundF
    exact foldl_step_congr _ _ (fun x hx => ag x (List.mem_of_mem_take hx))

def signsC : ByteArray := ⟨#[40, 32, 32, 41, 32, 32, 91, 32, 32, 93, 32, 32, 123, 32, 32, 125, 32, 32, 44, 32, 32, 58, 32, 32, 46, 32, 32, 58, 58, 32, 61, 61, 32, 60, 32, 32, 60, 61, 32, 38, 38, 32, 124, 124, 32, 33, 32, 32, 43, 32, 32, 45, 32, 32, 42, 32, 32]⟩
def tabOk (k : Nat) : Bool :=
  match refSigns[k]? with
  | none => false
  | some x =>
    let X := signsC.extract (3 * k) (3 * k + 2)
    X.size == 2 && (x.length == 1 || x.length == 2) && (match X.data.toList[1]? with
      | none => false
      | some b => if b = 32 then decide (X.extract 0 1 = ⟨x.toArray⟩) else decide (X = ⟨x.toArray⟩))
theorem tab_all : (List.range 19).all tabOk = true := by decide +kernel
theorem sign_tab {k : Nat} (hk : k < 19) {x : List UInt8} (hx : refSigns[k]? = some x) :
    ∃ X b, signsC.extract (3 * k) (3 * k + 2) = X ∧ X.size = 2 ∧ X.data.toList[1]? = some b ∧ ((b = 32 ∧ X.extract 0 1 = ⟨x.toArray⟩) ∨ (b ≠ 32 ∧ X = ⟨x.toArray⟩)) ∧ x.length ≤ 2 := by
  have h : tabOk k = true := (List.all_eq_true.1 tab_all) k (by simpa using hk)
  unfold tabOk at h
  rw [hx] at h
  simp only [Bool.and_eq_true, Bool.or_eq_true, beq_iff_eq] at h
  obtain ⟨⟨h1, h2⟩, h3⟩ := h
  cases hb : (signsC.extract (3 * k) (3 * k + 2)).data.toList[1]? with
  | none => rw [hb] at h3; cases h3
  | some b =>
    rw [hb] at h3
    simp only at h3
    refine ⟨_, b, rfl, h1, hb, ?_, by omega⟩
    by_cases h32 : b = 32
    · rw [if_pos h32] at h3; exact .inl ⟨h32, of_decide_eq_true h3⟩
    · rw [if_neg h32] at h3; exact .inr ⟨h32, of_decide_eq_true h3⟩

set_option maxRecDepth 100000 in
set_option maxHeartbeats 4000000 in
theorem rword_sign (s : ByteArray) (i : Nat) (w : World) (hs : s.size ≤ 100000000) (c : UInt8) (hx : s.data.toList[i]? = some c) (hd : digitI c.toNat = false) (hn : inNameI c.toNat = false) (hq3 : c ≠ 34) (hq4 : c ≠ 63) :
    Calls Tryz.prog 34 #[.string s, .int .i64 (i : Int)] w (RWordPost w (signW s i)) := by
  have hi : i < s.size := by have := lt_of_some hx; rw [Lib.size_eq]; exact this
  have hi' : (i : Int) < s.size := by omega
  have hidx := str_index s i c hx
  have HD := Lib.hid (fun w => rdigit_c c.toNat w)
  rw [hd] at HD
  have HL := Lib.hid (fun w => rletter_c c.toNat w)
  have hl : letterI c.toNat = false := by unfold inNameI at hn; rw [hd, Bool.or_false] at hn; exact hn
  rw [hl] at HL
  have hq1 : ((c.toNat : Int) == 34) = false := u8_ne (by decide) hq3
  have hq2 : ((c.toNat : Int) == 63) = false := u8_ne (by decide) hq4
  obtain ⟨P, hP⟩ : ∃ P, P = Lib.hasPrefix (s.data.toList.drop i) := ⟨_, rfl⟩
  have HB : Hid (∀ (x : ByteArray) (w : World), x.size ≤ 2 → Calls Tryz.prog 60 #[.string s, .int .i64 (i : Int), .string x] w fun e w' => e = .returned (.bool (P x.data.toList)) ∧ ∃ m, w' = w.drewN m) := by
    intro x w hx2
    have := begins_c s x i w hs (by omega) (by omega)
    rw [begins_prefix, ← hP] at this
    exact this
  have HF := Lib.hid (found_sign (s.data.toList.drop i))
  rw [← hP] at HF
  clear hd hn hl hq3 hq4 hx hP
  go_enter Tryz.func34, Tryz.ntmps34
  go_wp2_with (first
    | (go_at_call 56; refine (HD.out _).mono ?_; rintro e w2 ⟨rfl, rfl⟩)
    | (go_at_call 58; refine (HL.out _).mono ?_; rintro e w2 ⟨rfl, rfl⟩))
  rw [show ({ data := #[40, 32, 32, 41, 32, 32, 91, 32, 32, 93, 32, 32, 123, 32, 32, 125, 32, 32, 44, 32, 32, 58, 32, 32, 46, 32, 32, 58, 58, 32, 61, 61, 32, 60, 32, 32, 60, 61, 32, 38, 38, 32, 124, 124, 32, 33, 32, 32, 43, 32, 32, 45, 32, 32, 42, 32, 32] } : ByteArray) = signsC from rfl]
  have HSC := Lib.hid (show signsC.size = 57 from rfl)
  generalize hSG : signsC = SG
  have HSG := Lib.hid hSG
  rw [hSG] at HSC
  clear hSG
  have hsc : SG.size = 57 := HSC.out
  refine name_world ?_
  intro w1 hw1
  have hblk : Blk w1 w.heap.size 34 #[.int .i64 0, .string ⟨#[]⟩, .int .i64 0] := by rw [hw1]; exact Blk.new _ _ _
  have hb1 : Below w.heap.size w w1 := by rw [hw1]; exact (Below.refl _ _).alloc (Nat.le_refl _) _
  have HB1 := Lib.hid hb1
  have HBLK := Lib.hid hblk
  obtain ⟨c0, c1, c2, z0, z1, z2⟩ := blk3_of hblk
  clear hw1 hblk hb1 hidx
  go_loopw [15, 16] (fun fv iv wr => ∃ (k m : Nat) (f : ByteArray), k ≤ 19 ∧ fv = .string f ∧ iv = .int .i64 ((3 * k : Nat) : Int) ∧ wr = w1.drewN m ∧ Hid (f.data.toList = foundF P k) ∧ f.size ≤ 2) (fun _ iv _ => 57 - (intOf iv).toNat)
  case atStart => exact ⟨0, 0, ⟨#[]⟩, Nat.zero_le _, rfl, rfl, rfl, Lib.hid rfl, by decide⟩
  case round =>
    obtain ⟨k, m, f, hk, rfl, rfl, rfl, hf, hf2⟩ := hrel
    by_cases hlt : k < 19
    · obtain ⟨x, hx⟩ : ∃ x, refSigns[k]? = some x := ⟨_, List.getElem?_eq_getElem hlt⟩
      have htab := sign_tab hlt hx
      rw [HSG.out] at htab
      obtain ⟨X, b, hcut, hX2, hb, hor, hx2⟩ := htab
      have hidb : ∀ w, (Instr.index 9 (.string X) (.int .i64 1)).run Tryz.prog w = .ok (.int .u8 (b.toNat : Int)) w := str_index X 1 b hb
      obtain ⟨T, hT, hTs⟩ : ∃ T : ByteArray, T = ⟨x.toArray⟩ ∧ T.size = x.length := ⟨_, rfl, by simp [ByteArray.size]⟩
      rw [← hT] at hor
      have hT2 : T.size ≤ 2 := by omega
      have HBT := HB.out T
      rw [show T.data.toList = x by rw [hT]] at HBT
      have hnext : ∀ f', f' = stepF P (foundF P k) x → Hid (f' = foundF P (k + 1)) := fun f' h => Lib.hid (by rw [h, foundF_succ hx])
      have HNEXT := Lib.hid hnext
      obtain ⟨j, hj⟩ : ∃ j, j = 3 * k := ⟨_, rfl⟩
      rw [← hj] at hcut ⊢
      have hj57 : j + 2 ≤ 57 := by omega
      have hj57' : (j : Int) < 57 := by omega
      have HJ := Lib.hid hj
      have HT := Lib.hid hT
      have HTS := Lib.hid hTs
      have hfl : f.size = (foundF P k).length := by rw [← hf.out, Lib.size_eq]
      have HFL := Lib.hid hfl
      clear hx hT hTs hb hnext hj hfl
      rcases hor with ⟨hb32, hXT⟩ | ⟨hb32, hXT⟩
      · have e32 : ((b.toNat : Int) == 32) = true := by rw [hb32]; rfl
        clear hb32
        go_wp2_with fail
        refine (HBT _ hT2).mono ?_
        rintro e w2 ⟨rfl, m2, rfl⟩
        cases hpx : P x with
        | false =>
          have hst := HNEXT.out (foundF P k) (by unfold stepF; rw [hpx]; rfl)
          clear HNEXT hpx
          go_wp2_with fail
          go_roundw
          case rel => exact ⟨k + 1, m + m2, f, by omega, rfl, by rw [show (j : Int) + 3 = ((3 * (k + 1) : Nat) : Int) by have := HJ.out; omega], by simp, Lib.hid (by rw [hf.out]; exact hst.out), hf2⟩
          case measure => simp [intOf]; omega
        | true =>
          by_cases hlen : f.size < T.size
          · have hlen' : (f.size : Int) < T.size := by omega
            have hst := HNEXT.out x (by unfold stepF; rw [hpx, ← HFL.out, ← HTS.out, decide_eq_true hlen]; rfl)
            clear HNEXT hpx
            go_wp2_with fail
            go_roundw
            case rel => exact ⟨k + 1, m + m2, T, by omega, rfl, by rw [show (j : Int) + 3 = ((3 * (k + 1) : Nat) : Int) by have := HJ.out; omega], by simp, Lib.hid (by rw [HT.out]; exact hst.out), hT2⟩
            case measure => simp [intOf]; omega
          · have hlen' : (T.size : Int) ≤ f.size := by omega
            have hst := HNEXT.out (foundF P k) (by unfold stepF; rw [hpx, ← HFL.out, ← HTS.out, decide_eq_false hlen]; rfl)
            clear HNEXT hpx
            go_wp2_with fail
            go_roundw
            case rel => exact ⟨k + 1, m + m2, f, by omega, rfl, by rw [show (j : Int) + 3 = ((3 * (k + 1) : Nat) : Int) by have := HJ.out; omega], by simp, Lib.hid (by rw [hf.out]; exact hst.out), hf2⟩
            case measure => simp [intOf]; omega
      · have e32 : ((b.toNat : Int) == 32) = false := u8_ne (by decide) hb32
        obtain rfl : T = X := hXT.symm
        clear hb32
        go_wp2_with fail
        refine (HBT _ hT2).mono ?_
        rintro e w2 ⟨rfl, m2, rfl⟩
        cases hpx : P x with
        | false =>
          have hst := HNEXT.out (foundF P k) (by unfold stepF; rw [hpx]; rfl)
          clear HNEXT hpx
          go_wp2_with fail
          go_roundw
          case rel => exact ⟨k + 1, m + m2, f, by omega, rfl, by rw [show (j : Int) + 3 = ((3 * (k + 1) : Nat) : Int) by have := HJ.out; omega], by simp, Lib.hid (by rw [hf.out]; exact hst.out), hf2⟩
          case measure => simp [intOf]; omega
        | true =>
          by_cases hlen : f.size < T.size
          · have hlen' : (f.size : Int) < T.size := by omega
            have hst := HNEXT.out x (by unfold stepF; rw [hpx, ← HFL.out, ← HTS.out, decide_eq_true hlen]; rfl)
            clear HNEXT hpx
            go_wp2_with fail
            go_roundw
            case rel => exact ⟨k + 1, m + m2, T, by omega, rfl, by rw [show (j : Int) + 3 = ((3 * (k + 1) : Nat) : Int) by have := HJ.out; omega], by simp, Lib.hid (by rw [HT.out]; exact hst.out), hT2⟩
            case measure => simp [intOf]; omega
          · have hlen' : (T.size : Int) ≤ f.size := by omega
            have hst := HNEXT.out (foundF P k) (by unfold stepF; rw [hpx, ← HFL.out, ← HTS.out, decide_eq_false hlen]; rfl)
            clear HNEXT hpx
            go_wp2_with fail
            go_roundw
            case rel => exact ⟨k + 1, m + m2, f, by omega, rfl, by rw [show (j : Int) + 3 = ((3 * (k + 1) : Nat) : Int) by have := HJ.out; omega], by simp, Lib.hid (by rw [hf.out]; exact hst.out), hf2⟩
            case measure => simp [intOf]; omega
    · obtain rfl : k = 19 := by omega
      have hge : ¬ ((57 : Nat) : Int) < 57 := by omega
      have hfin : f.data.toList = signOf (s.data.toList.drop i) := by rw [hf.out, HF.out]
      have HFIN := Lib.hid hfin
      by_cases hem : f.data.toList = []
      · have hl : f.toList = [] := by rw [Lib.toList_data, hem]
        have HEM := Lib.hid hem
        clear hem hfin
        go_wp2_with fail
        refine bodyPost_ret (rword_results rfl _ _ w.heap.size _ _ _ rfl rfl rfl ((HBLK.out.drewN m).three _ _ _) rfl) rfl ?_
        unfold signW
        rw [← HFIN.out, if_pos HEM.out]
        exact ⟨rfl, below_three (below_drewN HB1.out m) _ _ _⟩
      · have hl : f.toList.isEmpty = false := by rw [Lib.toList_data]; cases hs : f.data.toList with | nil => exact absurd hs hem | cons => rfl
        have HEM := Lib.hid hem
        clear hem hfin
        go_wp2_with fail
        refine bodyPost_ret (rword_results rfl _ _ w.heap.size _ _ _ rfl rfl rfl ((HBLK.out.drewN m).three _ _ _) rfl) rfl ?_
        unfold signW
        rw [← HFIN.out, if_neg HEM.out, ← Lib.size_eq]
        exact ⟨rfl, below_three (below_drewN HB1.out m) _ _ _⟩

theorem rword_c (s : ByteArray) (i : Nat) (w : World) (hs : s.size ≤ 100000000) (hi : i < s.size) :
    Calls Tryz.prog 34 #[.string s, .int .i64 (i : Int)] w (RWordPost w (wordW s i)) := by
  obtain ⟨c, hx⟩ : ∃ c, s.data.toList[i]? = some c := ⟨_, List.getElem?_eq_getElem (by rw [← Lib.size_eq]; exact hi)⟩
  unfold wordW
  rw [hx]
  cases hd : digitI c.toNat with
  | true => simp only [hd, if_true]; exact rword_digit s i w hs c hx hd
  | false =>
    cases hn : inNameI c.toNat with
    | true => simp only [hd, hn, if_true]; exact rword_name s i w hs c hx hd hn
    | false =>
      by_cases hq : c = 34
      · simp only [hq, if_true]; exact rword_quoted s i w hs (by rw [hx, hq])
      · by_cases hq2 : c = 63
        · simp only [hq2, if_true]; exact rword_slot s i w hs (by rw [hx, hq2])
        · simp only [hd, hn, hq, hq2, if_false]; exact rword_sign s i w hs c hx hd hn hq hq2
end Go.Proofs.YtfaadlfaimhbbaaGreatDoor

namespace Go.Proofs.YtfaadlfaimhbbaaGreatDoor
open Go.RowKit

theorem wordW_bad {s : ByteArray} {i : Nat} {er : Int} {k : Nat} (h : wordW s i = .bad er k) : k = i := by
  unfold wordW at h
  cases hx : s.data.toList[i]? with
  | none => rw [hx] at h; injection h with _ h; exact h.symm
  | some c =>
    rw [hx] at h
    dsimp only at h
    split at h
    · unfold numberW at h
      split at h
      · injection h with _ h; exact h.symm
      · cases h
    · split at h
      · unfold namedW at h
        split at h
        · cases h
        · injection h with _ h; exact h.symm
      · split at h
        · unfold quotedW at h
          cases hq : quotedGo (s.data.toList.drop (i + 1)) with
          | none => rw [hq] at h; injection h with _ h; exact h.symm
          | some p =>
            rw [hq] at h
            dsimp only at h
            split at h
            · injection h with _ h; exact h.symm
            · cases h
        · split at h
          · unfold namedW at h
            split at h
            · cases h
            · injection h with _ h; exact h.symm
          · unfold signW at h
            split at h
            · injection h with _ h; exact h.symm
            · cases h
theorem wordW_err {s : ByteArray} {i : Nat} {er : Int} {k : Nat} (hi : i < s.size) (h : wordW s i = .bad er k) : er ≠ 0 := by
  unfold wordW at h
  cases hx : s.data.toList[i]? with
  | none => exfalso; rw [List.getElem?_eq_none_iff, ← Lib.size_eq] at hx; omega
  | some c =>
    rw [hx] at h
    dsimp only at h
    split at h
    · unfold numberW at h
      split at h
      · injection h with h _; omega
      · cases h
    · split at h
      · unfold namedW at h
        split at h
        · cases h
        · injection h with h _; rw [← h]; assumption
      · split at h
        · unfold quotedW at h
          cases hq : quotedGo (s.data.toList.drop (i + 1)) with
          | none => rw [hq] at h; injection h with h _; omega
          | some p =>
            rw [hq] at h
            dsimp only at h
            split at h
            · injection h with h _; omega
            · cases h
        · split at h
          · unfold namedW at h
            split at h
            · cases h
            · injection h with h _; rw [← h]; assumption
          · unfold signW at h
            split at h
            · injection h with h _; omega
            · cases h

def RWordsPost (w : World) (r : Except (Int × Nat) (List Tok)) (e : Ending) (w' : World) : Prop :=
  match r with
  | .ok toks => ∃ A c, e = .returned (.tuple #[.slice A toks.length c, .int .i64 0, .int .i64 0]) ∧ toks.length ≤ c ∧ c ≤ maxLen ∧ ToksAt w' A toks ∧ NewAt w.heap.size A ∧ (∀ b off sp, A = some ⟨b, off, sp⟩ → b < w'.heap.size) ∧ Below w.heap.size w w'
  | .error (er, k) => e = .returned (.tuple #[.slice none 0 0, .int .i64 k, .int .i64 er]) ∧ Below w.heap.size w w'

theorem words_space {f : Nat} {s : ByteArray} {j : Nat} {acc : List Tok} (hx : s.data.toList[j]? = some 32) : wordsGo f s j acc = wordsGo f s (j + 1) acc := by
  cases f with
  | zero => rfl
  | succ f =>
    have h := runLen_yes (p := isSpace) hx rfl
    unfold wordsGo
    rw [h, show j + (runLen isSpace s.data.toList (j + 1) + 1) = j + 1 + runLen isSpace s.data.toList (j + 1) by omega]
theorem words_end {f : Nat} {s : ByteArray} {acc : List Tok} : wordsGo (f + 1) s s.size acc = .ok acc := by
  unfold wordsGo
  rw [runLen_end (by rw [← Lib.size_eq]; exact Nat.le_refl _), Nat.add_zero, if_pos rfl]
theorem words_at {f : Nat} {s : ByteArray} {j : Nat} {acc : List Tok} {c : UInt8} (hx : s.data.toList[j]? = some c) (hc : c ≠ 32) :
    wordsGo (f + 1) s j acc = match wordW s j with
      | .bad e k => .error (e, k)
      | .ok t n => if acc.length = 300 then .error (4, j) else wordsGo f s n (acc ++ [t]) := by
  have h0 : runLen isSpace s.data.toList j = 0 := runLen_no hx (by
    unfold isSpace; rw [beq_eq_false_iff_ne]; intro h; apply hc
    have : c.toNat = 32 := by omega
    rw [show c = UInt8.ofNat c.toNat by simp, this]; rfl)
  have hj : j < s.size := by have := lt_of_some hx; rw [Lib.size_eq]; exact this
  rw [wordsGo, h0, Nat.add_zero, if_neg (by omega)]
  cases wordW s j <;> rfl

set_option maxRecDepth 100000 in
set_option maxHeartbeats 4000000 in
theorem rwords_c (s : ByteArray) (w : World) (hs : s.size ≤ 100000000) :
    Calls Tryz.prog 26 #[.string s] w (RWordsPost w (readW s)) := by
  have HZ := Lib.hid (Lib.size_eq s)
  by_cases h900 : 900 < s.size
  · have h900' : (900 : Int) < s.size := by omega
    have hrw : readW s = .error (4, 0) := by unfold readW; rw [if_pos h900]
    rw [hrw]
    clear hrw
    go_enter Tryz.func26, Tryz.ntmps26
    go_wp2_with fail
    go_ret3
    exact ⟨rfl, Below.refl _ _⟩
  · have h900' : (s.size : Int) ≤ 900 := by omega
    obtain ⟨R, hR⟩ : ∃ R, R = readW s := ⟨_, rfl⟩
    rw [← hR]
    have hR2 : R = wordsGo (s.size + 1) s 0 [] := by rw [hR]; unfold readW; rw [if_neg h900]
    have HR := Lib.hid hR2
    obtain ⟨i0, hi0, hz0, hz1, hz2⟩ := info_parts tokInfo
    clear hR hR2
    go_enter Tryz.func26, Tryz.ntmps26
    go_wp2_with fail
    go_loopw [5, 6] (fun lv iv wr => ∃ (f j d : Nat) (L : Option Addr) (acc : List Tok), j ≤ s.size ∧ s.size + 1 ≤ f + j ∧ acc.length ≤ 300 ∧ iv = .int .i64 j ∧ lv = .slice L acc.length d ∧ Hid (wordsGo f s j acc = R) ∧ Hid (wr.ownsRow w.heap.size 34 3 (.slice L acc.length d) acc.length (acc.flatMap Tok.cells)) ∧ Hid (Below w.heap.size w wr))
      (fun _ iv _ => s.size - (intOf iv).toNat)
    case atStart => exact ⟨s.size + 1, 0, 0, none, [], Nat.zero_le _, Nat.le_refl _, Nat.zero_le _, rfl, rfl, Lib.hid HR.out.symm, Lib.hid (World.ownsRow_nil _ _ _ _), Lib.hid (Below.refl _ _)⟩
    case round =>
      obtain ⟨f, j, d, L, acc, hj, hf, h300, rfl, rfl, hgo, hown, hb⟩ := hrel
      obtain ⟨f, rfl⟩ : ∃ f', f = f' + 1 := ⟨f - 1, by omega⟩
      by_cases hlt : j < s.size
      · obtain ⟨c, hx⟩ : ∃ c, s.data.toList[j]? = some c := ⟨_, List.getElem?_eq_getElem (by rw [← HZ.out]; exact hlt)⟩
        have hidx := str_index s j c hx
        have hlt' : (j : Int) < s.size := by omega
        by_cases hc : c = 32
        · have e32 : ((c.toNat : Int) == 32) = true := by rw [hc]; rfl
          have hgo2 : wordsGo (f + 1) s (j + 1) acc = R := by rw [← hgo.out]; exact (words_space (by rw [hx, hc])).symm
          have HGO := Lib.hid hgo2
          clear hx hc hgo2
          go_wp2_with fail
          go_roundw
          case rel => exact ⟨f + 1, j + 1, d, L, acc, by omega, by omega, h300, by go_num, rfl, HGO, hown, hb⟩
          case measure => simp [intOf]; omega
        · have e32 : ((c.toNat : Int) == 32) = false := u8_ne (by decide) hc
          have hgo2 := words_at (f := f) (acc := acc) hx hc
          rw [hgo.out] at hgo2
          have HW := Lib.hid (fun w => rword_c s j w hs hlt)
          have HN := Lib.hid (fun t n => wordW_next (s := s) (i := j) (t := t) (n := n) hlt)
          have HBAD := Lib.hid (fun er k => wordW_bad (s := s) (i := j) (er := er) (k := k))
          have HERR := Lib.hid (fun er k => wordW_err (s := s) (i := j) (er := er) (k := k) hlt)
          obtain ⟨Y, hY⟩ : ∃ Y, Y = wordW s j := ⟨_, rfl⟩
          rw [← hY] at hgo2 HW HN HBAD HERR
          clear hY hx hc
          cases Y with
          | bad er k =>
            have hk : k = j := HBAD.out _ _ rfl
            have her : er ≠ 0 := HERR.out _ _ rfl
            subst hk
            dsimp only at hgo2
            have q1 : (er == 0) = false := by simp [her]
            have q2 : (er != 0) = true := by simp [her]
            subst hgo2
            clear her HBAD HERR HN
            go_wp2_with fail
            refine (HW.out _).mono ?_
            rintro e w2 ⟨he, hb2⟩
            rw [tokZ] at he
            subst he
            have HB2 := Lib.hid (hb.out.trans (hb2.mono hb.out.size))
            clear hb2
            go_wp2_with fail
            go_ret3
            exact ⟨rfl, HB2.out.alloc HB2.out.size _⟩
          | ok t n =>
            obtain ⟨n1, n2, -⟩ := HN.out _ _ rfl
            dsimp only at hgo2
            by_cases hfull : acc.length = 300
            · rw [if_pos hfull] at hgo2
              subst hgo2
              have hfull' : (300 : Int) ≤ acc.length := by omega
              have hfd : decide ((300 : Int) ≤ acc.length) = true := by simp; omega
              clear HBAD HERR HN
              go_wp2_with fail
              refine (HW.out _).mono ?_
              rintro e w2 ⟨he, hb2⟩
              rw [Tok.val] at he
              subst he
              have HB2 := Lib.hid (hb.out.trans (hb2.mono hb.out.size))
              clear hb2
              go_wp2_with fail
              go_ret3
              exact ⟨rfl, HB2.out.alloc HB2.out.size _⟩
            · rw [if_neg hfull] at hgo2
              have HGO := Lib.hid hgo2.symm
              have hfull' : (acc.length : Int) < 300 := by omega
              have hfd : decide ((300 : Int) ≤ acc.length) = false := by simp; omega
              clear HBAD HERR HN hgo2
              go_wp2_with fail
              refine (HW.out _).mono ?_
              rintro e w2 ⟨he, hb2⟩
              rw [Tok.val] at he
              subst he
              have HB2 := Lib.hid (hb.out.trans (hb2.mono hb.out.size))
              have hown2 := Lib.hid (own_below hown.out hb2)
              have hsz2 := HB2.out.size
              clear hb2
              go_wp2_with (at_builtin; refine wpList_append_own _ rfl _ _ 22 rfl w.heap.size 34 i0 (.agg #[.int .i64 0, .string ⟨#[]⟩, .int .i64 0]) 3 32 Tryz.underlying22 hi0 hz0 hz1 hz2 rfl (by decide) _ _ _ rfl ((hown2.out.alloc _).alloc _) ⟨_, 0, none⟩ 1 1 [.int .i64 t.kind, .string t.s, .int .i64 t.pos] rfl rfl ?c1 ?c2 ?c3 ?c4 ?c5 ?_)
              case c1 =>
                intro j u hu
                have hB := Blk.new (w2.alloc (.cells #[.int .i64 t.kind, .string t.s, .int .i64 t.pos] 34)) 34 #[.int .i64 t.kind, .string t.s, .int .i64 t.pos]
                have := hB.cell j
                simp only [World.size_alloc] at this
                rw [add_plain, Nat.zero_add, this]
                simpa using hu
              case c2 => intro u hu; simp at hu; rcases hu with rfl | rfl | rfl <;> rfl
              case c3 => unfold maxLen; omega
              case c4 => omega
              case c5 => simp; omega
              intro v' w4 hown4 hgrow4 _
              obtain ⟨L', d', hv, hd'⟩ := own_slice hown4
              subst hv
              have hb4 := below_own ((HB2.out.alloc HB2.out.size (.cells #[.int .i64 t.kind, .string t.s, .int .i64 t.pos] 34)).alloc (by simp; omega) (.cells #[.int .i64 t.kind, .string t.s, .int .i64 t.pos] 34)) ((hown2.out.alloc _).alloc _) hgrow4 (Nat.le_refl _) (by simp; omega)
              have HB4 := Lib.hid hb4
              have hnext : w4.ownsRow w.heap.size 34 3 (.slice L' (acc ++ [t]).length d') (acc ++ [t]).length ((acc ++ [t]).flatMap Tok.cells) := by
                rw [List.flatMap_append, List.length_append]
                simpa [Tok.cells] using hown4
              have HOWN := Lib.hid hnext
              clear hb4 hown4 hgrow4 hnext
              go_wp2_with fail
              go_roundw
              case rel => exact ⟨f, n, d', L', acc ++ [t], n2, by omega, by simp; omega, rfl, by simp, HGO, HOWN, HB4⟩
              case measure => simp [intOf]; omega
      · obtain rfl : j = s.size := by omega
        have hres : R = .ok acc := by rw [← hgo.out, words_end]
        subst hres
        go_wp2_with fail
        go_ret3
        obtain ⟨L', d', hv, hd'⟩ := own_slice hown.out
        injection hv with _ _ hd
        subst hd
        have hml : d ≤ maxLen := by
          rcases hown.out.2 with ⟨h, _⟩ | ⟨g, cap, cur, h, _, _, _, hm, _⟩
          · injection h with _ _ h; rw [h]; exact Nat.zero_le _
          · injection h with _ _ h; rw [h]; exact hm
        refine ⟨L, d, rfl, hd', hml, Arr.ofOwn hown.out, fun b off sp e => ?_, fun b off sp e => ?_, hb.out⟩
        · subst e; exact (hown.out.lt b rfl).1
        · subst e; exact (hown.out.lt b rfl).2

set_option maxRecDepth 100000 in
set_option maxHeartbeats 2000000 in
theorem quick_c (s : ByteArray) (toks : List Tok) (w : World) (hs : s.size ≤ 100000000) (hr : readW s = .ok toks) (hl : toks.length ≤ 1000000) :
    Calls Tryz.prog 11 #[.string s] w fun e w' => ∃ B d, e = .returned (.slice B toks.length d) ∧ toks.length ≤ d ∧ d ≤ maxLen ∧ ToksAt w' B (toks.map bareT) ∧ NewAt w.heap.size B ∧ (∀ b off sp, B = some ⟨b, off, sp⟩ → b < w'.heap.size) ∧ Below w.heap.size w w' := by
  have HW := Lib.hid (fun w => rwords_c s w hs)
  rw [hr] at HW
  clear hr
  go_enter Tryz.func11, Tryz.ntmps11
  go_wp2_with fail
  refine (HW.out _).mono ?_
  rintro e w1 ⟨A, c, rfl, hc, hcm, ht, hn, hlt, hb⟩
  have HB := Lib.hid hb
  have HT := Lib.hid ht
  clear hb ht hn hlt hc hcm
  go_wp2_with fail
  refine (bare_c A c toks _ HT.out hl).mono ?_
  rintro e w2 ⟨B, d, rfl, hd, hdm, ht2, hn2, hlt2, hb2⟩
  have HT2 := Lib.hid ht2
  have HB2 := Lib.hid hb2
  have HN2 := Lib.hid hn2
  have HL2 := Lib.hid hlt2
  have HD := Lib.hid hd
  have HDM := Lib.hid hdm
  clear ht2 hb2 hn2 hlt2 hd hdm
  go_wp2_with fail
  go_ret
  exact ⟨B, d, rfl, HD.out, HDM.out, HT2.out, fun b off sp e => Nat.le_trans HB.out.size (HN2.out b off sp e), HL2.out, HB.out.trans (HB2.out.mono HB.out.size)⟩
end Go.Proofs.YtfaadlfaimhbbaaGreatDoor

namespace Go.Proofs.YtfaadlfaimhbbaaGreatDoor
open Go.RowKit

theorem VarsAt.below {w w' : World} (h : VarsAt w) (hb : Below w.heap.size w w') : VarsAt w' := by
  obtain ⟨⟨x, hx, hx'⟩, ⟨y, hy, hy'⟩, h1, h2⟩ := h
  exact ⟨⟨x, (hb.cell (p := ⟨_, 0, none⟩) h1).trans hx, hx'⟩, ⟨y, (hb.cell (p := ⟨_, 0, none⟩) h2).trans hy, hy'⟩, Nat.lt_of_lt_of_le h1 hb.size, Nat.lt_of_lt_of_le h2 hb.size⟩
theorem NodesAt.newOne (w : World) (x : Node) : NodesAt (w.alloc (.cells #[.int .i64 x.op, .int .i64 x.n, .string x.s, .string x.t] 31)) (some ⟨w.heap.size, 0, none⟩) [x] :=
  Arr.ofOwn (own_one w 0 x (Nat.zero_le _))
theorem cells_oneT (x : Tok) : ∀ u ∈ x.cells, u.oneCell' = true := by
  intro u hu; simp only [Tok.cells, List.mem_cons, List.not_mem_nil, or_false] at hu
  rcases hu with rfl | rfl | rfl <;> rfl
theorem flat_oneT (l : List Tok) : ∀ u ∈ l.flatMap Tok.cells, u.oneCell' = true := by
  intro u hu
  obtain ⟨x, _, hx⟩ := List.mem_flatMap.1 hu
  exact cells_oneT x u hx
theorem flat_lenT (l : List Tok) : (l.flatMap Tok.cells).length = l.length * 3 := by
  induction l with
  | nil => rfl
  | cons x l ih => simp only [List.flatMap_cons, List.length_append, List.length_cons, ih]; simp only [Tok.cells, List.length_cons, List.length_nil]; omega
theorem own_oneT (w : World) (base : Nat) (x : Tok) (hb : base ≤ w.heap.size) :
    (w.alloc (.cells #[.int .i64 x.kind, .string x.s, .int .i64 x.pos] 34)).ownsRow base 34 3 (.slice (some ⟨w.heap.size, 0, none⟩) 1 1) 1 ([x].flatMap Tok.cells) := by
  refine ⟨rfl, .inr ⟨w.heap.size, 1, _, rfl, hb, Blk.new w _ _, Nat.le_refl _, by unfold maxLen; omega, rfl, rfl⟩⟩
theorem own_max {w : World} {base e size n d : Nat} {L : Option Addr} {xs : List Value} (h : w.ownsRow base e size (.slice L n d) n xs) : n ≤ d ∧ d ≤ maxLen ∧ (∀ b off sp, L = some ⟨b, off, sp⟩ → base ≤ b ∧ b < w.heap.size) := by
  obtain ⟨L', d', hv, hd'⟩ := own_slice h
  injection hv with _ _ hd
  subst hd
  refine ⟨hd', ?_, fun b off sp e => ?_⟩
  · rcases h.2 with ⟨h, _⟩ | ⟨g, cap, cur, h, _, _, _, hm, _⟩
    · injection h with _ _ h; rw [h]; exact Nat.zero_le _
    · injection h with _ _ h; rw [h]; exact hm
  · subst e; exact h.lt b rfl
/-- A token's row as what is appended. -/
theorem tok_src (w : World) (x : Tok) : ∀ (j : Nat) (u : Value), (x.cells)[j]? = some u → (w.alloc (.cells #[.int .i64 x.kind, .string x.s, .int .i64 x.pos] 34)).cell? ((⟨w.heap.size, 0, none⟩ : Addr).add j) = some u := by
  intro j u hu
  have hB := Blk.new w 34 #[.int .i64 x.kind, .string x.s, .int .i64 x.pos]
  have := hB.cell j
  rw [add_plain, Nat.zero_add, this]
  simpa [Tok.cells] using hu
theorem parse_pos {ts : List Tok} {ns : List Node} (h : parseW ts = .ok ns) : 0 < ts.length ∧ ts.length ≤ 300 ∧ ns.length ≤ 200 := by
  obtain ⟨h1, _, h3, h4⟩ := parseW_ok h
  refine ⟨?_, h1, h4⟩
  have := run_pos (ts := ts) h3 (Nat.zero_le _) rfl rfl h1
  omega

theorem fact_words1 : readW ⟨#[40, 53, 41]⟩ = .ok [⟨5, ⟨#[40]⟩, 0⟩, ⟨2, ⟨#[53]⟩, 1⟩, ⟨5, ⟨#[41]⟩, 2⟩] := by kernel_rfl
theorem fact_parse1 : parseW ([⟨5, ⟨#[40]⟩, 0⟩, ⟨2, ⟨#[53]⟩, 1⟩, ⟨5, ⟨#[41]⟩, 2⟩].map bareT) = .ok [⟨2, 5, ⟨#[]⟩, ⟨#[]⟩⟩] := by kernel_rfl

/-- The fact's expression: what Parse tells of the words of a line. -/
theorem quick_parse (s : ByteArray) (toks : List Tok) (ns : List Node) (_hr : readW s = .ok toks) (hp : parseW (toks.map bareT) = .ok ns) (B : Option Addr) (d : Nat) (w : World) (hv : VarsAt w) (ht : ToksAt w B (toks.map bareT)) (hd : toks.length ≤ d) (hdm : d ≤ maxLen) (hsz : ∀ t ∈ toks, t.s.size ≤ 100000000) (hlt : ∀ b off sp, B = some ⟨b, off, sp⟩ → b < w.heap.size) :
    Calls Tryz.prog 10 #[.slice B toks.length d] w fun e w' => ∃ B m, e = .returned (.tuple #[.slice B ns.length m, .int .i64 0, .nilIface]) ∧ ns.length ≤ m ∧ NodesAt w' B ns ∧ NewAt w.heap.size B ∧ Below w.heap.size w w' := by
  have := parse_c B d (toks.map bareT) w ht (by simpa using hd) (by unfold maxLen at hdm; omega) (by
    intro t h
    obtain ⟨t', h1, rfl⟩ := List.mem_map.1 h
    exact hsz t' h1) hv hlt
  rw [hp, List.length_map] at this
  exact this

set_option maxRecDepth 100000 in
set_option maxHeartbeats 4000000 in
theorem phraseBrackets_walk (A : Option Addr) (c : Nat) (ts : List Tok) (w : World) (ht : ToksAt w A ts) (hc : ts.length ≤ c) (hcm : c ≤ 9223372036854775807) (hl : ts.length ≤ 2000000) (hs : ∀ t ∈ ts, t.s.size ≤ 100000000) (hv : VarsAt w) (ha : ∀ b off sp, A = some ⟨b, off, sp⟩ → b < w.heap.size) :
    Calls Tryz.prog 3 #[.slice A ts.length c] w fun e w' => e = .returned (.bool true) ∧ Below w.heap.size w w' := by
  obtain ⟨n, hn⟩ : ∃ n, n = ts.length := ⟨_, rfl⟩
  have HP := Lib.hid (fun (w' : World) (hb : Below w.heap.size w w') => parse_c A c ts w' (ht.below hb) hc hcm hs (hv.below hb) (fun b off sp e => Nat.lt_of_lt_of_le (ha b off sp e) hb.size))
  rw [← hn] at HP hl hc ⊢
  have HN := Lib.hid hn
  have HT := Lib.hid ht
  have HV := Lib.hid hv
  have HS := Lib.hid hs
  have HA := Lib.hid ha
  clear ht hv hs hn ha
  go_enter Tryz.func3, Tryz.ntmps3
  go_wp2_with fail
  refine (quick_c _ _ _ (by decide) fact_words1 (by decide)).mono ?_
  rintro e w1 ⟨B1, d1, rfl, hd1, hdm1, ht1, hn1, hlt1, hb1⟩
  have HB1 := Lib.hid hb1
  have HQ := Lib.hid (quick_parse _ _ _ fact_words1 fact_parse1 B1 d1 w1 (HV.out.below hb1) ht1 hd1 hdm1 (by decide) hlt1)
  clear hb1 ht1 hn1 hlt1 hd1 hdm1
  go_wp2_with fail
  refine HQ.out.mono ?_
  rintro e w2 ⟨B2, d2, rfl, hd2, hn2, hz2, hb2⟩
  have HB2 := Lib.hid (HB1.out.trans (hb2.mono HB1.out.size))
  have HN2 := Lib.hid hn2
  clear hb2 hn2 hz2 hd2 HQ
  go_wp2_with fail
  refine (num_c 5 _).mono ?_
  rintro e w3 ⟨rfl, hb3⟩
  have HB3 := Lib.hid (HB2.out.trans (hb3.mono HB2.out.size))
  have HN3 := Lib.hid (HN2.out.below hb3)
  clear hb3
  go_wp2_with fail
  refine (nodes_c B2 (some ⟨w3.heap.size, 0, none⟩) d2 1 [⟨2, 5, ⟨#[]⟩, ⟨#[]⟩⟩] [⟨2, 5, ⟨#[]⟩, ⟨#[]⟩⟩] _ (HN3.out.below ((Below.refl _ _).alloc (Nat.le_refl _) _)) (NodesAt.newOne w3 ⟨2, 5, ⟨#[]⟩, ⟨#[]⟩⟩) (by decide) (by decide)).mono ?_
  rintro e w4 ⟨rfl, m4, rfl⟩
  rw [decide_eq_true rfl]
  have HB4 := Lib.hid (below_drewN (HB3.out.alloc HB3.out.size (.cells #[.int .i64 2, .int .i64 5, .string ⟨#[]⟩, .string ⟨#[]⟩] 31)) m4)
  clear HN3 HN2
  go_wp2_with fail
  have HP5 := HP.out _ HB4.out
  obtain ⟨R, hR⟩ : ∃ R, R = parseW ts := ⟨_, rfl⟩
  rw [← hR] at HP5
  refine HP5.mono ?_
  have HRE := Lib.hid hR
  clear hR HP5
  cases R with
  | error p =>
    obtain ⟨er, k⟩ := p
    rintro e w5 ⟨rfl, hb5⟩
    have HB5 := Lib.hid (HB4.out.trans (hb5.mono HB4.out.size))
    clear hb5
    go_wp2_with fail
    go_ret
    exact ⟨rfl, HB5.out⟩
  | ok ns =>
    rintro e w5 ⟨B5, d5, rfl, hd5, hn5, hz5, hb5⟩
    have hpos := parse_pos HRE.out.symm
    rw [← HN.out] at hpos
    obtain ⟨hp0, hp3, hp2⟩ := hpos
    have HB5 := Lib.hid (HB4.out.trans (hb5.mono HB4.out.size))
    have HN5 := Lib.hid hn5
    clear hb5 hn5 hz5 hd5
    by_cases h300 : 300 < n + 2
    · have h300' : (300 : Int) < (n : Int) + 2 := by omega
      go_wp2_with fail
      go_ret
      exact ⟨rfl, HB5.out⟩
    · have h300' : (n : Int) + 2 ≤ 300 := by omega
      have hb := Lib.hid (parseW_brackets HRE.out.symm (by rw [← HN.out]; omega))
      obtain ⟨i0, hi0, hz0, hz1, hz2⟩ := info_parts tokInfo
      obtain ⟨a, o, rfl, hab, hcells⟩ := HT.out.2 (by rw [← HN.out]; exact hp0)
      have hO := own_oneT w5 w5.heap.size openT (Nat.le_refl _)
      have HO := Lib.hid hO
      have hb6 := (Below.refl w5.heap.size w5).alloc (Nat.le_refl _) (.cells #[.int .i64 openT.kind, .string openT.s, .int .i64 openT.pos] 34)
      have HB6 := Lib.hid hb6
      have hsrc : ∀ (j : Nat) (u : Value), (ts.flatMap Tok.cells)[j]? = some u → (w5.alloc (.cells #[.int .i64 openT.kind, .string openT.s, .int .i64 openT.pos] 34)).cell? ((⟨a, o, none⟩ : Addr).add j) = some u := by
        intro j u hu
        rw [add_plain]
        exact ((HB5.out.trans (hb6.mono HB5.out.size)).cell (p := ⟨a, o + j, none⟩) hab).trans (hcells j u hu)
      have HSRC := Lib.hid hsrc
      have hfl : (ts.flatMap Tok.cells).length = n * 3 := by rw [flat_lenT, HN.out]
      have HFL := Lib.hid hfl
      clear hO hb6 hsrc hcells hfl HA
      go_wp2_with (at_builtin; refine wpList_append_own _ rfl _ _ 22 rfl w5.heap.size 34 i0 _ 3 32 Tryz.underlying22 hi0 hz0 hz1 hz2 rfl (by decide) _ _ _ rfl HO.out ⟨a, o, none⟩ n c (ts.flatMap Tok.cells) rfl HFL.out HSRC.out (flat_oneT ts) (by unfold maxLen; omega) (by omega) HB6.out.size ?_)
      intro v7 w7 hown7 hgrow7 _
      obtain ⟨L7, d7, hv, hd7⟩ := own_slice hown7
      subst hv
      have hb7 := below_own HB6.out HO.out hgrow7 (Nat.le_refl _) HB6.out.size
      have HB7 := Lib.hid hb7
      have HO7 := Lib.hid (hown7.alloc (.cells #[.int .i64 closeT.kind, .string closeT.s, .int .i64 closeT.pos] 34))
      have HB8 := Lib.hid (hb7.alloc hb7.size (.cells #[.int .i64 closeT.kind, .string closeT.s, .int .i64 closeT.pos] 34))
      have HSRC7 := Lib.hid (tok_src w7 closeT)
      clear hb7 hown7 hgrow7
      go_wp2_with (at_builtin; refine wpList_append_own _ rfl _ _ 22 rfl w5.heap.size 34 i0 _ 3 32 Tryz.underlying22 hi0 hz0 hz1 hz2 rfl (by decide) _ _ _ rfl HO7.out ⟨w7.heap.size, 0, none⟩ 1 1 closeT.cells rfl rfl HSRC7.out (cells_oneT closeT) (by unfold maxLen; omega) (by omega) HB8.out.size ?_)
      intro v9 w9 hown9 hgrow9 _
      obtain ⟨L9, d9, hv, hd9⟩ := own_slice hown9
      subst hv
      have HB59 := Lib.hid (below_own HB8.out HO7.out hgrow9 (Nat.le_refl _) HB8.out.size)
      have HB9 := Lib.hid (HB5.out.trans (HB59.out.mono HB5.out.size))
      have HN9 := Lib.hid (HN5.out.below HB59.out)
      have hus : (openT :: (ts ++ [closeT])).length = 1 + n + 1 := by simp only [List.length_cons, List.length_append, List.length_nil]; rw [← HN.out]; omega
      have hown9' : w9.ownsRow w5.heap.size 34 3 (.slice L9 (1 + n + 1) d9) (1 + n + 1) ((openT :: (ts ++ [closeT])).flatMap Tok.cells) := by
        have e : (openT :: (ts ++ [closeT])).flatMap Tok.cells = [openT].flatMap Tok.cells ++ ts.flatMap Tok.cells ++ closeT.cells := by simp
        rw [e]; exact hown9
      have htk9 : ToksAt w9 L9 (openT :: (ts ++ [closeT])) := by unfold ToksAt; rw [hus]; exact Arr.ofOwn hown9'
      obtain ⟨hm1, hm2, hm3⟩ := own_max hown9'
      have hp9 := parse_c L9 d9 (openT :: (ts ++ [closeT])) w9 htk9 (by rw [hus]; exact hm1) (by unfold maxLen at hm2; omega) (by
        intro t ht
        simp only [List.mem_cons, List.mem_append, List.not_mem_nil, or_false] at ht
        rcases ht with rfl | ht | rfl
        · decide
        · exact HS.out t ht
        · decide) (HV.out.below HB9.out) (fun b off sp e => (hm3 b off sp e).2)
      rw [hb.out, hus] at hp9
      have HP9 := Lib.hid hp9
      clear hown9 hown9' hgrow9 htk9 hp9 hm1 hm2 hm3 hus hd9 hd7
      go_wp2_with fail
      refine HP9.out.mono ?_
      rintro e w10 ⟨B10, d10, rfl, hd10, hn10, hz10, hb10⟩
      have HN10 := Lib.hid hn10
      have HN5' := Lib.hid (HN9.out.below hb10)
      have HB10 := Lib.hid (HB9.out.trans (hb10.mono HB9.out.size))
      clear hd10 hn10 hz10 hb10
      go_wp2_with fail
      refine (nodes_c B10 B5 d10 d5 ns ns _ HN10.out HN5'.out (by omega) (by omega)).mono ?_
      rintro e w11 ⟨rfl, m11, rfl⟩
      rw [decide_eq_true rfl]
      go_wp2_with fail
      go_ret
      exact ⟨rfl, below_drewN HB10.out m11⟩
end Go.Proofs.YtfaadlfaimhbbaaGreatDoor

namespace Go.Proofs.YtfaadlfaimhbbaaGreatDoor
open Go.ChangeShapes Go.WideShapes Go.ChangeAt Go.RowKit
set_option maxRecDepth 100000

theorem own_ : ownKnob Tryz.prog.godebug = none := by kernel_rfl
theorem laidOut_ : laidOutB Tryz.prog = true := by kernel_rfl

/-! ## bulk -/
theorem bulk_one {H : Type} (d : DataW H) : 1 ≤ Rows.uptoBulk d := by
  cases d with
  | lit l => cases l <;> simp [Rows.uptoBulk]
  | _ => simp [Rows.uptoBulk]
theorem bulk_part {H : Type} {d : DataW H} : ∀ {l : List (DataW H)}, d ∈ l → Rows.uptoBulk d ≤ Rows.uptoBulkAll l
  | [], h => by cases h
  | x :: r, h => by
    rw [Rows.uptoBulkAll]
    rcases List.mem_cons.1 h with rfl | h
    · omega
    · have := bulk_part h; omega
theorem bulk_len {H : Type} : ∀ (l : List (DataW H)), l.length ≤ Rows.uptoBulkAll l
  | [] => Nat.zero_le _
  | x :: r => by
    have h1 := bulk_one x
    have h2 := bulk_len r
    rw [Rows.uptoBulkAll, List.length_cons]; omega
theorem bulk_slice {H : Type} {es sp : List (DataW H)} {N : Nat} (h : Rows.uptoBulk (.slice es sp) ≤ N) : es.length ≤ N ∧ ∀ d ∈ es, Rows.uptoBulk d ≤ N := by
  rw [Rows.uptoBulk] at h
  have h1 := bulk_len es
  refine ⟨by omega, fun d hd => ?_⟩
  have := bulk_part hd; omega
theorem bulk_agg {H : Type} {ps : List (DataW H)} {N : Nat} (h : Rows.uptoBulk (.agg ps) ≤ N) : ∀ d ∈ ps, Rows.uptoBulk d ≤ N := by
  rw [Rows.uptoBulk] at h
  intro d hd
  have := bulk_part hd; omega
theorem bulk_str {H : Type} {b : List UInt8} {N : Nat} (h : Rows.uptoBulk (.lit (.string b) : DataW H) ≤ N) : b.length ≤ N := by
  rw [Rows.uptoBulk] at h; omega

/-! ## a slice that came in -/
section
variable {H : Type} {enc : TypeId × Value → H} {W : World} {base fuel : Nat} {held : Bool}
theorem slice_at {t e : TypeId} {a : Addr} {len cap : Nat} (ht : Tryz.prog.underlying t = some (.slice e)) (hv : Value.okWide Tryz.prog W .any base t (.slice (some a) len cap)) : a.spot = none ∧ a.block < W.heap.size ∧ len ≤ cap ∧ cap ≤ 9223372036854775807 := by
  simp only [Value.okWide, ht, Cell.okWide, Cell.ok] at hv
  obtain ⟨h1, h2, h3⟩ := hv
  obtain ⟨_, hs, row, cells, hsh, _⟩ := h3
  refine ⟨hs, ?_, h1, ?_⟩
  · rcases Nat.lt_or_ge a.block W.heap.size with h | h
    · exact h
    · simp [World.shape?, Array.getElem?_eq_none h] at hsh
  · have : IntKind.i64.max = 9223372036854775807 := rfl
    omega

/-- A list of data's cells, index by index. -/
theorem arr_of {α : Type} (f : α → List Value) (k : Nat) (hk : 0 < k) (hf : ∀ x, (f x).length = k) (a : Addr) (T : Nat → α) (n : Nat) (hs : a.spot = none) (hb : a.block < W.heap.size)
    (h : ∀ i, i < n → ∀ r, r < k → W.cell? (a.add (i * k + r)) = (f (T i))[r]?) : Arr W k (some a) ((List.range n).map T).length (((List.range n).map T).flatMap f) := by
  obtain ⟨b, off, spot⟩ := a
  simp only at hs hb
  subst hs
  have hlen : ∀ l : List α, (l.flatMap f).length = l.length * k := by
    intro l
    induction l with
    | nil => simp
    | cons x l ih => rw [List.flatMap_cons, List.length_append, ih, hf, List.length_cons, Nat.add_mul]; omega
  refine ⟨hlen _, fun _ => ⟨b, off, rfl, hb, fun j u hu => ?_⟩⟩
  have hj := lt_of_some hu
  rw [hlen, List.length_map, List.length_range] at hj
  have hi : j / k < n := by rw [Nat.div_lt_iff_lt_mul hk]; exact hj
  have hr : j % k < k := Nat.mod_lt _ hk
  have e : j / k * k + j % k = j := Nat.div_add_mod' j k
  have hx : ((List.range n).map T)[j / k]? = some (T (j / k)) := by simp [hi]
  have h1 := getElem?_flatMap_const f k hf ((List.range n).map T) (j / k) (j % k) _ hx hr
  rw [e] at h1
  have h2 := h (j / k) hi (j % k) hr
  rw [e, add_plain] at h2
  rw [h2, ← h1, hu]

theorem tok_of {cs : List Value} {x : DataW H × List MemPlace} {sp : Nat → Bool} (h : DataW.trod enc Tryz.prog W base sp held fuel 34 cs = some x) :
    ∃ t : Tok, cs = t.cells ∧ x.1 = .agg [.lit (.int .i64 t.kind), .lit (.string t.s.data.toList), .lit (.int .i64 t.pos)] := by
  obtain ⟨xs, n, _, rfl, hl, hxl, hf⟩ := DataW.trod_struct Tryz.underlying34 h
  rw [show Tryz.prog.cellsOf 34 = 3 by kernel_rfl] at hl
  have c3 : Tryz.prog.cellsOf 3 = 1 := by kernel_rfl
  have c9 : Tryz.prog.cellsOf 9 = 1 := by kernel_rfl
  match cs, hl, xs, hxl, hf with
  | [v0, v1, v2], _, [y0, y1, y2], _, hf =>
    have f0 : DataW.trod enc Tryz.prog W base sp held n 3 (([v0, v1, v2].drop 0).take (Tryz.prog.cellsOf 3)) = some y0 := hf 0 _ rfl
    rw [c3] at f0
    have f1 : DataW.trod enc Tryz.prog W base sp held n 9 (([v0, v1, v2].drop 1).take (Tryz.prog.cellsOf 9)) = some y1 := hf 1 _ rfl
    rw [c9] at f1
    have f2 : DataW.trod enc Tryz.prog W base sp held n 3 (([v0, v1, v2].drop 2).take (Tryz.prog.cellsOf 3)) = some y2 := hf 2 _ rfl
    rw [c3] at f2
    obtain ⟨k, e0, rfl, _⟩ := DataW.trod_int Tryz.underlying3 f0
    obtain ⟨s, e1, rfl, _⟩ := DataW.trod_string Tryz.underlying9 f1
    obtain ⟨p, e2, rfl, _⟩ := DataW.trod_int Tryz.underlying3 f2
    obtain rfl : v0 = _ := by simpa using e0
    obtain rfl : v1 = _ := by simpa using e1
    obtain rfl : v2 = _ := by simpa using e2
    exact ⟨⟨k, s, p⟩, rfl, rfl⟩
theorem node_of {cs : List Value} {x : DataW H × List MemPlace} {sp : Nat → Bool} (h : DataW.trod enc Tryz.prog W base sp held fuel 31 cs = some x) :
    ∃ t : Node, cs = t.cells ∧ (-9223372036854775808 ≤ t.op ∧ t.op ≤ 9223372036854775807) ∧ (-9223372036854775808 ≤ t.n ∧ t.n ≤ 9223372036854775807) ∧ x.1 = .agg [.lit (.int .i64 t.op), .lit (.int .i64 t.n), .lit (.string t.s.data.toList), .lit (.string t.t.data.toList)] := by
  obtain ⟨xs, n, _, rfl, hl, hxl, hf⟩ := DataW.trod_struct Tryz.underlying31 h
  rw [show Tryz.prog.cellsOf 31 = 4 by kernel_rfl] at hl
  have c3 : Tryz.prog.cellsOf 3 = 1 := by kernel_rfl
  have c9 : Tryz.prog.cellsOf 9 = 1 := by kernel_rfl
  match cs, hl, xs, hxl, hf with
  | [v0, v1, v2, v3], _, [y0, y1, y2, y3], _, hf =>
    have f0 : DataW.trod enc Tryz.prog W base sp held n 3 (([v0, v1, v2, v3].drop 0).take (Tryz.prog.cellsOf 3)) = some y0 := hf 0 _ rfl
    rw [c3] at f0
    have f1 : DataW.trod enc Tryz.prog W base sp held n 3 (([v0, v1, v2, v3].drop 1).take (Tryz.prog.cellsOf 3)) = some y1 := hf 1 _ rfl
    rw [c3] at f1
    have f2 : DataW.trod enc Tryz.prog W base sp held n 9 (([v0, v1, v2, v3].drop 2).take (Tryz.prog.cellsOf 9)) = some y2 := hf 2 _ rfl
    rw [c9] at f2
    have f3 : DataW.trod enc Tryz.prog W base sp held n 9 (([v0, v1, v2, v3].drop 3).take (Tryz.prog.cellsOf 9)) = some y3 := hf 3 _ rfl
    rw [c9] at f3
    obtain ⟨k, e0, rfl, w0⟩ := DataW.trod_int Tryz.underlying3 f0
    obtain ⟨m, e1, rfl, w1⟩ := DataW.trod_int Tryz.underlying3 f1
    obtain ⟨s, e2, rfl, _⟩ := DataW.trod_string Tryz.underlying9 f2
    obtain ⟨p, e3, rfl, _⟩ := DataW.trod_string Tryz.underlying9 f3
    obtain rfl : v0 = _ := by simpa using e0
    obtain rfl : v1 = _ := by simpa using e1
    obtain rfl : v2 = _ := by simpa using e2
    obtain rfl : v3 = _ := by simpa using e3
    exact ⟨⟨k, m, s, p⟩, rfl, bounds_i64 w0, bounds_i64 w1, rfl⟩

/-- A slice of tokens that came in, of small bulk. -/
theorem open_toks {base' : Nat} {v : Value} {d : DataW H} {p : List MemPlace} {N : Nat} (hv : Value.okWide Tryz.prog W .any base' 22 v) (h : DataW.Trod enc Tryz.prog W base (fun _ => true) held 22 v d p) (hN : Rows.uptoBulk d ≤ N) :
    ∃ A c ts, v = .slice A ts.length c ∧ ToksAt W A ts ∧ ts.length ≤ c ∧ c ≤ 9223372036854775807 ∧ ts.length ≤ N ∧ (∀ t ∈ ts, t.s.size ≤ N) ∧ (∀ b off sp, A = some ⟨b, off, sp⟩ → b < W.heap.size) := by
  obtain ⟨A, len, cap, rfl⟩ := okWide_slice Tryz.underlying22 hv
  obtain ⟨fuel, hf⟩ := h
  rcases Deep.open_slice Tryz.underlying22 hf with ⟨hcs, _⟩ | ⟨a, len', cap', m, n, D, Pl, hcs, _, hl, hm, hmm, hx, hi⟩
  · have e : (#[Value.slice A len cap] : Array Value).toList = [.slice none 0 0] := hcs
    simp only [List.cons.injEq, Value.slice.injEq, and_true] at e
    obtain ⟨rfl, rfl, rfl⟩ := e
    exact ⟨none, 0, [], rfl, Arr.none_, Nat.le_refl _, by omega, Nat.zero_le _, (fun t ht => by cases ht), (fun b off sp e => by cases e)⟩
  · have e : (#[Value.slice A len cap] : Array Value).toList = [.slice (some a) len' cap'] := hcs
    simp only [List.cons.injEq, Value.slice.injEq, and_true] at e
    obtain ⟨rfl, rfl, rfl⟩ := e
    obtain ⟨hs, hb, hlc, hc64⟩ := slice_at Tryz.underlying22 hv
    simp only [Prod.mk.injEq] at hx
    obtain ⟨rfl, _⟩ := hx
    simp only [if_true] at hmm
    obtain rfl : cap = m := hmm.symm
    rw [show Tryz.prog.cellsOf 34 = 3 by kernel_rfl] at hi
    obtain ⟨T, hT⟩ := Deep.choose_lt (α := Tok) (n := len) (p := fun i t => W.cells? base (a.add (i * 3)) 3 = some t.cells ∧ D i = .agg [.lit (.int .i64 t.kind), .lit (.string t.s.data.toList), .lit (.int .i64 t.pos)]) (fun i hlt => by
      obtain ⟨cs', h1, h2⟩ := hi i (by omega)
      obtain ⟨t, rfl, hd⟩ := tok_of h2
      exact ⟨t, h1, hd⟩)
    obtain ⟨hb1, hb2⟩ := bulk_slice hN
    rw [List.length_map, List.length_range] at hb1
    have hlen : ((List.range len).map T).length = len := by simp
    refine ⟨some a, cap, (List.range len).map T, by rw [hlen], ?_, by rw [hlen]; exact hlc, hc64, by rw [hlen]; exact hb1, ?_, fun b off sp e => by injection e with e; rw [e] at hb; exact hb⟩
    · refine arr_of Tok.cells 3 (by omega) (fun _ => rfl) a T len hs hb ?_
      intro i hlt r hr
      obtain ⟨_, _, hc⟩ := World.cells?_some (hT i hlt).1
      have := hc r hr
      rwa [Deep.add_add] at this
    · intro t ht
      obtain ⟨i, hlt, rfl⟩ := List.mem_map.1 ht
      have hlt := List.mem_range.1 hlt
      have hd := hb2 (D i) (List.mem_map.2 ⟨i, List.mem_range.2 hlt, rfl⟩)
      rw [(hT i hlt).2] at hd
      have := bulk_str (bulk_agg hd (.lit (.string (T i).s.data.toList)) (by simp))
      rw [Lib.size_eq]; exact this
theorem open_nodes {base' : Nat} {v : Value} {d : DataW H} {p : List MemPlace} {N : Nat} (hv : Value.okWide Tryz.prog W .any base' 23 v) (h : DataW.Trod enc Tryz.prog W base (fun _ => true) held 23 v d p) (hN : Rows.uptoBulk d ≤ N) :
    ∃ A c ns, v = .slice A ns.length c ∧ NodesAt W A ns ∧ ns.length ≤ c ∧ c ≤ 9223372036854775807 ∧ ns.length ≤ N ∧ (∀ t ∈ ns, t.s.size ≤ N ∧ t.t.size ≤ N ∧ (-9223372036854775808 ≤ t.op ∧ t.op ≤ 9223372036854775807) ∧ (-9223372036854775808 ≤ t.n ∧ t.n ≤ 9223372036854775807)) ∧ (∀ b off sp, A = some ⟨b, off, sp⟩ → b < W.heap.size) := by
  obtain ⟨A, len, cap, rfl⟩ := okWide_slice Tryz.underlying23 hv
  obtain ⟨fuel, hf⟩ := h
  rcases Deep.open_slice Tryz.underlying23 hf with ⟨hcs, _⟩ | ⟨a, len', cap', m, n, D, Pl, hcs, _, hl, hm, hmm, hx, hi⟩
  · have e : (#[Value.slice A len cap] : Array Value).toList = [.slice none 0 0] := hcs
    simp only [List.cons.injEq, Value.slice.injEq, and_true] at e
    obtain ⟨rfl, rfl, rfl⟩ := e
    exact ⟨none, 0, [], rfl, Arr.none_, Nat.le_refl _, by omega, Nat.zero_le _, (fun t ht => by cases ht), (fun b off sp e => by cases e)⟩
  · have e : (#[Value.slice A len cap] : Array Value).toList = [.slice (some a) len' cap'] := hcs
    simp only [List.cons.injEq, Value.slice.injEq, and_true] at e
    obtain ⟨rfl, rfl, rfl⟩ := e
    obtain ⟨hs, hb, hlc, hc64⟩ := slice_at Tryz.underlying23 hv
    simp only [Prod.mk.injEq] at hx
    obtain ⟨rfl, _⟩ := hx
    simp only [if_true] at hmm
    obtain rfl : cap = m := hmm.symm
    rw [show Tryz.prog.cellsOf 31 = 4 by kernel_rfl] at hi
    obtain ⟨T, hT⟩ := Deep.choose_lt (α := Node) (n := len) (p := fun i t => W.cells? base (a.add (i * 4)) 4 = some t.cells ∧ ((-9223372036854775808 ≤ t.op ∧ t.op ≤ 9223372036854775807) ∧ (-9223372036854775808 ≤ t.n ∧ t.n ≤ 9223372036854775807)) ∧ D i = .agg [.lit (.int .i64 t.op), .lit (.int .i64 t.n), .lit (.string t.s.data.toList), .lit (.string t.t.data.toList)]) (fun i hlt => by
      obtain ⟨cs', h1, h2⟩ := hi i (by omega)
      obtain ⟨t, rfl, w0, w1, hd⟩ := node_of h2
      exact ⟨t, h1, ⟨w0, w1⟩, hd⟩)
    obtain ⟨hb1, hb2⟩ := bulk_slice hN
    rw [List.length_map, List.length_range] at hb1
    have hlen : ((List.range len).map T).length = len := by simp
    refine ⟨some a, cap, (List.range len).map T, by rw [hlen], ?_, by rw [hlen]; exact hlc, hc64, by rw [hlen]; exact hb1, ?_, fun b off sp e => by injection e with e; rw [e] at hb; exact hb⟩
    · refine arr_of Node.cells 4 (by omega) (fun _ => rfl) a T len hs hb ?_
      intro i hlt r hr
      obtain ⟨_, _, hc⟩ := World.cells?_some (hT i hlt).1
      have := hc r hr
      rwa [Deep.add_add] at this
    · intro t ht
      obtain ⟨i, hlt, rfl⟩ := List.mem_map.1 ht
      have hlt := List.mem_range.1 hlt
      have hd := hb2 (D i) (List.mem_map.2 ⟨i, List.mem_range.2 hlt, rfl⟩)
      rw [(hT i hlt).2.2] at hd
      have h1 := bulk_str (bulk_agg hd (.lit (.string (T i).s.data.toList)) (by simp))
      have h2 := bulk_str (bulk_agg hd (.lit (.string (T i).t.data.toList)) (by simp))
      rw [Lib.size_eq, Lib.size_eq]; exact ⟨h1, h2, (hT i hlt).2.1⟩
end

/-! ## the listed variables -/
theorem iface_cell {W : World} {n : String} {g : Nat} {t : TypeId} {ms : Array (String × TypeId)} {d : DataW Unit} (h : Lib.VarReads Tryz.prog W n d) (hg : Tryz.prog.globalNamed n = some g) (ht : (Tryz.prog.globals[g]?).map (·.type) = some t) (hu : Tryz.prog.underlying t = some (.interface ms)) :
    (∃ x, W.cell? ⟨g, 0, none⟩ = some x ∧ (x = .nilIface ∨ ∃ t p, x = .iface t p)) ∧ g < W.heap.size := by
  obtain ⟨g', t', cs, fuel, p, h1, h2, h3, h4⟩ := h
  obtain rfl := Option.some.inj (hg.symm.trans h1)
  obtain rfl := Option.some.inj (ht.symm.trans h2)
  have hc := World.var?_cell h1 h3 0
  have key : ∃ x, cs[0]? = some x ∧ (x = .nilIface ∨ ∃ t p, x = .iface t p) := by
    cases fuel with
    | zero => simp [DataW.trod] at h4
    | succ fuel =>
      unfold DataW.trod at h4
      rw [hu] at h4
      obtain ⟨l⟩ := cs
      match l, h4 with
      | [], h4 => simp at h4
      | [x], h4 =>
        refine ⟨x, rfl, ?_⟩
        cases x <;> simp at h4 ⊢
      | x :: y :: r, h4 => simp at h4
  obtain ⟨x, hx, hx'⟩ := key
  rw [hx] at hc
  refine ⟨⟨x, hc, hx'⟩, ?_⟩
  rcases Nat.lt_or_ge g W.heap.size with h | h
  · exact h
  · simp [World.cell?, Array.getElem?_eq_none h] at hc
theorem vars_of {W : World} {l : List (String × DataW Unit)} (h : laidMet Tryz.prog l W) {d1 d2 : DataW Unit} (h1 : ("strconv.ErrSyntax", d1) ∈ l) (h2 : ("strconv.ErrRange", d2) ∈ l) : VarsAt W := by
  obtain ⟨a1, b1⟩ := iface_cell (Lib.laidMet.reads h h1) (g := 7) (by kernel_rfl) (t := 25) (by kernel_rfl) Tryz.underlying25
  obtain ⟨a2, b2⟩ := iface_cell (Lib.laidMet.reads h h2) (g := 8) (by kernel_rfl) (t := 25) (by kernel_rfl) Tryz.underlying25
  exact ⟨a1, a2, b1, b2⟩

/-- There is an input that fits: at a world that is shaped. -/
theorem witness_row_shaped {H : Type} {enc : TypeId × Value → H} {C : Checked} {os : Os} {f : FuncId} {fn : Func} {s : OpenSpec} {conds : List PathCond} {apart : Bool} {laid : List (String × DataW Unit)} (modest : Bool) (w0 : World) (args : Array Value) (hos : w0.os = os)
    (hsh : (w0.forCall (fun _ _ => 0) ⟨#[], args, []⟩).Shaped C.prog)
    (hok : Input.okWideB C.prog (w0.forCall (fun _ _ => 0) ⟨#[], args, []⟩) f ⟨#[], args, []⟩ = true)
    (hrow : s.preRow enc C.prog fn conds apart laid (w0.forCall (fun _ _ => 0) ⟨#[], args, []⟩).memory args) :
    ∃ (w : World) (tape : Tape) (i : Input), w.os = os ∧ (w.forCall tape i).Shaped C.prog ∧ i.vars = [] ∧ Input.okWide C.prog (w.forCall tape i) .any w.heap.size f i ∧
      s.preRow enc C.prog fn conds apart laid (w.forCall tape i).memory i.args ∧ ({ modest := modest } : Assume).holds C.prog (lone (Frame.enter C.prog f i.args .normal) [] (w.forCall tape i)) :=
  ⟨w0, fun _ _ => 0, ⟨#[], args, []⟩, hos, hsh, (Input.okWide_of_okWideB (base := 0) hok).1, (Input.okWide_of_okWideB hok).2, hrow, by
    simp only [Assume.holds]
    exact ⟨by simp, by simp, fun _ => Modest.zero, by simp, by simp⟩⟩
end Go.Proofs.YtfaadlfaimhbbaaGreatDoor
