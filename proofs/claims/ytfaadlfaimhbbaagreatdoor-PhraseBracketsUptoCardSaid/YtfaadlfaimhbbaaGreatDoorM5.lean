/-
  The parser's 'post': what stands behind an atom.
  The parser's numbers.
  The parser's 'named': what begins with a name.
  The parser's 'set'; a row of parts that grows.
  The parser's 'rec'.
  The parser's 'atom'; all functions of the parser at once.
-/
import Derived.Test.YtfaadlfaimhbbaaGreatDoorM4
namespace Go.Proofs.YtfaadlfaimhbbaaGreatDoor
open Go.RowKit

set_option maxRecDepth 100000 in
set_option maxHeartbeats 4000000 in
theorem post_c {g : Nat} {A : Option Addr} {c : Nat} {ts : List Tok} {f : Nat} (IH : ∀ k, k ≤ f → Good g A c ts k) (i : Nat) (r : PRes) (w : World) (hr : run ts (f + 1) .post i = some r) (h : Ps g A c ts i w) :
    Calls Tryz.prog 192 #[.pointer (some ⟨g, 0, none⟩)] w (PPost g A c ts w r) := by
  have hnot : ∀ (x : Bool) (w : World), (Op.unary .not (.bool x)).run Tryz.prog w = .ok (.bool (!x)) w := fun _ _ => rfl
  have hlen := h.len
  have hg := h.lt
  have H := Lib.hid h
  unfold run at hr
  have HI := Lib.hid (fun k (hk : k ≤ f) i r w => IH k hk .whole _ i r w rfl)
  have HIA := Lib.hid (fun i r w => IH f (Nat.le_refl _) .atom _ i r w rfl)
  have HL := Lib.hid (fun k i ns j hr hi => run_pos (ts := ts) (f := k) (pf := .whole) (i := i) (ns := ns) (j := j) hr hi rfl rfl hlen)
  have HLA := Lib.hid (fun i ns j hr hi => run_pos (ts := ts) (f := f) (pf := .atom) (i := i) (ns := ns) (j := j) hr hi rfl rfl hlen)
  have HR := Lib.hid hr
  clear IH hr h
  go_enter Tryz.func192, Tryz.ntmps192
  go_wp2_with fail
  rcases then_cases HR.out with ⟨er, j, hx, rfl⟩ | ⟨es, j, hx, hr⟩
  · refine (HIA.out _ _ _ hx H.out).mono ?_
    rintro e w1 ⟨rfl, ho⟩
    unfold pan
    go_wp2_with fail
    exact ⟨rfl, rfl, ho⟩
  refine (HIA.out _ _ _ hx H.out).mono ?_
  rintro e w1 ⟨B, m, rfl, l1, n1, z1, o1, h1⟩
  have HX := HLA.out _ _ _ hx H.out.le
  have HR1 := Lib.hid hr
  have N1 := Lib.hid n1
  have Z1 := Lib.hid z1
  have O1 := Lib.hid o1
  have H1 := Lib.hid h1
  have L1 := Lib.hid l1
  clear hx hr n1 z1 o1 h1 HR l1 HIA HLA
  go_wp2_with fail
  go_loopw [3] (fun lv wr => ∃ (k j m : Nat) (B : Option Addr) (acc : List Node), k ≤ f ∧ j ≤ ts.length ∧ acc.length ≤ j ∧ 0 < acc.length ∧ lv = .slice B acc.length m ∧ Hid (acc.length ≤ m) ∧ Hid (run ts k (.posts acc) j = some r) ∧ Hid (Ps g A c ts j wr) ∧ Hid (NodesAt wr B acc) ∧ Hid (NewAt w.heap.size B) ∧ Hid (Only g w wr))
    (fun _ wr => ts.length - cellNat wr ⟨g, 1, none⟩)
  case atStart => exact ⟨f, j, m, B, es, Nat.le_refl _, H1.out.le, by omega, HX.1, rfl, L1, HR1, H1, N1, Z1, O1⟩
  case round =>
    clear HX H1 N1 Z1 O1 L1 HR1
    obtain ⟨k, j, m, B, acc, hk, hj, haj, hpos, rfl, hm, hrun, hps, hn, hz, ho⟩ := hrel
    obtain ⟨k, rfl⟩ : ∃ k', k = k' + 1 := by
      cases k with
      | zero => have := hrun.out; cases this
      | succ k => exact ⟨k, rfl⟩
    have hrn := hrun.out
    unfold run at hrn
    go_wp2_with fail
    cases hb : isAt ts j [46] with
    | false =>
      have hT := take_c hps.out [46]
      rw [hb] at hT hrn
      injection hrn with hrn
      have HRN := Lib.hid hrn
      clear hrn hb
      refine hT.mono ?_
      rintro e w2 ⟨rfl, o2, h2⟩
      rw [if_neg (by decide)] at h2
      go_wp2_with fail
      go_ret
      rw [← HRN.out]
      exact ⟨B, m, rfl, hm.out, nodes_keep hn.out hz.out hg o2, hz.out, ho.out.trans o2, h2⟩
    | true =>
      have hT := take_c hps.out [46]
      rw [hb] at hT hrn
      rw [if_pos rfl] at hrn
      have HRN := Lib.hid hrn
      have hjl := isAt_lt hb
      clear hrn hb
      refine hT.mono ?_
      rintro e w2 ⟨rfl, o2, h2⟩
      rw [if_pos rfl] at h2
      have H2 := Lib.hid h2
      have O2 := Lib.hid (ho.out.trans o2)
      have N2 := Lib.hid (nodes_keep hn.out hz.out hg o2)
      clear hT o2 h2
      go_wp2_with fail
      rcases word_cases (by decide) HRN.out with ⟨t, ht, hkk, hr⟩ | ⟨hkk, rfl⟩
      rotate_left
      · refine (word_no H2.out 1 hkk).mono ?_
        rintro e w3 ⟨rfl, ho3⟩
        unfold pan
        go_wp2_with fail
        exact ⟨rfl, rfl, O2.out.trans ho3⟩
      refine (word_yes H2.out 1 t ht hkk).mono ?_
      rintro e w3 ⟨rfl, o3, h3⟩
      have hj2 := lt_of_some ht
      have H3 := Lib.hid h3
      have O3 := Lib.hid (O2.out.trans o3)
      have N3 := Lib.hid (nodes_keep N2.out hz.out hg o3)
      have HR3 := Lib.hid hr
      clear o3 h3 hr ht hkk HRN
      generalize t.s = s at HR3 ⊢

      by_cases e25 : s.toList = [99,111,110,116,97,105,110,115]
      · have hpo : postOp s.toList = 25 := by rw [e25]; rfl
        have hr := HR3.out
        rw [hpo] at hr
        go_wp2_with fail
        cases hp : isAt ts (j + 1 + 1) [40] with
        | false =>
          have hI := is_c H3.out [40]
          rw [hp] at hI hr
          rw [if_pos (by rfl)] at hr
          have HRX := Lib.hid hr
          clear hr hpo hp
          refine hI.mono ?_
          rintro e wx ⟨rfl, h4⟩
          have HX := Lib.hid (H3.out.below h4)
          have OX := Lib.hid (O3.out.thenBelow h4)
          have NX := Lib.hid (nodes_keep N3.out hz.out hg (Only.ofBelow h4))
          clear hI h4
          go_wp2_with fail
          have HPA := Lib.hid (parts_one NX.out hpos hm.out)
          have HFL : Hid (([acc] : List (List Node)).flatten.length ≤ 100000) := Lib.hid (by
            simp only [List.flatten_cons, List.flatten_nil, List.append_nil]; omega)
          have hnc := node_c ⟨22, 0, s, ⟨#[]⟩⟩ _ 1 [acc] _ HPA.out HFL.out
          have HNC := Lib.hid hnc
          simp only [Node.val] at HNC
          clear hnc
          go_wp2_with fail
          refine HNC.out.mono ?_
          rintro e w5 ⟨B5, m5, rfl, hm5, hn5, hz5, hb5⟩
          have heq : (⟨22, 0, s, ⟨#[]⟩⟩ : Node) :: ([acc] : List (List Node)).flatten = ⟨22, 0, s, ⟨#[]⟩⟩ :: acc := by simp
          rw [heq] at hm5 hn5 ⊢
          obtain ⟨R, hR⟩ : ∃ R, R = (⟨22, 0, s, ⟨#[]⟩⟩ : Node) :: acc := ⟨_, rfl⟩
          rw [← hR] at hm5 hn5 ⊢
          have hRl : R.length = acc.length + 1 := by rw [hR]; simp
          have HEQ := Lib.hid hR
          have hb6 : Below wx.heap.size wx w5 := ((Below.refl _ wx).alloc (Nat.le_refl _) _).trans (hb5.mono (by simp))
          have HO := Lib.hid (OX.out.thenBelow hb6)
          have HPS := Lib.hid (HX.out.below hb6)
          have HZ := Lib.hid (hz5.mono (by have := OX.out.size; simp; omega) : NewAt w.heap.size B5)
          have HM5 := Lib.hid hm5
          have HN5 := Lib.hid hn5
          clear hR heq hb5 hb6 hz5 hm5 hn5
          go_wp2_with fail
          go_roundw
          case rel =>
            refine ⟨k, j + 1 + 1, m5, B5, R, by omega, HPS.out.le, by omega, by omega, by rw [hRl], HM5, Lib.hid ?_, HPS, HN5, HZ, HO⟩
            rw [HEQ.out]; exact HRX.out
          case measure =>
            have q1 := hps.out.cells.2.1
            have q2 := HPS.out.cells.2.1
            rw [cellNat_eq q1, cellNat_eq q2]
            omega
        | true =>
          have hI := is_c H3.out [40]
          rw [hp] at hI hr
          rw [if_neg (by decide)] at hr
          clear hpo
          refine hI.mono ?_
          rintro e wx ⟨rfl, h4⟩
          have HX := Lib.hid (H3.out.below h4)
          have OX := Lib.hid (O3.out.thenBelow h4)
          have NX := Lib.hid (nodes_keep N3.out hz.out hg (Only.ofBelow h4))
          clear hI h4
          have HR4 := Lib.hid hr
          clear hr
          go_wp2_with fail
          refine (need_yes HX.out [40] hp).mono ?_
          rintro e w5 ⟨rfl, o5, h5⟩
          have hpl := isAt_lt hp
          have H5 := Lib.hid h5
          have O5 := Lib.hid (OX.out.trans o5)
          have N5 := Lib.hid (nodes_keep NX.out hz.out hg o5)
          clear o5 h5 hp
          go_wp2_with fail
          rcases then_cases HR4.out with ⟨er, j2, hx, rfl⟩ | ⟨xs, j2, hx, hr⟩
          · refine (HI.out k (by omega) _ _ _ hx H5.out).mono ?_
            rintro e w6 ⟨rfl, ho6⟩
            unfold pan
            go_wp2_with fail
            exact ⟨rfl, rfl, O5.out.trans ho6⟩
          refine (HI.out k (by omega) _ _ _ hx H5.out).mono ?_
          rintro e w6 ⟨B2, m2, rfl, l2, nn2, z2, o6, h6⟩
          have HX2 := HL.out _ _ _ _ hx H5.out.le
          have H6 := Lib.hid h6
          have O6 := Lib.hid (O5.out.trans o6)
          have HR6 := Lib.hid hr
          have HPA := Lib.hid (parts_two (nodes_keep N5.out hz.out hg o6) nn2 hpos HX2.1 hm.out l2)
          have HFL : Hid (([acc, xs] : List (List Node)).flatten.length ≤ 100000) := Lib.hid (by
            simp only [List.flatten_cons, List.flatten_nil, List.length_append, List.length_nil]; omega)
          clear hx hr o6 nn2 z2 h6
          go_wp2_with fail
          refine (op_c 25 _ 2 [acc, xs] _ HPA.out HFL.out).mono ?_
          rintro e w7 ⟨B5, m5, rfl, hm5, hn5, hz5, hb5⟩
          have heq : opN 25 :: ([acc, xs] : List (List Node)).flatten = opN 25 :: (acc ++ xs) := by simp
          rw [heq] at hm5 hn5 ⊢
          obtain ⟨R, hR⟩ : ∃ R, R = opN 25 :: (acc ++ xs) := ⟨_, rfl⟩
          rw [← hR] at hm5 hn5 ⊢
          have hRl : R.length = acc.length + xs.length + 1 := by rw [hR]; simp
          have HEQ := Lib.hid hR
          have hb6 : Below w6.heap.size w6 w7 := ((Below.refl _ w6).alloc (Nat.le_refl _) _).trans (hb5.mono (by simp))
          have HO := Lib.hid (O6.out.thenBelow hb6)
          have HPS := Lib.hid (H6.out.below hb6)
          have HZ := Lib.hid (hz5.mono (by have := O6.out.size; simp; omega) : NewAt w.heap.size B5)
          have HM5 := Lib.hid hm5
          have HN5 := Lib.hid hn5
          clear hR heq hb5 hb6 hz5 hm5 hn5
          go_wp2_with fail
          rcases need_cases HR6.out with ⟨hb, hr⟩ | ⟨hb, rfl⟩
          rotate_left
          · refine (need_no HPS.out _ hb).mono ?_
            rintro e w8 ⟨rfl, ho8⟩
            unfold pan
            go_wp2_with fail
            exact ⟨rfl, rfl, HO.out.trans ho8⟩
          refine (need_yes HPS.out _ hb).mono ?_
          rintro e w8 ⟨rfl, o8, h8⟩
          have hbl := isAt_lt hb
          have H8 := Lib.hid h8
          have O8 := Lib.hid (HO.out.trans o8)
          have N8 := Lib.hid (nodes_keep HN5.out HZ.out hg o8)
          have HR8 := Lib.hid hr
          clear o8 h8 hr hb
          go_wp2_with fail
          go_roundw
          case rel =>
            refine ⟨k, j2 + 1, m5, B5, R, by omega, H8.out.le, by omega, by omega, by rw [hRl], HM5, Lib.hid ?_, H8, N8, HZ, O8⟩
            rw [HEQ.out]; exact HR8.out
          case measure =>
            have q1 := hps.out.cells.2.1
            have q2 := H8.out.cells.2.1
            rw [cellNat_eq q1, cellNat_eq q2]
            omega
      by_cases e26 : s.toList = [99,111,110,116,97,105,110,115,65,108,108]
      · have hpo : postOp s.toList = 26 := by rw [e26]; rfl
        have hr := HR3.out
        rw [hpo] at hr
        go_wp2_with fail
        cases hp : isAt ts (j + 1 + 1) [40] with
        | false =>
          have hI := is_c H3.out [40]
          rw [hp] at hI hr
          rw [if_pos (by rfl)] at hr
          have HRX := Lib.hid hr
          clear hr hpo hp
          refine hI.mono ?_
          rintro e wx ⟨rfl, h4⟩
          have HX := Lib.hid (H3.out.below h4)
          have OX := Lib.hid (O3.out.thenBelow h4)
          have NX := Lib.hid (nodes_keep N3.out hz.out hg (Only.ofBelow h4))
          clear hI h4
          go_wp2_with fail
          have HPA := Lib.hid (parts_one NX.out hpos hm.out)
          have HFL : Hid (([acc] : List (List Node)).flatten.length ≤ 100000) := Lib.hid (by
            simp only [List.flatten_cons, List.flatten_nil, List.append_nil]; omega)
          have hnc := node_c ⟨22, 0, s, ⟨#[]⟩⟩ _ 1 [acc] _ HPA.out HFL.out
          have HNC := Lib.hid hnc
          simp only [Node.val] at HNC
          clear hnc
          go_wp2_with fail
          refine HNC.out.mono ?_
          rintro e w5 ⟨B5, m5, rfl, hm5, hn5, hz5, hb5⟩
          have heq : (⟨22, 0, s, ⟨#[]⟩⟩ : Node) :: ([acc] : List (List Node)).flatten = ⟨22, 0, s, ⟨#[]⟩⟩ :: acc := by simp
          rw [heq] at hm5 hn5 ⊢
          obtain ⟨R, hR⟩ : ∃ R, R = (⟨22, 0, s, ⟨#[]⟩⟩ : Node) :: acc := ⟨_, rfl⟩
          rw [← hR] at hm5 hn5 ⊢
          have hRl : R.length = acc.length + 1 := by rw [hR]; simp
          have HEQ := Lib.hid hR
          have hb6 : Below wx.heap.size wx w5 := ((Below.refl _ wx).alloc (Nat.le_refl _) _).trans (hb5.mono (by simp))
          have HO := Lib.hid (OX.out.thenBelow hb6)
          have HPS := Lib.hid (HX.out.below hb6)
          have HZ := Lib.hid (hz5.mono (by have := OX.out.size; simp; omega) : NewAt w.heap.size B5)
          have HM5 := Lib.hid hm5
          have HN5 := Lib.hid hn5
          clear hR heq hb5 hb6 hz5 hm5 hn5
          go_wp2_with fail
          go_roundw
          case rel =>
            refine ⟨k, j + 1 + 1, m5, B5, R, by omega, HPS.out.le, by omega, by omega, by rw [hRl], HM5, Lib.hid ?_, HPS, HN5, HZ, HO⟩
            rw [HEQ.out]; exact HRX.out
          case measure =>
            have q1 := hps.out.cells.2.1
            have q2 := HPS.out.cells.2.1
            rw [cellNat_eq q1, cellNat_eq q2]
            omega
        | true =>
          have hI := is_c H3.out [40]
          rw [hp] at hI hr
          rw [if_neg (by decide)] at hr
          clear hpo
          refine hI.mono ?_
          rintro e wx ⟨rfl, h4⟩
          have HX := Lib.hid (H3.out.below h4)
          have OX := Lib.hid (O3.out.thenBelow h4)
          have NX := Lib.hid (nodes_keep N3.out hz.out hg (Only.ofBelow h4))
          clear hI h4
          have HR4 := Lib.hid hr
          clear hr
          go_wp2_with fail
          refine (need_yes HX.out [40] hp).mono ?_
          rintro e w5 ⟨rfl, o5, h5⟩
          have hpl := isAt_lt hp
          have H5 := Lib.hid h5
          have O5 := Lib.hid (OX.out.trans o5)
          have N5 := Lib.hid (nodes_keep NX.out hz.out hg o5)
          clear o5 h5 hp
          go_wp2_with fail
          rcases then_cases HR4.out with ⟨er, j2, hx, rfl⟩ | ⟨xs, j2, hx, hr⟩
          · refine (HI.out k (by omega) _ _ _ hx H5.out).mono ?_
            rintro e w6 ⟨rfl, ho6⟩
            unfold pan
            go_wp2_with fail
            exact ⟨rfl, rfl, O5.out.trans ho6⟩
          refine (HI.out k (by omega) _ _ _ hx H5.out).mono ?_
          rintro e w6 ⟨B2, m2, rfl, l2, nn2, z2, o6, h6⟩
          have HX2 := HL.out _ _ _ _ hx H5.out.le
          have H6 := Lib.hid h6
          have O6 := Lib.hid (O5.out.trans o6)
          have HR6 := Lib.hid hr
          have HPA := Lib.hid (parts_two (nodes_keep N5.out hz.out hg o6) nn2 hpos HX2.1 hm.out l2)
          have HFL : Hid (([acc, xs] : List (List Node)).flatten.length ≤ 100000) := Lib.hid (by
            simp only [List.flatten_cons, List.flatten_nil, List.length_append, List.length_nil]; omega)
          clear hx hr o6 nn2 z2 h6
          go_wp2_with fail
          refine (op_c 26 _ 2 [acc, xs] _ HPA.out HFL.out).mono ?_
          rintro e w7 ⟨B5, m5, rfl, hm5, hn5, hz5, hb5⟩
          have heq : opN 26 :: ([acc, xs] : List (List Node)).flatten = opN 26 :: (acc ++ xs) := by simp
          rw [heq] at hm5 hn5 ⊢
          obtain ⟨R, hR⟩ : ∃ R, R = opN 26 :: (acc ++ xs) := ⟨_, rfl⟩
          rw [← hR] at hm5 hn5 ⊢
          have hRl : R.length = acc.length + xs.length + 1 := by rw [hR]; simp
          have HEQ := Lib.hid hR
          have hb6 : Below w6.heap.size w6 w7 := ((Below.refl _ w6).alloc (Nat.le_refl _) _).trans (hb5.mono (by simp))
          have HO := Lib.hid (O6.out.thenBelow hb6)
          have HPS := Lib.hid (H6.out.below hb6)
          have HZ := Lib.hid (hz5.mono (by have := O6.out.size; simp; omega) : NewAt w.heap.size B5)
          have HM5 := Lib.hid hm5
          have HN5 := Lib.hid hn5
          clear hR heq hb5 hb6 hz5 hm5 hn5
          go_wp2_with fail
          rcases need_cases HR6.out with ⟨hb, hr⟩ | ⟨hb, rfl⟩
          rotate_left
          · refine (need_no HPS.out _ hb).mono ?_
            rintro e w8 ⟨rfl, ho8⟩
            unfold pan
            go_wp2_with fail
            exact ⟨rfl, rfl, HO.out.trans ho8⟩
          refine (need_yes HPS.out _ hb).mono ?_
          rintro e w8 ⟨rfl, o8, h8⟩
          have hbl := isAt_lt hb
          have H8 := Lib.hid h8
          have O8 := Lib.hid (HO.out.trans o8)
          have N8 := Lib.hid (nodes_keep HN5.out HZ.out hg o8)
          have HR8 := Lib.hid hr
          clear o8 h8 hr hb
          go_wp2_with fail
          go_roundw
          case rel =>
            refine ⟨k, j2 + 1, m5, B5, R, by omega, H8.out.le, by omega, by omega, by rw [hRl], HM5, Lib.hid ?_, H8, N8, HZ, O8⟩
            rw [HEQ.out]; exact HR8.out
          case measure =>
            have q1 := hps.out.cells.2.1
            have q2 := H8.out.cells.2.1
            rw [cellNat_eq q1, cellNat_eq q2]
            omega
      by_cases e27 : s.toList = [99,111,110,116,97,105,110,115,65,110,121]
      · have hpo : postOp s.toList = 27 := by rw [e27]; rfl
        have hr := HR3.out
        rw [hpo] at hr
        go_wp2_with fail
        cases hp : isAt ts (j + 1 + 1) [40] with
        | false =>
          have hI := is_c H3.out [40]
          rw [hp] at hI hr
          rw [if_pos (by rfl)] at hr
          have HRX := Lib.hid hr
          clear hr hpo hp
          refine hI.mono ?_
          rintro e wx ⟨rfl, h4⟩
          have HX := Lib.hid (H3.out.below h4)
          have OX := Lib.hid (O3.out.thenBelow h4)
          have NX := Lib.hid (nodes_keep N3.out hz.out hg (Only.ofBelow h4))
          clear hI h4
          go_wp2_with fail
          have HPA := Lib.hid (parts_one NX.out hpos hm.out)
          have HFL : Hid (([acc] : List (List Node)).flatten.length ≤ 100000) := Lib.hid (by
            simp only [List.flatten_cons, List.flatten_nil, List.append_nil]; omega)
          have hnc := node_c ⟨22, 0, s, ⟨#[]⟩⟩ _ 1 [acc] _ HPA.out HFL.out
          have HNC := Lib.hid hnc
          simp only [Node.val] at HNC
          clear hnc
          go_wp2_with fail
          refine HNC.out.mono ?_
          rintro e w5 ⟨B5, m5, rfl, hm5, hn5, hz5, hb5⟩
          have heq : (⟨22, 0, s, ⟨#[]⟩⟩ : Node) :: ([acc] : List (List Node)).flatten = ⟨22, 0, s, ⟨#[]⟩⟩ :: acc := by simp
          rw [heq] at hm5 hn5 ⊢
          obtain ⟨R, hR⟩ : ∃ R, R = (⟨22, 0, s, ⟨#[]⟩⟩ : Node) :: acc := ⟨_, rfl⟩
          rw [← hR] at hm5 hn5 ⊢
          have hRl : R.length = acc.length + 1 := by rw [hR]; simp
          have HEQ := Lib.hid hR
          have hb6 : Below wx.heap.size wx w5 := ((Below.refl _ wx).alloc (Nat.le_refl _) _).trans (hb5.mono (by simp))
          have HO := Lib.hid (OX.out.thenBelow hb6)
          have HPS := Lib.hid (HX.out.below hb6)
          have HZ := Lib.hid (hz5.mono (by have := OX.out.size; simp; omega) : NewAt w.heap.size B5)
          have HM5 := Lib.hid hm5
          have HN5 := Lib.hid hn5
          clear hR heq hb5 hb6 hz5 hm5 hn5
          go_wp2_with fail
          go_roundw
          case rel =>
            refine ⟨k, j + 1 + 1, m5, B5, R, by omega, HPS.out.le, by omega, by omega, by rw [hRl], HM5, Lib.hid ?_, HPS, HN5, HZ, HO⟩
            rw [HEQ.out]; exact HRX.out
          case measure =>
            have q1 := hps.out.cells.2.1
            have q2 := HPS.out.cells.2.1
            rw [cellNat_eq q1, cellNat_eq q2]
            omega
        | true =>
          have hI := is_c H3.out [40]
          rw [hp] at hI hr
          rw [if_neg (by decide)] at hr
          clear hpo
          refine hI.mono ?_
          rintro e wx ⟨rfl, h4⟩
          have HX := Lib.hid (H3.out.below h4)
          have OX := Lib.hid (O3.out.thenBelow h4)
          have NX := Lib.hid (nodes_keep N3.out hz.out hg (Only.ofBelow h4))
          clear hI h4
          have HR4 := Lib.hid hr
          clear hr
          go_wp2_with fail
          refine (need_yes HX.out [40] hp).mono ?_
          rintro e w5 ⟨rfl, o5, h5⟩
          have hpl := isAt_lt hp
          have H5 := Lib.hid h5
          have O5 := Lib.hid (OX.out.trans o5)
          have N5 := Lib.hid (nodes_keep NX.out hz.out hg o5)
          clear o5 h5 hp
          go_wp2_with fail
          rcases then_cases HR4.out with ⟨er, j2, hx, rfl⟩ | ⟨xs, j2, hx, hr⟩
          · refine (HI.out k (by omega) _ _ _ hx H5.out).mono ?_
            rintro e w6 ⟨rfl, ho6⟩
            unfold pan
            go_wp2_with fail
            exact ⟨rfl, rfl, O5.out.trans ho6⟩
          refine (HI.out k (by omega) _ _ _ hx H5.out).mono ?_
          rintro e w6 ⟨B2, m2, rfl, l2, nn2, z2, o6, h6⟩
          have HX2 := HL.out _ _ _ _ hx H5.out.le
          have H6 := Lib.hid h6
          have O6 := Lib.hid (O5.out.trans o6)
          have HR6 := Lib.hid hr
          have HPA := Lib.hid (parts_two (nodes_keep N5.out hz.out hg o6) nn2 hpos HX2.1 hm.out l2)
          have HFL : Hid (([acc, xs] : List (List Node)).flatten.length ≤ 100000) := Lib.hid (by
            simp only [List.flatten_cons, List.flatten_nil, List.length_append, List.length_nil]; omega)
          clear hx hr o6 nn2 z2 h6
          go_wp2_with fail
          refine (op_c 27 _ 2 [acc, xs] _ HPA.out HFL.out).mono ?_
          rintro e w7 ⟨B5, m5, rfl, hm5, hn5, hz5, hb5⟩
          have heq : opN 27 :: ([acc, xs] : List (List Node)).flatten = opN 27 :: (acc ++ xs) := by simp
          rw [heq] at hm5 hn5 ⊢
          obtain ⟨R, hR⟩ : ∃ R, R = opN 27 :: (acc ++ xs) := ⟨_, rfl⟩
          rw [← hR] at hm5 hn5 ⊢
          have hRl : R.length = acc.length + xs.length + 1 := by rw [hR]; simp
          have HEQ := Lib.hid hR
          have hb6 : Below w6.heap.size w6 w7 := ((Below.refl _ w6).alloc (Nat.le_refl _) _).trans (hb5.mono (by simp))
          have HO := Lib.hid (O6.out.thenBelow hb6)
          have HPS := Lib.hid (H6.out.below hb6)
          have HZ := Lib.hid (hz5.mono (by have := O6.out.size; simp; omega) : NewAt w.heap.size B5)
          have HM5 := Lib.hid hm5
          have HN5 := Lib.hid hn5
          clear hR heq hb5 hb6 hz5 hm5 hn5
          go_wp2_with fail
          rcases need_cases HR6.out with ⟨hb, hr⟩ | ⟨hb, rfl⟩
          rotate_left
          · refine (need_no HPS.out _ hb).mono ?_
            rintro e w8 ⟨rfl, ho8⟩
            unfold pan
            go_wp2_with fail
            exact ⟨rfl, rfl, HO.out.trans ho8⟩
          refine (need_yes HPS.out _ hb).mono ?_
          rintro e w8 ⟨rfl, o8, h8⟩
          have hbl := isAt_lt hb
          have H8 := Lib.hid h8
          have O8 := Lib.hid (HO.out.trans o8)
          have N8 := Lib.hid (nodes_keep HN5.out HZ.out hg o8)
          have HR8 := Lib.hid hr
          clear o8 h8 hr hb
          go_wp2_with fail
          go_roundw
          case rel =>
            refine ⟨k, j2 + 1, m5, B5, R, by omega, H8.out.le, by omega, by omega, by rw [hRl], HM5, Lib.hid ?_, H8, N8, HZ, O8⟩
            rw [HEQ.out]; exact HR8.out
          case measure =>
            have q1 := hps.out.cells.2.1
            have q2 := H8.out.cells.2.1
            rw [cellNat_eq q1, cellNat_eq q2]
            omega
      have f25 : (s.toList == [99,111,110,116,97,105,110,115]) = false := by simp [e25]
      have f26 : (s.toList == [99,111,110,116,97,105,110,115,65,108,108]) = false := by simp [e26]
      have f27 : (s.toList == [99,111,110,116,97,105,110,115,65,110,121]) = false := by simp [e27]
      have hpo : postOp s.toList = 0 := by rw [postOp, if_neg e25, if_neg e26, if_neg e27]
      have hr := HR3.out
      rw [hpo] at hr
      rw [if_pos (by rfl)] at hr
      have HRX := Lib.hid hr
      have HX := H3
      have OX := O3
      have NX := N3
      clear hr hpo
      obtain ⟨wx, hwx⟩ : ∃ wx, wx = w3 := ⟨_, rfl⟩
      subst hwx
      go_wp2_with fail
      have HPA := Lib.hid (parts_one NX.out hpos hm.out)
      have HFL : Hid (([acc] : List (List Node)).flatten.length ≤ 100000) := Lib.hid (by
        simp only [List.flatten_cons, List.flatten_nil, List.append_nil]; omega)
      have hnc := node_c ⟨22, 0, s, ⟨#[]⟩⟩ _ 1 [acc] _ HPA.out HFL.out
      have HNC := Lib.hid hnc
      simp only [Node.val] at HNC
      clear hnc
      go_wp2_with fail
      refine HNC.out.mono ?_
      rintro e w5 ⟨B5, m5, rfl, hm5, hn5, hz5, hb5⟩
      have heq : (⟨22, 0, s, ⟨#[]⟩⟩ : Node) :: ([acc] : List (List Node)).flatten = ⟨22, 0, s, ⟨#[]⟩⟩ :: acc := by simp
      rw [heq] at hm5 hn5 ⊢
      obtain ⟨R, hR⟩ : ∃ R, R = (⟨22, 0, s, ⟨#[]⟩⟩ : Node) :: acc := ⟨_, rfl⟩
      rw [← hR] at hm5 hn5 ⊢
      have hRl : R.length = acc.length + 1 := by rw [hR]; simp
      have HEQ := Lib.hid hR
      have hb6 : Below wx.heap.size wx w5 := ((Below.refl _ wx).alloc (Nat.le_refl _) _).trans (hb5.mono (by simp))
      have HO := Lib.hid (OX.out.thenBelow hb6)
      have HPS := Lib.hid (HX.out.below hb6)
      have HZ := Lib.hid (hz5.mono (by have := OX.out.size; simp; omega) : NewAt w.heap.size B5)
      have HM5 := Lib.hid hm5
      have HN5 := Lib.hid hn5
      clear hR heq hb5 hb6 hz5 hm5 hn5
      go_wp2_with fail
      go_roundw
      case rel =>
        refine ⟨k, j + 1 + 1, m5, B5, R, by omega, HPS.out.le, by omega, by omega, by rw [hRl], HM5, Lib.hid ?_, HPS, HN5, HZ, HO⟩
        rw [HEQ.out]; exact HRX.out
      case measure =>
        have q1 := hps.out.cells.2.1
        have q2 := HPS.out.cells.2.1
        rw [cellNat_eq q1, cellNat_eq q2]
        omega
end Go.Proofs.YtfaadlfaimhbbaaGreatDoor

namespace Go.Proofs.YtfaadlfaimhbbaaGreatDoor
open Go.RowKit

theorem one_post {g : Nat} {A : Option Addr} {c : Nat} {ts : List Tok} {w w1 : World} {x : Node} {j : Nat} (ho : Only g w w1) (h : Ps g A c ts j w1) :
    PPost g A c ts w (.ok ([x], j)) (.returned (.slice (some ⟨w1.heap.size, 0, none⟩) 1 1)) (w1.alloc (.cells #[.int .i64 x.op, .int .i64 x.n, .string x.s, .string x.t] 31)) :=
  ⟨_, 1, rfl, Nat.le_refl _, Arr.ofOwn (own_one w1 w1.heap.size x (Nat.le_refl _)), fun b off sp e => by injection e with e; injection e with e _; rw [← e]; exact ho.size, ho.alloc _, h.below ((Below.refl _ _).alloc (Nat.le_refl _) _)⟩

theorem below_bytes {w w' : World} (h : w' = w ∨ ∃ t, w' = Lib.bytesWorld w 5 t) : Below w.heap.size w w' := by
  rcases h with rfl | ⟨t, rfl⟩
  · exact Below.refl _ _
  · exact ⟨rfl, rfl, rfl, by rw [Lib.bytesWorld_size]; omega, fun k hk => Lib.bytesWorld_at_old w 5 t k hk⟩

set_option maxRecDepth 100000 in
set_option maxHeartbeats 2000000 in
theorem number_c {g : Nat} {A : Option Addr} {c : Nat} {ts : List Tok} (i : Nat) (mi : List UInt8) (hmi : mi.length ≤ 10) (r : PRes) (w : World) (hr : numberP ts i mi = some r) (h : Ps g A c ts i w) :
    Calls Tryz.prog 220 #[.pointer (some ⟨g, 0, none⟩), .string ⟨mi.toArray⟩] w (PPost g A c ts w r) := by
  have hlen := h.len
  have hg := h.lt
  unfold numberP at hr
  rcases word_cases (by decide) hr with ⟨t, ht, hk, hr⟩ | ⟨hk, rfl⟩
  rotate_left
  · have HW := Lib.hid (word_no h 2 hk)
    clear h hr hk
    generalize (Value.string ⟨mi.toArray⟩) = S
    go_enter Tryz.func220, Tryz.ntmps220
    go_wp2_with (go_at_call 144; refine HW.out.mono ?_; rintro e w1 ⟨rfl, ho⟩; unfold pan)
    exact ⟨rfl, rfl, ho⟩
  · have HW := Lib.hid (word_yes h 2 t ht hk)
    have hts := h.small t (List.mem_of_getElem? ht)
    have hjl := lt_of_some ht
    have hS : ((⟨mi.toArray⟩ : ByteArray) ++ t.s).data.toList = mi ++ t.s.data.toList := by simp [ByteArray.data_append]
    have hmz : (⟨mi.toArray⟩ : ByteArray).size ≤ 10 := by simpa [ByteArray.size] using hmi
    have hcat := fun w => run_string_add_sum (P := Tryz.prog) w ⟨mi.toArray⟩ t.s (by omega)
    have hSz : ((⟨mi.toArray⟩ : ByteArray) ++ t.s).size ≤ 100000010 := by rw [ByteArray.size_append]; omega
    generalize hMM : (⟨mi.toArray⟩ : ByteArray) = M at hS hcat hSz ⊢
    generalize hSS : M ++ t.s = S at hS hcat hSz
    rw [← hS] at hr
    clear hS hSS hmz hMM h ht hk
    cases hp : Lib.parseIntB 64 S.data.toList with
    | ok v =>
      rw [hp] at hr
      injection hr with hr
      have HRR := Lib.hid hr
      have HC := Lib.hid (fun w => Tryz.strconv_ParseInt_10_at64_ok S (by omega) v hp w)
      clear hr hp
      go_enter Tryz.func220, Tryz.ntmps220
      go_wp2_with (first
        | (go_at_call 144; refine HW.out.mono ?_; rintro e w1 ⟨rfl, o1, h1⟩; have H1 := Lib.hid h1; have O1 := Lib.hid o1; clear h1 o1)
        | (go_at_call 225; refine (HC.out _).mono ?_; rintro e w2 ⟨rfl, hb⟩; have HB := Lib.hid (below_bytes hb); clear hb))
      go_ret
      obtain rfl := HRR.out
      exact one_post (O1.out.thenBelow HB.out) (H1.out.below HB.out)
    | range =>
      rw [hp] at hr
      injection hr with hr
      have HRR := Lib.hid hr
      have HC := Lib.hid (fun ev w hv hev => Tryz.strconv_ParseInt_10_at64_range S (by omega) hp ev w hv hev)
      clear hr hp
      go_enter Tryz.func220, Tryz.ntmps220
      go_wp2_with (first
        | (go_at_call 144; refine HW.out.mono ?_; rintro e w1 ⟨rfl, o1, h1⟩; have H1 := Lib.hid h1; have O1 := Lib.hid o1; clear h1 o1; obtain ⟨ev, hv, hev⟩ := H1.out.vars.2.1; have HV := Lib.hid hv; have HEV := Lib.hid hev; clear hv hev)
        | (go_at_call 225; refine (HC.out ev _ HV.out HEV.out).mono ?_; rintro e w2 ⟨N, rfl, hn, hb1, hb⟩; have HB := Lib.hid hb; have H2 := Lib.hid (H1.out.below hb); obtain ⟨c0, c1, f0, f1⟩ := H2.out.cells; clear hb hb1 hn))
      refine ⟨rfl, ?_⟩
      obtain rfl := HRR.out
      exact ⟨rfl, O1.out.thenBelow HB.out⟩
    | _ =>
      rw [hp] at hr
      injection hr with hr
      have HRR := Lib.hid hr
      have HC := Lib.hid (fun ev w hv hev => Tryz.strconv_ParseInt_10_at64_bad S (by omega) (fun v hv => by rw [hp] at hv; cases hv) (fun hv => by rw [hp] at hv; cases hv) ev w hv hev)
      clear hr hp
      go_enter Tryz.func220, Tryz.ntmps220
      go_wp2_with (first
        | (go_at_call 144; refine HW.out.mono ?_; rintro e w1 ⟨rfl, o1, h1⟩; have H1 := Lib.hid h1; have O1 := Lib.hid o1; clear h1 o1; obtain ⟨ev, hv, hev⟩ := H1.out.vars.1; have HV := Lib.hid hv; have HEV := Lib.hid hev; clear hv hev)
        | (go_at_call 225; refine (HC.out ev _ HV.out HEV.out).mono ?_; rintro e w2 ⟨N, rfl, hn, hb1, hb⟩; have HB := Lib.hid hb; have H2 := Lib.hid (H1.out.below hb); obtain ⟨c0, c1, f0, f1⟩ := H2.out.cells; clear hb hb1 hn))
      refine ⟨rfl, ?_⟩
      obtain rfl := HRR.out
      exact ⟨rfl, O1.out.thenBelow HB.out⟩
end Go.Proofs.YtfaadlfaimhbbaaGreatDoor

namespace Go.Proofs.YtfaadlfaimhbbaaGreatDoor
open Go.RowKit

set_option maxRecDepth 100000 in
set_option maxHeartbeats 2000000 in
theorem named2_c {g : Nat} {A : Option Addr} {c : Nat} {ts : List Tok} (i : Nat) (r : PRes) (w : World) (hk1 : kindAt ts i = 1) (hr : namedP ts i = some r) (h : Ps g A c ts i w) :
    Calls Tryz.prog 221 #[.pointer (some ⟨g, 0, none⟩)] w (PPost g A c ts w r) := by
  have hlen := h.len
  have hg := h.lt
  have H := Lib.hid h
  obtain ⟨t, ht, hkt⟩ := kindAt_is (by decide) hk1
  have hlt := lt_of_some ht
  have HT := Lib.hid ht
  have HK := Lib.hid hkt
  unfold namedP at hr
  cases b1 : isAt ts (i + 1) [58, 58] with
  | true =>
    rw [if_pos b1] at hr
    have HA := Lib.hid (ahead_c h 1 (by omega) [58, 58])
    rw [b1] at HA
    have hlt2 := isAt_lt b1
    rcases word_cases (by decide) hr with ⟨t', ht', _, hr⟩ | ⟨hk, _⟩
    rotate_left
    · exact absurd hk1 hk
    rw [ht] at ht'
    injection ht' with ht'
    subst ht'
    have HR := Lib.hid hr
    clear hr h ht hkt hk1 b1
    go_enter Tryz.func221, Tryz.ntmps221
    go_wp2_with (go_at_call 40; refine HA.out.mono ?_; rintro e w1 ⟨rfl, h1⟩; have H1 := Lib.hid (H.out.below h1); have O1 := Lib.hid (Only.ofBelow (g := g) h1); clear h1)
    refine (word_yes H1.out 1 t HT.out HK.out).mono ?_
    rintro e w2 ⟨rfl, o2, h2⟩
    have H2 := Lib.hid h2
    have O2 := Lib.hid (O1.out.trans o2)
    clear o2 h2
    obtain ⟨c0, c1, f0, f1⟩ := H2.out.cells
    go_wp2_with fail
    have H3 := Lib.hid (H2.out.step (j := i + 1 + 1) hlt2)
    have O3 := Lib.hid (O2.out.set_ 1 (.int .i64 ((i + 1 + 1 : Nat) : Int)))
    rw [show (i : Int) + 1 + 1 = ((i + 1 + 1 : Nat) : Int) from rfl]
    generalize w2.setCell ⟨g, 1, none⟩ (.int .i64 ((i + 1 + 1 : Nat) : Int)) = w3 at H3 O3 ⊢
    clear c0 c1 f0 f1
    rcases word_cases (by decide) HR.out with ⟨u, hu, hku, hr⟩ | ⟨hk, rfl⟩
    rotate_left
    · refine (word_no H3.out 3 hk).mono ?_
      rintro e w4 ⟨rfl, ho⟩
      unfold pan
      go_wp2_with fail
      exact ⟨rfl, rfl, O3.out.trans ho⟩
    refine (word_yes H3.out 3 u hu hku).mono ?_
    rintro e w4 ⟨rfl, o4, h4⟩
    have H4 := Lib.hid h4
    have O4 := Lib.hid (O3.out.trans o4)
    injection hr with hr
    have HRR := Lib.hid hr
    clear o4 h4 hu hku hr
    go_wp2_with fail
    go_ret
    obtain rfl := HRR.out
    exact one_post O4.out H4.out
  | false =>
    rw [if_neg (by rw [b1]; decide)] at hr
    have HA := Lib.hid (ahead_c h 1 (by omega) [58, 58])
    rw [b1] at HA
    have HR := Lib.hid hr
    clear hr h ht hkt hk1 b1
    go_enter Tryz.func221, Tryz.ntmps221
    go_wp2_with (go_at_call 40; refine HA.out.mono ?_; rintro e w1 ⟨rfl, h1⟩; have H1 := Lib.hid (H.out.below h1); have O1 := Lib.hid (Only.ofBelow (g := g) h1); clear h1)
    cases b2 : isAt ts i [116, 114, 117, 101] with
    | true =>
      have hT := take_c H1.out [116, 114, 117, 101]
      have hr := HR.out
      rw [if_pos b2] at hr
      rw [b2] at hT
      injection hr with hr
      have HRR := Lib.hid hr
      clear hr b2
      refine hT.mono ?_
      rintro e w2 ⟨rfl, o2, h2⟩
      rw [if_pos rfl] at h2
      clear hT
      have O2 := Lib.hid (O1.out.trans o2)
      have H2 := Lib.hid h2
      clear o2 h2
      go_wp2_with fail
      go_ret
      obtain rfl := HRR.out
      exact one_post O2.out H2.out
    | false =>
      have hT := take_c H1.out [116, 114, 117, 101]
      have hr := HR.out
      rw [if_neg (by rw [b2]; decide)] at hr
      rw [b2] at hT
      have HR2 := Lib.hid hr
      clear hr b2 HR
      refine hT.mono ?_
      rintro e w2 ⟨rfl, o2, h2⟩
      rw [if_neg (by decide)] at h2
      clear hT
      have O2 := Lib.hid (O1.out.trans o2)
      have H2 := Lib.hid h2
      clear o2 h2
      go_wp2_with fail
      cases b3 : isAt ts i [102, 97, 108, 115, 101] with
      | true =>
        have hT := take_c H2.out [102, 97, 108, 115, 101]
        have hr := HR2.out
        rw [if_pos b3] at hr
        rw [b3] at hT
        injection hr with hr
        have HRR := Lib.hid hr
        clear hr b3
        refine hT.mono ?_
        rintro e w3 ⟨rfl, o3, h3⟩
        rw [if_pos rfl] at h3
        clear hT
        have O3 := Lib.hid (O2.out.trans o3)
        have H3 := Lib.hid h3
        clear o3 h3
        go_wp2_with fail
        go_ret
        obtain rfl := HRR.out
        exact one_post O3.out H3.out
      | false =>
        have hT := take_c H2.out [102, 97, 108, 115, 101]
        have hr := HR2.out
        rw [if_neg (by rw [b3]; decide)] at hr
        rw [b3] at hT
        have HR3 := Lib.hid hr
        clear hr b3 HR2
        refine hT.mono ?_
        rintro e w3 ⟨rfl, o3, h3⟩
        rw [if_neg (by decide)] at h3
        clear hT
        have O3 := Lib.hid (O2.out.trans o3)
        have H3 := Lib.hid h3
        clear o3 h3
        go_wp2_with fail
        rcases word_cases (by decide) HR3.out with ⟨u, hu, hku, hr⟩ | ⟨hk, _⟩
        rotate_left
        · exact absurd ((kindAt_some HT.out).trans HK.out) hk
        rw [HT.out] at hu
        injection hu with hu
        subst hu
        obtain ⟨b, off, rfl, hb1, d0, d1, d2⟩ := H3.out.toks.at_ HT.out
        obtain ⟨c0, c1, f0, f1⟩ := H3.out.cells
        have hlt' : (i : Int) < ts.length := by omega
        have hl2 : (ts.length : Int) ≤ 300 := by omega
        cases hres : reserved t.s with
        | true =>
          have HRES := Lib.hid (fun w => reserved_c t.s w)
          rw [hres, if_pos rfl] at hr
          rw [hres] at HRES
          injection hr with hr
          have HRR := Lib.hid hr
          clear hr hres hku
          go_quiet ((exact quiet_left (HRES.out _)))
          revert nq
          intro n4
          go_wp2_with fail
          refine (reservedM_c (H3.out.drewN n4) hlt).mono ?_
          rintro e w5 ⟨rfl, o5⟩
          unfold pan
          go_wp2_with fail
          obtain rfl := HRR.out
          exact ⟨rfl, rfl, (O3.out.drewN n4).trans o5⟩
        | false =>
          have HRES := Lib.hid (fun w => reserved_c t.s w)
          rw [hres, if_neg (by decide)] at hr
          rw [hres] at HRES
          injection hr with hr
          have HRR := Lib.hid hr
          clear hr hres hku
          go_quiet ((exact quiet_left (HRES.out _)))
          revert nq
          intro n4
          have H4 := Lib.hid (H3.out.drewN n4)
          have O4 := Lib.hid (O3.out.drewN n4)
          generalize w3.drewN n4 = w4 at H4 O4 ⊢
          clear c0 c1 d0 d1 d2
          go_wp2_with fail
          refine (word_yes H4.out 1 t HT.out HK.out).mono ?_
          rintro e w5 ⟨rfl, o5, h5⟩
          have H5 := Lib.hid h5
          have O5 := Lib.hid (O4.out.trans o5)
          clear o5 h5
          go_wp2_with fail
          go_ret
          obtain rfl := HRR.out
          exact one_post O5.out H5.out
end Go.Proofs.YtfaadlfaimhbbaaGreatDoor

namespace Go.Proofs.YtfaadlfaimhbbaaGreatDoor
open Go.RowKit

def Row (N : Nat) (w : World) (P : Option Addr) (d : Nat) (parts : List (List Node)) : Prop :=
  ∃ vs : List Value, vs.length = parts.length ∧ w.ownsRow N 23 1 (.slice P parts.length d) parts.length vs ∧
    ∀ (k : Nat) (p : List Node), parts[k]? = some p → ∃ B m, vs[k]? = some (.slice B p.length m) ∧ p.length ≤ m ∧ NodesAt w B p ∧ 0 < p.length ∧ NewAt N B ∧ (∀ b off sp, B = some ⟨b, off, sp⟩ → (Value.slice P parts.length d).ownBlock ≠ some b)
theorem Row.nil (N : Nat) (w : World) : Row N w none 0 [] := ⟨[], rfl, World.ownsRow_nil _ _ _ _, fun k p h => by simp at h⟩
theorem Row.only {N g : Nat} {w w' : World} {P : Option Addr} {d : Nat} {parts : List (List Node)} (h : Row N w P d parts) (ho : Only g w w') (hg : g < N) : Row N w' P d parts := by
  obtain ⟨vs, h1, h2, h3⟩ := h
  refine ⟨vs, h1, h2.kept ho ?_, fun k p hk => ?_⟩
  · cases hv : (Value.slice P parts.length d).ownBlock with
    | none => exact .inl rfl
    | some k => exact .inr (by have := (h2.lt k hv).1; intro e; injection e; omega)
  · obtain ⟨B, m, e1, e2, e3, e4, e5, e6⟩ := h3 k p hk
    exact ⟨B, m, e1, e2, Only.arr ho e3 (fun b off sp e => by have := e5 b off sp e; omega), e4, e5, e6⟩
theorem Row.parts {N : Nat} {w : World} {P : Option Addr} {d : Nat} {parts : List (List Node)} (h : Row N w P d parts) : PartsAt w P parts := by
  obtain ⟨vs, h1, h2, h3⟩ := h
  refine ⟨vs, h1, Arr.ofOwn h2, fun k p hk => ?_⟩
  obtain ⟨B, m, e1, e2, e3, e4, _⟩ := h3 k p hk
  exact ⟨B, m, e1, e2, e3, e4⟩
theorem Row.lt {N : Nat} {w : World} {P : Option Addr} {d : Nat} {parts : List (List Node)} (h : Row N w P d parts) : ∀ k, (Value.slice P parts.length d).ownBlock = some k → N ≤ k ∧ k < w.heap.size := by
  obtain ⟨vs, h1, h2, h3⟩ := h
  exact h2.lt
theorem arr_grown {w w' : World} {k n : Nat} {A : Option Addr} {xs : List Value} {row : Option Nat} (h : Arr w k A n xs) (hg : w.grownBy w' row) (hne : ∀ b off sp, A = some ⟨b, off, sp⟩ → row ≠ some b) : Arr w' k A n xs :=
  ⟨h.1, fun hn => by
    obtain ⟨b, off, e, hb, hc⟩ := h.2 hn
    exact ⟨b, off, e, Nat.lt_of_lt_of_le hb hg.size, fun j u hu => (World.cell?_of_block (hg.block b hb (fun e' => hne b off _ e e'.symm))).trans (hc j u hu)⟩⟩
theorem Row.add {N : Nat} {w w' : World} {P P' : Option Addr} {d d' : Nat} {parts : List (List Node)} {x : List Node} {B : Option Addr} {m : Nat} {vs : List Value} (h1 : vs.length = parts.length)
    (h3 : ∀ (k : Nat) (p : List Node), parts[k]? = some p → ∃ B m, vs[k]? = some (.slice B p.length m) ∧ p.length ≤ m ∧ NodesAt w B p ∧ 0 < p.length ∧ NewAt N B ∧ (∀ b off sp, B = some ⟨b, off, sp⟩ → (Value.slice P parts.length d).ownBlock ≠ some b))
    (hx : NodesAt w B x) (hx0 : 0 < x.length) (hxm : x.length ≤ m) (hxn : NewAt N B) (hxb : ∀ b off sp, B = some ⟨b, off, sp⟩ → (Value.slice P parts.length d).ownBlock ≠ some b)
    (o : Obj) (hown : w'.ownsRow N 23 1 (.slice P' (parts.length + 1) d') (parts.length + 1) (vs ++ [.slice B x.length m])) (hg : (w.alloc o).grownBy w' (Value.slice P parts.length d).ownBlock)
    (hloc : (Value.slice P' (parts.length + 1) d').ownBlock = (Value.slice P parts.length d).ownBlock ∨ (Value.slice P' (parts.length + 1) d').ownBlock = some (w.heap.size + 1)) :
    Row N w' P' d' (parts ++ [x]) := by
  have hl : (parts ++ [x]).length = parts.length + 1 := by simp
  have keep : ∀ (C : Option Addr) (p : List Node), NodesAt w C p → 0 < p.length → (∀ b off sp, C = some ⟨b, off, sp⟩ → (Value.slice P parts.length d).ownBlock ≠ some b) →
      NodesAt w' C p ∧ ∀ b off sp, C = some ⟨b, off, sp⟩ → (Value.slice P' (parts.length + 1) d').ownBlock ≠ some b := by
    intro C p hp hp0 hne
    refine ⟨arr_grown (Arr.alloc hp o) hg hne, fun b off sp e => ?_⟩
    rcases hloc with hh | hh
    · rw [hh]; exact hne b off sp e
    · rw [hh]
      obtain ⟨b', off', e', hb'⟩ := nodes_block hp hp0
      rw [e] at e'
      injection e' with e'
      injection e' with e' _
      intro e2
      injection e2 with e2
      omega
  refine ⟨vs ++ [.slice B x.length m], by simp [h1], by rw [hl]; exact hown, fun k p hk => ?_⟩
  rw [hl]
  rcases Nat.lt_or_ge k parts.length with hlt | hge
  · rw [List.getElem?_append_left hlt] at hk
    obtain ⟨C, n, e1, e2, e3, e4, e5, e6⟩ := h3 k p hk
    obtain ⟨k1, k2⟩ := keep C p e3 e4 e6
    exact ⟨C, n, by rw [List.getElem?_append_left (by omega)]; exact e1, e2, k1, e4, e5, k2⟩
  · rw [List.getElem?_append_right hge] at hk
    have hk0 : k = parts.length := by
      rcases Nat.lt_or_ge parts.length k with h | h
      · rw [List.getElem?_eq_none (by simp; omega)] at hk; cases hk
      · omega
    subst hk0
    simp only [Nat.sub_self, List.getElem?_cons_zero, Option.some.injEq] at hk
    subst hk
    obtain ⟨k1, k2⟩ := keep B x hx hx0 hxb
    exact ⟨B, m, by rw [List.getElem?_append_right (by omega), h1, Nat.sub_self]; rfl, hxm, k1, hx0, hxn, k2⟩
theorem only_grown {g : Nat} {a w w' : World} {row : Option Nat} (h : Only g a w) (hg : w.grownBy w' row) (hr : ∀ k, row = some k → a.heap.size ≤ k) : Only g a w' :=
  ⟨hg.os.trans h.os, hg.tape.trans h.tape, hg.output.trans h.output, Nat.le_trans h.size hg.size, fun i hi hne => (hg.block i (Nat.lt_of_lt_of_le hi h.size) (fun e => by have := hr i e.symm; omega)).trans (h.block i hi hne)⟩
theorem slice_one (B : Option Addr) (n m : Nat) : ∀ u ∈ [Value.slice B n m], u.oneCell' = true := by intro u hu; simp at hu; subst hu; rfl
set_option maxRecDepth 100000 in
theorem sliceInfo : (Tryz.prog.info? 23).map (fun i => (i.zero, i.size, i.bytes)) = some (some (.slice none 0 0), 1, 24) := by kernel_rfl

set_option maxRecDepth 100000 in
set_option maxHeartbeats 4000000 in
theorem set_c {g : Nat} {A : Option Addr} {c : Nat} {ts : List Tok} {f : Nat} (IH : ∀ k, k ≤ f → Good g A c ts k) (i : Nat) (r : PRes) (w : World) (hr : run ts (f + 1) (.set []) i = some r) (h : Ps g A c ts i w) :
    Calls Tryz.prog 222 #[.pointer (some ⟨g, 0, none⟩)] w (PPost g A c ts w r) := by
  have hnot : ∀ (x : Bool) (w : World), (Op.unary .not (.bool x)).run Tryz.prog w = .ok (.bool (!x)) w := fun _ _ => rfl
  have hlen := h.len
  have hle := h.le
  have hg := h.lt
  have H := Lib.hid h
  have HI := Lib.hid (fun k (hk : k ≤ f) i r w => IH k hk .whole _ i r w rfl)
  have HL := Lib.hid (fun k i ns j hr hi => run_pos (ts := ts) (f := k) (pf := .whole) (i := i) (ns := ns) (j := j) hr hi rfl rfl hlen)
  have HR := Lib.hid hr
  obtain ⟨i0, hi0, hz0, hz1, hz2⟩ := info_parts sliceInfo
  clear IH hr h
  go_enter Tryz.func222, Tryz.ntmps222
  go_wp2_with fail
  go_loopw [3] (fun lv wr => ∃ (k j d : Nat) (P : Option Addr) (parts : List (List Node)), k ≤ f + 1 ∧ j ≤ ts.length ∧ parts.flatten.length ≤ j ∧ parts.length ≤ j ∧ lv = .slice P parts.length d ∧ Hid (run ts k (.set parts) j = some r) ∧ Hid (Ps g A c ts j wr) ∧ Hid (Row w.heap.size wr P d parts) ∧ Hid (Only g w wr))
    (fun _ wr => ts.length - cellNat wr ⟨g, 1, none⟩)
  case atStart => exact ⟨f + 1, i, 0, none, [], Nat.le_refl _, hle, by simp, by simp, rfl, HR, H, Lib.hid (Row.nil _ _), Lib.hid (Only.refl _ _)⟩
  case round =>
    obtain ⟨k, j, d, P, parts, hk, hj, haj, hpj, rfl, hrun, hps, hrow, ho⟩ := hrel
    obtain ⟨k, rfl⟩ : ∃ k', k = k' + 1 := by
      cases k with
      | zero => have := hrun.out; cases this
      | succ k => exact ⟨k, rfl⟩
    have hrn := hrun.out
    unfold run at hrn
    go_wp2_with fail
    cases hb : isAt ts j [93] with
    | true =>
      have hT := take_c hps.out [93]
      rw [hb] at hT hrn
      rw [if_pos rfl] at hrn
      injection hrn with hrn
      have HRN := Lib.hid hrn
      clear hrn hb
      refine hT.mono ?_
      rintro e w2 ⟨rfl, o2, h2⟩
      rw [if_pos rfl] at h2
      have H2 := Lib.hid h2
      have O2 := Lib.hid (ho.out.trans o2)
      have R2 := Lib.hid (hrow.out.only o2 hg)
      have hnc := node_c ⟨5, (parts.length : Int), ⟨#[]⟩, ⟨#[]⟩⟩ P d parts w2 R2.out.parts (by omega)
      have HNC := Lib.hid hnc
      simp only [Node.val] at HNC
      clear hT o2 h2 hnc
      go_wp2_with fail
      refine HNC.out.mono ?_
      rintro e w5 ⟨B5, m5, rfl, hm5, hn5, hz5, hb5⟩
      obtain rfl := HRN.out
      obtain ⟨R, hR⟩ : ∃ R, R = (⟨5, (parts.length : Int), ⟨#[]⟩, ⟨#[]⟩⟩ : Node) :: parts.flatten := ⟨_, rfl⟩
      rw [← hR] at hm5 hn5 ⊢
      have HEQ := Lib.hid hR
      have HO := Lib.hid (O2.out.thenBelow hb5)
      have HPS := Lib.hid (H2.out.below hb5)
      have HZ := Lib.hid (hz5.mono O2.out.size : NewAt w.heap.size B5)
      clear hR hb5 hz5
      go_wp2_with fail
      go_ret
      obtain rfl := HEQ.out
      exact ⟨B5, m5, rfl, hm5, hn5, HZ.out, HO.out, HPS.out⟩
    | false =>
      have hT := take_c hps.out [93]
      rw [hb] at hT hrn
      rw [if_neg (by decide)] at hrn
      have HRN := Lib.hid hrn
      clear hrn hb
      refine hT.mono ?_
      rintro e w2 ⟨rfl, o2, h2⟩
      rw [if_neg (by decide)] at h2
      have H2 := Lib.hid h2
      have O2 := Lib.hid (ho.out.trans o2)
      have R2 := Lib.hid (hrow.out.only o2 hg)
      have q0 := hps.out.cells.2.1
      have Q0 := Lib.hid q0
      clear hT o2 h2 q0
      by_cases h0 : parts.length = 0
      · have hr := HRN.out
        rw [if_pos h0] at hr
        obtain rfl := List.eq_nil_of_length_eq_zero h0
        have HRS := Lib.hid hr
        have HS := H2
        have OS := O2
        have RS := R2
        clear hr
        go_wp2_with fail
        rcases then_cases HRS.out with ⟨er, j2, hx, rfl⟩ | ⟨xs, j2, hx, hr⟩
        · refine (HI.out k (by omega) _ _ _ hx HS.out).mono ?_
          rintro e w6 ⟨rfl, ho6⟩
          unfold pan
          go_wp2_with fail
          exact ⟨rfl, rfl, OS.out.trans ho6⟩
        refine (HI.out k (by omega) _ _ _ hx HS.out).mono ?_
        rintro e w6 ⟨B2, m2, rfl, l2, nn2, z2, o6, h6⟩
        have HX2 := HL.out _ _ _ _ hx HS.out.le
        have O6 := Lib.hid (OS.out.trans o6)
        have hne2 : ∀ b off sp, B2 = some ⟨b, off, sp⟩ → (Value.slice P ([] : List (List Node)).length d).ownBlock ≠ some b := fun b off sp e e2 => by
          have h1 := z2 b off sp e
          have h2 := (RS.out.lt b e2).2
          omega
        obtain ⟨vs, v1, v2, v3⟩ := RS.out.only o6 hg
        have hblk6 := h6.blk
        have HADD := Lib.hid (fun P' d' w' => Row.add (N := w.heap.size) (w := w6) (w' := w') (P := P) (P' := P') (d := d) (d' := d') (parts := []) (x := xs) (B := B2) (m := m2) (vs := vs) v1 v3 nn2 HX2.1 l2 (z2.mono OS.out.size) hne2)
        have V2 := Lib.hid v2
        have HB6 := Lib.hid hblk6
        have HR6 := Lib.hid hr
        clear hx hr o6 nn2 z2 h6 v1 v2 v3 hblk6 hne2
        go_wp2_with (at_builtin; refine wpList_append_own_at _ rfl _ _ 117 rfl w.heap.size 23 i0 (.slice none 0 0) 1 24 Tryz.underlying117 hi0 hz0 hz1 hz2 rfl (by decide) _ _ _ rfl (V2.out.alloc _) ⟨w6.heap.size, 0, none⟩ 1 1 [.slice B2 xs.length m2] rfl rfl (cell_one_new _ _ _) (slice_one _ _ _) (by unfold maxLen; omega) (by omega) (by have := O6.out.size; simp; omega) ?_)
        intro v' w7 hown7 hgrow7 _ hloc7
        obtain ⟨P', d', hv, hd'⟩ := own_slice hown7
        subst hv
        have hrow7 := HADD.out P' d' w7 _ hown7 hgrow7 hloc7
        have hrk : ∀ q, (Value.slice P ([] : List (List Node)).length d).ownBlock = some q → w.heap.size ≤ q := fun q e => (V2.out.lt q e).1
        have ho7 := only_grown (O6.out.alloc _) hgrow7 hrk
        have hb7 : Blk w7 g 60 #[.slice A ts.length c, .int .i64 j2] := by
          have h0 := HB6.out.alloc (.cells #[.slice B2 xs.length m2] 23)
          exact (hgrow7.block g h0.lt (fun e => by have := hrk g e.symm; omega)).trans h0
        have hjl := HX2.2.2.2.1
        have HPS := Lib.hid (H.out.only ho7 hb7 hjl)
        have HROW := Lib.hid hrow7
        have HO7 := Lib.hid ho7
        have hfl : (([] : List (List Node)) ++ [xs]).flatten.length = ([] : List (List Node)).flatten.length + xs.length := by simp
        have hpl : (([] : List (List Node)) ++ [xs]).length = ([] : List (List Node)).length + 1 := by simp
        clear hrow7 ho7 hb7 hown7 hgrow7 hloc7 hrk
        go_wp2_with fail
        go_roundw
        case rel =>
          exact ⟨k, j2, d', P', ([] : List (List Node)) ++ [xs], by omega, hjl, by omega, by omega, by first | rfl | rw [hpl], HR6, HPS, HROW, HO7⟩
        case measure =>
          have q2 := HPS.out.cells.2.1
          rw [cellNat_eq Q0.out, cellNat_eq q2]
          omega
      · have hr := HRN.out
        rw [if_neg h0] at hr
        have hgt : (0 : Int) < parts.length := by omega
        have HR3 := Lib.hid hr
        clear hr
        go_wp2_with fail
        rcases need_cases HR3.out with ⟨hb, hr⟩ | ⟨hb, rfl⟩
        rotate_left
        · refine (need_no H2.out _ hb).mono ?_
          rintro e w8 ⟨rfl, ho8⟩
          unfold pan
          go_wp2_with fail
          exact ⟨rfl, rfl, O2.out.trans ho8⟩
        refine (need_yes H2.out _ hb).mono ?_
        rintro e w8 ⟨rfl, o8, h8⟩
        have HS := Lib.hid h8
        have OS := Lib.hid (O2.out.trans o8)
        have RS := Lib.hid (R2.out.only o8 hg)
        have HRS := Lib.hid hr
        clear o8 h8 hr hb
        go_wp2_with fail
        rcases then_cases HRS.out with ⟨er, j2, hx, rfl⟩ | ⟨xs, j2, hx, hr⟩
        · refine (HI.out k (by omega) _ _ _ hx HS.out).mono ?_
          rintro e w6 ⟨rfl, ho6⟩
          unfold pan
          go_wp2_with fail
          exact ⟨rfl, rfl, OS.out.trans ho6⟩
        refine (HI.out k (by omega) _ _ _ hx HS.out).mono ?_
        rintro e w6 ⟨B2, m2, rfl, l2, nn2, z2, o6, h6⟩
        have HX2 := HL.out _ _ _ _ hx HS.out.le
        have O6 := Lib.hid (OS.out.trans o6)
        have hne2 : ∀ b off sp, B2 = some ⟨b, off, sp⟩ → (Value.slice P parts.length d).ownBlock ≠ some b := fun b off sp e e2 => by
          have h1 := z2 b off sp e
          have h2 := (RS.out.lt b e2).2
          omega
        obtain ⟨vs, v1, v2, v3⟩ := RS.out.only o6 hg
        have hblk6 := h6.blk
        have HADD := Lib.hid (fun P' d' w' => Row.add (N := w.heap.size) (w := w6) (w' := w') (P := P) (P' := P') (d := d) (d' := d') (parts := parts) (x := xs) (B := B2) (m := m2) (vs := vs) v1 v3 nn2 HX2.1 l2 (z2.mono OS.out.size) hne2)
        have V2 := Lib.hid v2
        have HB6 := Lib.hid hblk6
        have HR6 := Lib.hid hr
        clear hx hr o6 nn2 z2 h6 v1 v2 v3 hblk6 hne2
        go_wp2_with (at_builtin; refine wpList_append_own_at _ rfl _ _ 117 rfl w.heap.size 23 i0 (.slice none 0 0) 1 24 Tryz.underlying117 hi0 hz0 hz1 hz2 rfl (by decide) _ _ _ rfl (V2.out.alloc _) ⟨w6.heap.size, 0, none⟩ 1 1 [.slice B2 xs.length m2] rfl rfl (cell_one_new _ _ _) (slice_one _ _ _) (by unfold maxLen; omega) (by omega) (by have := O6.out.size; simp; omega) ?_)
        intro v' w7 hown7 hgrow7 _ hloc7
        obtain ⟨P', d', hv, hd'⟩ := own_slice hown7
        subst hv
        have hrow7 := HADD.out P' d' w7 _ hown7 hgrow7 hloc7
        have hrk : ∀ q, (Value.slice P parts.length d).ownBlock = some q → w.heap.size ≤ q := fun q e => (V2.out.lt q e).1
        have ho7 := only_grown (O6.out.alloc _) hgrow7 hrk
        have hb7 : Blk w7 g 60 #[.slice A ts.length c, .int .i64 j2] := by
          have h0 := HB6.out.alloc (.cells #[.slice B2 xs.length m2] 23)
          exact (hgrow7.block g h0.lt (fun e => by have := hrk g e.symm; omega)).trans h0
        have hjl := HX2.2.2.2.1
        have HPS := Lib.hid (H.out.only ho7 hb7 hjl)
        have HROW := Lib.hid hrow7
        have HO7 := Lib.hid ho7
        have hfl : (parts ++ [xs]).flatten.length = parts.flatten.length + xs.length := by simp
        have hpl : (parts ++ [xs]).length = parts.length + 1 := by simp
        clear hrow7 ho7 hb7 hown7 hgrow7 hloc7 hrk
        go_wp2_with fail
        go_roundw
        case rel =>
          exact ⟨k, j2, d', P', parts ++ [xs], by omega, hjl, by omega, by omega, by first | rfl | rw [hpl], HR6, HPS, HROW, HO7⟩
        case measure =>
          have q2 := HPS.out.cells.2.1
          rw [cellNat_eq Q0.out, cellNat_eq q2]
          omega
end Go.Proofs.YtfaadlfaimhbbaaGreatDoor

namespace Go.Proofs.YtfaadlfaimhbbaaGreatDoor
open Go.RowKit

theorem le_c (a b : ByteArray) (w : World) : (binOp .leq 9 (.string a) (.string b)).run Tryz.prog w = .ok (.bool (strLe a b)) w := by
  unfold strLe
  simp [go_sem]

set_option maxRecDepth 100000 in
set_option maxHeartbeats 4000000 in
theorem rec_c {g : Nat} {A : Option Addr} {c : Nat} {ts : List Tok} {f : Nat} (IH : ∀ k, k ≤ f → Good g A c ts k) (i : Nat) (r : PRes) (w : World) (hr : run ts (f + 1) (.recd [] ⟨#[]⟩) i = some r) (h : Ps g A c ts i w) :
    Calls Tryz.prog 223 #[.pointer (some ⟨g, 0, none⟩)] w (PPost g A c ts w r) := by
  have hnot : ∀ (x : Bool) (w : World), (Op.unary .not (.bool x)).run Tryz.prog w = .ok (.bool (!x)) w := fun _ _ => rfl
  have hlen := h.len
  have hle := h.le
  have hg := h.lt
  have H := Lib.hid h
  have HI := Lib.hid (fun k (hk : k ≤ f) i r w => IH k hk .whole _ i r w rfl)
  have HL := Lib.hid (fun k i ns j hr hi => run_pos (ts := ts) (f := k) (pf := .whole) (i := i) (ns := ns) (j := j) hr hi rfl rfl hlen)
  have HR := Lib.hid hr
  obtain ⟨i0, hi0, hz0, hz1, hz2⟩ := info_parts sliceInfo
  clear IH hr h
  go_enter Tryz.func223, Tryz.ntmps223
  go_wp2_with fail
  go_loopw [3, 4] (fun lv sv wr => ∃ (last : ByteArray) (k j d : Nat) (P : Option Addr) (parts : List (List Node)), k ≤ f + 1 ∧ j ≤ ts.length ∧ parts.flatten.length ≤ j ∧ parts.length ≤ j ∧ lv = .slice P parts.length d ∧ sv = .string last ∧ Hid (run ts k (.recd parts last) j = some r) ∧ Hid (Ps g A c ts j wr) ∧ Hid (Row w.heap.size wr P d parts) ∧ Hid (Only g w wr))
    (fun _ _ wr => ts.length - cellNat wr ⟨g, 1, none⟩)
  case atStart => exact ⟨⟨#[]⟩, f + 1, i, 0, none, [], Nat.le_refl _, hle, by simp, by simp, rfl, rfl, HR, H, Lib.hid (Row.nil _ _), Lib.hid (Only.refl _ _)⟩
  case round =>
    obtain ⟨last, k, j, d, P, parts, hk, hj, haj, hpj, rfl, rfl, hrun, hps, hrow, ho⟩ := hrel
    obtain ⟨k, rfl⟩ : ∃ k', k = k' + 1 := by
      cases k with
      | zero => have := hrun.out; cases this
      | succ k => exact ⟨k, rfl⟩
    have hrn := hrun.out
    unfold run at hrn
    go_wp2_with fail
    cases hb : isAt ts j [125] with
    | true =>
      have hT := take_c hps.out [125]
      rw [hb] at hT hrn
      rw [if_pos rfl] at hrn
      injection hrn with hrn
      have HRN := Lib.hid hrn
      clear hrn hb
      refine hT.mono ?_
      rintro e w2 ⟨rfl, o2, h2⟩
      rw [if_pos rfl] at h2
      have H2 := Lib.hid h2
      have O2 := Lib.hid (ho.out.trans o2)
      have R2 := Lib.hid (hrow.out.only o2 hg)
      have hnc := node_c ⟨6, (parts.length : Int), ⟨#[]⟩, ⟨#[]⟩⟩ P d parts w2 R2.out.parts (by omega)
      have HNC := Lib.hid hnc
      simp only [Node.val] at HNC
      clear hT o2 h2 hnc
      go_wp2_with fail
      refine HNC.out.mono ?_
      rintro e w5 ⟨B5, m5, rfl, hm5, hn5, hz5, hb5⟩
      obtain rfl := HRN.out
      obtain ⟨R, hR⟩ : ∃ R, R = (⟨6, (parts.length : Int), ⟨#[]⟩, ⟨#[]⟩⟩ : Node) :: parts.flatten := ⟨_, rfl⟩
      rw [← hR] at hm5 hn5 ⊢
      have HEQ := Lib.hid hR
      have HO := Lib.hid (O2.out.thenBelow hb5)
      have HPS := Lib.hid (H2.out.below hb5)
      have HZ := Lib.hid (hz5.mono O2.out.size : NewAt w.heap.size B5)
      clear hR hb5 hz5
      go_wp2_with fail
      go_ret
      obtain rfl := HEQ.out
      exact ⟨B5, m5, rfl, hm5, hn5, HZ.out, HO.out, HPS.out⟩
    | false =>
      have hT := take_c hps.out [125]
      rw [hb] at hT hrn
      rw [if_neg (by decide)] at hrn
      have HRN := Lib.hid hrn
      clear hrn hb
      refine hT.mono ?_
      rintro e w2 ⟨rfl, o2, h2⟩
      rw [if_neg (by decide)] at h2
      have H2 := Lib.hid h2
      have O2 := Lib.hid (ho.out.trans o2)
      have R2 := Lib.hid (hrow.out.only o2 hg)
      have q0 := hps.out.cells.2.1
      have Q0 := Lib.hid q0
      clear hT o2 h2 q0
      by_cases h0 : parts.length = 0
      · have hr := HRN.out
        rw [if_pos h0] at hr
        have hgt : ¬ (0 : Int) < parts.length := by omega
        obtain rfl := List.eq_nil_of_length_eq_zero h0
        have HRS := Lib.hid hr
        have HS := H2
        have OS := O2
        have RS := R2
        clear hr
        go_wp2_with fail
        rcases word_cases (by decide) HRS.out with ⟨t, ht, hkt, hr⟩ | ⟨hkt, rfl⟩
        rotate_left
        · have HKD := Lib.hid (fun n => Calls.quiet_of (P := Tryz.prog) (n := n) (w := w2) (kind_c (HS.out.drewN n)))
          have hne : (kindAt ts (j) != 1) = true := by simp [hkt]
          generalize kindAt ts (j) = k0 at HKD hne
          go_quiet ((exact HKD.out _))
          revert nq
          intro n4
          go_wp2_with fail
          refine (fail_c (HS.out.drewN n4)).mono ?_
          rintro e w5 ⟨rfl, rfl⟩
          unfold pan
          go_wp2_with fail
          exact ⟨rfl, rfl, OS.out.drewN n4⟩
        have HKD := Lib.hid (fun n => Calls.quiet_of (P := Tryz.prog) (n := n) (w := w2) (kind_c (HS.out.drewN n)))
        rw [kindAt_some ht, hkt] at HKD
        have hjl := lt_of_some ht
        have hjl' : ((j : Nat) : Int) < ts.length := by omega
        have hl2 : (ts.length : Int) ≤ 300 := by omega
        obtain ⟨b, off, rfl, hb1, d0, d1, d2⟩ := HS.out.toks.at_ ht
        obtain ⟨c0, c1, f0, f1⟩ := HS.out.cells
        have HT := Lib.hid ht
        have HKT := Lib.hid hkt
        clear ht hkt
        cases q1 : Op.bytesLess t.s.toList last.toList with
        | true =>
          rw [if_pos (by simp [strLe, q1])] at hr
          injection hr with hr
          have HRR := Lib.hid hr
          clear hr
          go_quiet ((exact HKD.out _))
          revert nq
          intro n4
          go_wp2_with fail
          refine (fail_c (HS.out.drewN n4)).mono ?_
          rintro e w5 ⟨rfl, rfl⟩
          unfold pan
          go_wp2_with fail
          obtain rfl := HRR.out
          exact ⟨rfl, rfl, OS.out.drewN n4⟩
        | false =>
          cases q2 : (t.s.toList == last.toList) with
          | true =>
            rw [if_pos (by simp [strLe, q1, q2])] at hr
            injection hr with hr
            have HRR := Lib.hid hr
            clear hr
            go_quiet ((exact HKD.out _))
            revert nq
            intro n4
            go_wp2_with fail
            refine (fail_c (HS.out.drewN n4)).mono ?_
            rintro e w5 ⟨rfl, rfl⟩
            unfold pan
            go_wp2_with fail
            obtain rfl := HRR.out
            exact ⟨rfl, rfl, OS.out.drewN n4⟩
          | false =>
            rw [if_neg (by simp [strLe, q1, q2])] at hr
            have HR4 := Lib.hid hr
            clear hr
            go_quiet ((exact HKD.out _))
            revert nq
            intro n4
            have H4 := Lib.hid (HS.out.drewN n4)
            have O4 := Lib.hid (OS.out.drewN n4)
            have R4 := Lib.hid (RS.out.only ((Only.refl g w2).drewN n4) hg)
            generalize w2.drewN n4 = w4 at H4 O4 R4 ⊢
            clear c0 c1 d0 d1 d2 f0 f1
            go_wp2_with fail
            refine (word_yes H4.out 1 t HT.out HKT.out).mono ?_
            rintro e w5 ⟨rfl, o5, h5⟩
            have H5 := Lib.hid h5
            have O5 := Lib.hid (O4.out.trans o5)
            have R5 := Lib.hid (R4.out.only o5 hg)
            clear o5 h5
            go_wp2_with fail
            rcases need_cases HR4.out with ⟨hb, hr⟩ | ⟨hb, rfl⟩
            rotate_left
            · refine (need_no H5.out _ hb).mono ?_
              rintro e w8 ⟨rfl, ho8⟩
              unfold pan
              go_wp2_with fail
              exact ⟨rfl, rfl, O5.out.trans ho8⟩
            refine (need_yes H5.out _ hb).mono ?_
            rintro e w6 ⟨rfl, o6, h6⟩
            have H6 := Lib.hid h6
            have O6 := Lib.hid (O5.out.trans o6)
            have R6 := Lib.hid (R5.out.only o6 hg)
            have HR6 := Lib.hid hr
            clear o6 h6 hr hb
            generalize t.s = nm at HR6 ⊢
            go_wp2_with fail
            rcases then_cases HR6.out with ⟨er, j2, hx, rfl⟩ | ⟨xs, j2, hx, hr⟩
            · refine (HI.out k (by omega) _ _ _ hx H6.out).mono ?_
              rintro e w7 ⟨rfl, ho7⟩
              unfold pan
              go_wp2_with fail
              exact ⟨rfl, rfl, O6.out.trans ho7⟩
            refine (HI.out k (by omega) _ _ _ hx H6.out).mono ?_
            rintro e w7 ⟨B2, m2, rfl, l2, nn2, z2, o7, h7⟩
            have HX2 := HL.out _ _ _ _ hx H6.out.le
            have H7 := Lib.hid h7
            have O7 := Lib.hid (O6.out.trans o7)
            have R7 := Lib.hid (R6.out.only o7 hg)
            have HR7 := Lib.hid hr
            have HPA := Lib.hid (parts_one nn2 HX2.1 l2)
            have HFL : Hid (([xs] : List (List Node)).flatten.length ≤ 100000) := Lib.hid (by
              simp only [List.flatten_cons, List.flatten_nil, List.append_nil]; omega)
            have hnc := node_c ⟨7, 0, nm, ⟨#[]⟩⟩ _ 1 [xs] _ HPA.out HFL.out
            have HNC := Lib.hid hnc
            simp only [Node.val] at HNC
            clear hnc hx hr o7 nn2 z2 h7 l2
            go_wp2_with fail
            refine HNC.out.mono ?_
            rintro e w9 ⟨B5, m5, rfl, hm5, hn5, hz5, hb5⟩
            have heq : (⟨7, 0, nm, ⟨#[]⟩⟩ : Node) :: ([xs] : List (List Node)).flatten = ⟨7, 0, nm, ⟨#[]⟩⟩ :: xs := by simp
            rw [heq] at hm5 hn5 ⊢
            obtain ⟨R, hR⟩ : ∃ R, R = (⟨7, 0, nm, ⟨#[]⟩⟩ : Node) :: xs := ⟨_, rfl⟩
            rw [← hR] at hm5 hn5 ⊢
            have hRl : R.length = xs.length + 1 := by rw [hR]; simp
            have HEQ := Lib.hid hR
            have hb6 : Below w7.heap.size w7 w9 := ((Below.refl _ w7).alloc (Nat.le_refl _) _).trans (hb5.mono (by simp))
            have O9 := Lib.hid (O7.out.thenBelow hb6)
            have H9 := Lib.hid (H7.out.below hb6)
            have hz7 : NewAt w7.heap.size B5 := hz5.mono (by simp)
            have hne2 : ∀ b off sp, B5 = some ⟨b, off, sp⟩ → (Value.slice P ([] : List (List Node)).length d).ownBlock ≠ some b := fun b off sp e e2 => by
              have h1 := hz7 b off sp e
              have h2 := (R7.out.lt b e2).2
              omega
            obtain ⟨vs, v1, v2, v3⟩ := R7.out.only (Only.ofBelow (g := g) hb6) hg
            have hblk6 := H9.out.blk
            have HADD := Lib.hid (fun P' d' w' => Row.add (N := w.heap.size) (w := w9) (w' := w') (P := P) (P' := P') (d := d) (d' := d') (parts := []) (x := R) (B := B5) (m := m5) (vs := vs) v1 v3 hn5 (by omega) hm5 (hz7.mono O7.out.size) hne2)
            have V2 := Lib.hid v2
            have HB6 := Lib.hid hblk6
            have HRL := Lib.hid hRl
            clear hR heq hb5 hb6 hz5 hm5 hn5 v1 v2 v3 hblk6 hne2 hz7 hRl
            go_wp2_with (at_builtin; refine wpList_append_own_at _ rfl _ _ 117 rfl w.heap.size 23 i0 (.slice none 0 0) 1 24 Tryz.underlying117 hi0 hz0 hz1 hz2 rfl (by decide) _ _ _ rfl (V2.out.alloc _) ⟨w9.heap.size, 0, none⟩ 1 1 [.slice B5 R.length m5] rfl rfl (cell_one_new _ _ _) (slice_one _ _ _) (by unfold maxLen; omega) (by omega) (by have := O9.out.size; simp; omega) ?_)
            intro v' w10 hown7 hgrow7 _ hloc7
            obtain ⟨P', d', hv, hd'⟩ := own_slice hown7
            subst hv
            have hrow7 := HADD.out P' d' w10 _ hown7 hgrow7 hloc7
            have hrk : ∀ q, (Value.slice P ([] : List (List Node)).length d).ownBlock = some q → w.heap.size ≤ q := fun q e => (V2.out.lt q e).1
            have ho7 := only_grown (O9.out.alloc _) hgrow7 hrk
            have hb7 : Blk w10 g 60 #[.slice (some ⟨b, off, none⟩) ts.length c, .int .i64 j2] := by
              have h0 := HB6.out.alloc (.cells #[.slice B5 R.length m5] 23)
              exact (hgrow7.block g h0.lt (fun e => by have := hrk g e.symm; omega)).trans h0
            have hj2l := HX2.2.2.2.1
            have HPS := Lib.hid (H.out.only ho7 hb7 hj2l)
            have HROW := Lib.hid hrow7
            have HO7 := Lib.hid ho7
            have hfl : (([] : List (List Node)) ++ [R]).flatten.length = ([] : List (List Node)).flatten.length + R.length := by simp
            have hpl : (([] : List (List Node)) ++ [R]).length = ([] : List (List Node)).length + 1 := by simp
            clear hrow7 ho7 hb7 hown7 hgrow7 hloc7 hrk
            go_wp2_with fail
            have hRl := HRL.out
            go_roundw
            case rel =>
              exact ⟨nm, k, j2, d', P', ([] : List (List Node)) ++ [R], by omega, hj2l, by omega, by omega, by first | rfl | rw [hpl], rfl, Lib.hid (by rw [HEQ.out]; exact HR7.out), HPS, HROW, HO7⟩
            case measure =>
              have q2 := HPS.out.cells.2.1
              rw [cellNat_eq Q0.out, cellNat_eq q2]
              omega
      · have hr := HRN.out
        rw [if_neg h0] at hr
        have hgt : (0 : Int) < parts.length := by omega
        have HR3 := Lib.hid hr
        clear hr
        go_wp2_with fail
        rcases need_cases HR3.out with ⟨hb, hr⟩ | ⟨hb, rfl⟩
        rotate_left
        · refine (need_no H2.out _ hb).mono ?_
          rintro e w8 ⟨rfl, ho8⟩
          unfold pan
          go_wp2_with fail
          exact ⟨rfl, rfl, O2.out.trans ho8⟩
        refine (need_yes H2.out _ hb).mono ?_
        rintro e w3 ⟨rfl, o8, h8⟩
        have HS := Lib.hid h8
        have OS := Lib.hid (O2.out.trans o8)
        have RS := Lib.hid (R2.out.only o8 hg)
        have HRS := Lib.hid hr
        clear o8 h8 hr hb
        go_wp2_with fail
        rcases word_cases (by decide) HRS.out with ⟨t, ht, hkt, hr⟩ | ⟨hkt, rfl⟩
        rotate_left
        · have HKD := Lib.hid (fun n => Calls.quiet_of (P := Tryz.prog) (n := n) (w := w3) (kind_c (HS.out.drewN n)))
          have hne : (kindAt ts (j + 1) != 1) = true := by simp [hkt]
          generalize kindAt ts (j + 1) = k0 at HKD hne
          go_quiet ((exact HKD.out _))
          revert nq
          intro n4
          go_wp2_with fail
          refine (fail_c (HS.out.drewN n4)).mono ?_
          rintro e w5 ⟨rfl, rfl⟩
          unfold pan
          go_wp2_with fail
          exact ⟨rfl, rfl, OS.out.drewN n4⟩
        have HKD := Lib.hid (fun n => Calls.quiet_of (P := Tryz.prog) (n := n) (w := w3) (kind_c (HS.out.drewN n)))
        rw [kindAt_some ht, hkt] at HKD
        have hjl := lt_of_some ht
        have hjl' : ((j + 1 : Nat) : Int) < ts.length := by omega
        have hl2 : (ts.length : Int) ≤ 300 := by omega
        obtain ⟨b, off, rfl, hb1, d0, d1, d2⟩ := HS.out.toks.at_ ht
        obtain ⟨c0, c1, f0, f1⟩ := HS.out.cells
        have HT := Lib.hid ht
        have HKT := Lib.hid hkt
        clear ht hkt
        cases q1 : Op.bytesLess t.s.toList last.toList with
        | true =>
          rw [if_pos (by simp [strLe, q1])] at hr
          injection hr with hr
          have HRR := Lib.hid hr
          clear hr
          go_quiet ((exact HKD.out _))
          revert nq
          intro n4
          go_wp2_with fail
          refine (fail_c (HS.out.drewN n4)).mono ?_
          rintro e w5 ⟨rfl, rfl⟩
          unfold pan
          go_wp2_with fail
          obtain rfl := HRR.out
          exact ⟨rfl, rfl, OS.out.drewN n4⟩
        | false =>
          cases q2 : (t.s.toList == last.toList) with
          | true =>
            rw [if_pos (by simp [strLe, q1, q2])] at hr
            injection hr with hr
            have HRR := Lib.hid hr
            clear hr
            go_quiet ((exact HKD.out _))
            revert nq
            intro n4
            go_wp2_with fail
            refine (fail_c (HS.out.drewN n4)).mono ?_
            rintro e w5 ⟨rfl, rfl⟩
            unfold pan
            go_wp2_with fail
            obtain rfl := HRR.out
            exact ⟨rfl, rfl, OS.out.drewN n4⟩
          | false =>
            rw [if_neg (by simp [strLe, q1, q2])] at hr
            have HR4 := Lib.hid hr
            clear hr
            go_quiet ((exact HKD.out _))
            revert nq
            intro n4
            have H4 := Lib.hid (HS.out.drewN n4)
            have O4 := Lib.hid (OS.out.drewN n4)
            have R4 := Lib.hid (RS.out.only ((Only.refl g w3).drewN n4) hg)
            generalize w3.drewN n4 = w4 at H4 O4 R4 ⊢
            clear c0 c1 d0 d1 d2 f0 f1
            go_wp2_with fail
            refine (word_yes H4.out 1 t HT.out HKT.out).mono ?_
            rintro e w5 ⟨rfl, o5, h5⟩
            have H5 := Lib.hid h5
            have O5 := Lib.hid (O4.out.trans o5)
            have R5 := Lib.hid (R4.out.only o5 hg)
            clear o5 h5
            go_wp2_with fail
            rcases need_cases HR4.out with ⟨hb, hr⟩ | ⟨hb, rfl⟩
            rotate_left
            · refine (need_no H5.out _ hb).mono ?_
              rintro e w8 ⟨rfl, ho8⟩
              unfold pan
              go_wp2_with fail
              exact ⟨rfl, rfl, O5.out.trans ho8⟩
            refine (need_yes H5.out _ hb).mono ?_
            rintro e w6 ⟨rfl, o6, h6⟩
            have H6 := Lib.hid h6
            have O6 := Lib.hid (O5.out.trans o6)
            have R6 := Lib.hid (R5.out.only o6 hg)
            have HR6 := Lib.hid hr
            clear o6 h6 hr hb
            generalize t.s = nm at HR6 ⊢
            go_wp2_with fail
            rcases then_cases HR6.out with ⟨er, j2, hx, rfl⟩ | ⟨xs, j2, hx, hr⟩
            · refine (HI.out k (by omega) _ _ _ hx H6.out).mono ?_
              rintro e w7 ⟨rfl, ho7⟩
              unfold pan
              go_wp2_with fail
              exact ⟨rfl, rfl, O6.out.trans ho7⟩
            refine (HI.out k (by omega) _ _ _ hx H6.out).mono ?_
            rintro e w7 ⟨B2, m2, rfl, l2, nn2, z2, o7, h7⟩
            have HX2 := HL.out _ _ _ _ hx H6.out.le
            have H7 := Lib.hid h7
            have O7 := Lib.hid (O6.out.trans o7)
            have R7 := Lib.hid (R6.out.only o7 hg)
            have HR7 := Lib.hid hr
            have HPA := Lib.hid (parts_one nn2 HX2.1 l2)
            have HFL : Hid (([xs] : List (List Node)).flatten.length ≤ 100000) := Lib.hid (by
              simp only [List.flatten_cons, List.flatten_nil, List.append_nil]; omega)
            have hnc := node_c ⟨7, 0, nm, ⟨#[]⟩⟩ _ 1 [xs] _ HPA.out HFL.out
            have HNC := Lib.hid hnc
            simp only [Node.val] at HNC
            clear hnc hx hr o7 nn2 z2 h7 l2
            go_wp2_with fail
            refine HNC.out.mono ?_
            rintro e w9 ⟨B5, m5, rfl, hm5, hn5, hz5, hb5⟩
            have heq : (⟨7, 0, nm, ⟨#[]⟩⟩ : Node) :: ([xs] : List (List Node)).flatten = ⟨7, 0, nm, ⟨#[]⟩⟩ :: xs := by simp
            rw [heq] at hm5 hn5 ⊢
            obtain ⟨R, hR⟩ : ∃ R, R = (⟨7, 0, nm, ⟨#[]⟩⟩ : Node) :: xs := ⟨_, rfl⟩
            rw [← hR] at hm5 hn5 ⊢
            have hRl : R.length = xs.length + 1 := by rw [hR]; simp
            have HEQ := Lib.hid hR
            have hb6 : Below w7.heap.size w7 w9 := ((Below.refl _ w7).alloc (Nat.le_refl _) _).trans (hb5.mono (by simp))
            have O9 := Lib.hid (O7.out.thenBelow hb6)
            have H9 := Lib.hid (H7.out.below hb6)
            have hz7 : NewAt w7.heap.size B5 := hz5.mono (by simp)
            have hne2 : ∀ b off sp, B5 = some ⟨b, off, sp⟩ → (Value.slice P parts.length d).ownBlock ≠ some b := fun b off sp e e2 => by
              have h1 := hz7 b off sp e
              have h2 := (R7.out.lt b e2).2
              omega
            obtain ⟨vs, v1, v2, v3⟩ := R7.out.only (Only.ofBelow (g := g) hb6) hg
            have hblk6 := H9.out.blk
            have HADD := Lib.hid (fun P' d' w' => Row.add (N := w.heap.size) (w := w9) (w' := w') (P := P) (P' := P') (d := d) (d' := d') (parts := parts) (x := R) (B := B5) (m := m5) (vs := vs) v1 v3 hn5 (by omega) hm5 (hz7.mono O7.out.size) hne2)
            have V2 := Lib.hid v2
            have HB6 := Lib.hid hblk6
            have HRL := Lib.hid hRl
            clear hR heq hb5 hb6 hz5 hm5 hn5 v1 v2 v3 hblk6 hne2 hz7 hRl
            go_wp2_with (at_builtin; refine wpList_append_own_at _ rfl _ _ 117 rfl w.heap.size 23 i0 (.slice none 0 0) 1 24 Tryz.underlying117 hi0 hz0 hz1 hz2 rfl (by decide) _ _ _ rfl (V2.out.alloc _) ⟨w9.heap.size, 0, none⟩ 1 1 [.slice B5 R.length m5] rfl rfl (cell_one_new _ _ _) (slice_one _ _ _) (by unfold maxLen; omega) (by omega) (by have := O9.out.size; simp; omega) ?_)
            intro v' w10 hown7 hgrow7 _ hloc7
            obtain ⟨P', d', hv, hd'⟩ := own_slice hown7
            subst hv
            have hrow7 := HADD.out P' d' w10 _ hown7 hgrow7 hloc7
            have hrk : ∀ q, (Value.slice P parts.length d).ownBlock = some q → w.heap.size ≤ q := fun q e => (V2.out.lt q e).1
            have ho7 := only_grown (O9.out.alloc _) hgrow7 hrk
            have hb7 : Blk w10 g 60 #[.slice (some ⟨b, off, none⟩) ts.length c, .int .i64 j2] := by
              have h0 := HB6.out.alloc (.cells #[.slice B5 R.length m5] 23)
              exact (hgrow7.block g h0.lt (fun e => by have := hrk g e.symm; omega)).trans h0
            have hj2l := HX2.2.2.2.1
            have HPS := Lib.hid (H.out.only ho7 hb7 hj2l)
            have HROW := Lib.hid hrow7
            have HO7 := Lib.hid ho7
            have hfl : (parts ++ [R]).flatten.length = parts.flatten.length + R.length := by simp
            have hpl : (parts ++ [R]).length = parts.length + 1 := by simp
            clear hrow7 ho7 hb7 hown7 hgrow7 hloc7 hrk
            go_wp2_with fail
            have hRl := HRL.out
            go_roundw
            case rel =>
              exact ⟨nm, k, j2, d', P', parts ++ [R], by omega, hj2l, by omega, by omega, by first | rfl | rw [hpl], rfl, Lib.hid (by rw [HEQ.out]; exact HR7.out), HPS, HROW, HO7⟩
            case measure =>
              have q2 := HPS.out.cells.2.1
              rw [cellNat_eq Q0.out, cellNat_eq q2]
              omega
end Go.Proofs.YtfaadlfaimhbbaaGreatDoor

namespace Go.Proofs.YtfaadlfaimhbbaaGreatDoor
open Go.RowKit

set_option maxRecDepth 100000 in
set_option maxHeartbeats 4000000 in
theorem atom_c {g : Nat} {A : Option Addr} {c : Nat} {ts : List Tok} {f : Nat} (IH : ∀ k, k ≤ f → Good g A c ts k) (i : Nat) (r : PRes) (w : World) (hr : run ts (f + 1) .atom i = some r) (h : Ps g A c ts i w) :
    Calls Tryz.prog 210 #[.pointer (some ⟨g, 0, none⟩)] w (PPost g A c ts w r) := by
  have hlen := h.len
  have hg := h.lt
  have H := Lib.hid h
  unfold run at hr
  have HK := Lib.hid (kind_c h)
  by_cases k2 : kindAt ts i = 2
  · rw [if_pos k2] at hr
    rw [k2] at HK
    have HC := Lib.hid (fun m => number_c i [] (by simp) r (w.drewN m) hr (h.drewN m))
    clear IH hr h k2
    go_enter Tryz.func210, Tryz.ntmps210
    go_wp2_with (go_at_call 112; refine HK.out.mono ?_; rintro e w1 ⟨rfl, m, rfl⟩)
    refine (HC.out m).mono ?_
    intro e w2 hp
    have hp := hp.from_ (((Only.refl g w).drewN m))
    rcases r with ⟨er, j⟩ | ⟨ns, j⟩
    · obtain ⟨rfl, ho⟩ := hp
      unfold pan
      go_wp2_with fail
      exact ⟨rfl, rfl, ho⟩
    · obtain ⟨B, m, rfl, hrest⟩ := hp
      go_wp2_with fail
      go_ret
      exact ⟨B, m, rfl, hrest⟩
  rw [if_neg k2] at hr
  by_cases k3 : kindAt ts i = 3
  · rw [if_pos k3] at hr
    rw [k3] at HK
    rcases word_cases (by decide) hr with ⟨t, ht, hkt, hr⟩ | ⟨hkt, _⟩
    rotate_left
    · exact absurd k3 hkt
    injection hr with hr
    have HRR := Lib.hid hr
    have HC := Lib.hid (fun m => word_yes (h.drewN m) 3 t ht hkt)
    clear IH hr h k2 k3 ht hkt
    go_enter Tryz.func210, Tryz.ntmps210
    go_wp2_with (go_at_call 112; refine HK.out.mono ?_; rintro e w1 ⟨rfl, m, rfl⟩)
    refine (HC.out m).mono ?_
    rintro e w2 ⟨rfl, o2, h2⟩
    have O2 := Lib.hid (((Only.refl g w).drewN m).trans o2)
    have H2 := Lib.hid h2
    clear o2 h2
    go_wp2_with fail
    go_ret
    obtain rfl := HRR.out
    exact one_post O2.out H2.out
  rw [if_neg k3] at hr
  by_cases k4 : kindAt ts i = 4
  · rw [if_pos k4] at hr
    rw [k4] at HK
    rcases word_cases (by decide) hr with ⟨t, ht, hkt, hr⟩ | ⟨hkt, _⟩
    rotate_left
    · exact absurd k4 hkt
    injection hr with hr
    have HRR := Lib.hid hr
    have hts := h.small t (List.mem_of_getElem? ht)
    have hcat := fun w => run_string_add_sum (P := Tryz.prog) w ⟨#[63]⟩ t.s (by rw [show (⟨#[63]⟩ : ByteArray).size = 1 from rfl]; omega)
    have HC := Lib.hid (fun m => word_yes (h.drewN m) 4 t ht hkt)
    clear IH hr h k2 k3 k4 ht hkt
    go_enter Tryz.func210, Tryz.ntmps210
    go_wp2_with (go_at_call 112; refine HK.out.mono ?_; rintro e w1 ⟨rfl, m, rfl⟩)
    refine (HC.out m).mono ?_
    rintro e w2 ⟨rfl, o2, h2⟩
    have O2 := Lib.hid (((Only.refl g w).drewN m).trans o2)
    have H2 := Lib.hid h2
    clear o2 h2
    go_wp2_with fail
    go_ret
    obtain rfl := HRR.out
    exact one_post O2.out H2.out
  rw [if_neg k4] at hr
  by_cases k1 : kindAt ts i = 1
  · rw [if_pos k1] at hr
    rw [k1] at HK
    have HC := Lib.hid (fun m => named2_c i r (w.drewN m) k1 hr (h.drewN m))
    clear IH hr h k2 k3 k4 k1
    go_enter Tryz.func210, Tryz.ntmps210
    go_wp2_with (go_at_call 112; refine HK.out.mono ?_; rintro e w1 ⟨rfl, m, rfl⟩)
    refine (HC.out m).mono ?_
    intro e w2 hp
    have hp := hp.from_ (((Only.refl g w).drewN m))
    rcases r with ⟨er, j⟩ | ⟨ns, j⟩
    · obtain ⟨rfl, ho⟩ := hp
      unfold pan
      go_wp2_with fail
      exact ⟨rfl, rfl, ho⟩
    · obtain ⟨B, m, rfl, hrest⟩ := hp
      go_wp2_with fail
      go_ret
      exact ⟨B, m, rfl, hrest⟩
  rw [if_neg k1] at hr
  have f2 : (kindAt ts i == 2) = false := by simp [k2]
  have f3 : (kindAt ts i == 3) = false := by simp [k3]
  have f4 : (kindAt ts i == 4) = false := by simp [k4]
  have f1 : (kindAt ts i == 1) = false := by simp [k1]
  have HI := Lib.hid (fun i r w => IH f (Nat.le_refl _) .whole _ i r w rfl)
  have HIS := Lib.hid (fun i r w => IH f (Nat.le_refl _) (.set []) _ i r w rfl)
  have HIR := Lib.hid (fun i r w => IH f (Nat.le_refl _) (.recd [] ⟨#[]⟩) 223 i r w rfl)
  have HR := Lib.hid hr
  clear IH hr h k1 k2 k3 k4
  generalize kindAt ts i = k0 at HK f1 f2 f3 f4
  go_enter Tryz.func210, Tryz.ntmps210
  go_wp2_with (go_at_call 112; refine HK.out.mono ?_; rintro e w1 ⟨rfl, m, rfl⟩)
  have H1 := Lib.hid (H.out.drewN m)
  have O1 := Lib.hid ((Only.refl g w).drewN m)
  generalize w.drewN m = w1 at H1 O1 ⊢
  clear f1 f2 f3 f4 HK
  cases b1 : isAt ts i [45] with
  | true =>
    have hT := take_c H1.out [45]
    have hr := HR.out
    rw [if_pos b1] at hr
    rw [b1] at hT
    have HR2 := Lib.hid hr
    clear hr b1 HR
    refine hT.mono ?_
    rintro e w2 ⟨rfl, o2, h2⟩
    rw [if_pos rfl] at h2
    have H2 := Lib.hid h2
    have O2 := Lib.hid (O1.out.trans o2)
    clear hT o2 h2
    go_wp2_with fail
    refine (number_c (i + 1) [45] (by simp) r w2 HR2.out H2.out).mono ?_
    intro e w3 hp
    have hp := hp.from_ O2.out
    rcases r with ⟨er, j⟩ | ⟨ns, j⟩
    · obtain ⟨rfl, ho⟩ := hp
      unfold pan
      go_wp2_with fail
      exact ⟨rfl, rfl, ho⟩
    · obtain ⟨B, m, rfl, hrest⟩ := hp
      go_wp2_with fail
      go_ret
      exact ⟨B, m, rfl, hrest⟩
  | false =>
    have hT := take_c H1.out [45]
    have hr := HR.out
    rw [if_neg (by rw [b1]; decide)] at hr
    rw [b1] at hT
    have HR2 := Lib.hid hr
    clear hr b1 HR
    refine hT.mono ?_
    rintro e w2 ⟨rfl, o2, h2⟩
    rw [if_neg (by decide)] at h2
    have H2 := Lib.hid h2
    have O2 := Lib.hid (O1.out.trans o2)
    clear hT o2 h2 H1 O1
    go_wp2_with fail
    cases b2 : isAt ts i [40] with
    | true =>
      have hT := take_c H2.out [40]
      have hr := HR2.out
      rw [if_pos b2] at hr
      rw [b2] at hT
      have HR3 := Lib.hid hr
      clear hr b2 HR2
      refine hT.mono ?_
      rintro e w3 ⟨rfl, o3, h3⟩
      rw [if_pos rfl] at h3
      have H3 := Lib.hid h3
      have O3 := Lib.hid (O2.out.trans o3)
      clear hT o3 h3
      go_wp2_with fail
      rcases then_cases HR3.out with ⟨er, j2, hx, rfl⟩ | ⟨xs, j2, hx, hr⟩
      · refine (HI.out _ _ _ hx H3.out).mono ?_
        rintro e w4 ⟨rfl, ho⟩
        unfold pan
        go_wp2_with fail
        exact ⟨rfl, rfl, O3.out.trans ho⟩
      refine (HI.out _ _ _ hx H3.out).mono ?_
      rintro e w4 ⟨B2, m2, rfl, l2, nn2, z2, o4, h4⟩
      have HR4 := Lib.hid hr
      have N4 := Lib.hid nn2
      have Z4 := Lib.hid (z2.mono O3.out.size : NewAt w.heap.size B2)
      have O4 := Lib.hid (O3.out.trans o4)
      have H4 := Lib.hid h4
      have L4 := Lib.hid l2
      clear hx hr nn2 z2 o4 h4 l2
      go_wp2_with fail
      rcases need_cases HR4.out with ⟨hb, hr⟩ | ⟨hb, rfl⟩
      rotate_left
      · refine (need_no H4.out _ hb).mono ?_
        rintro e w8 ⟨rfl, ho8⟩
        unfold pan
        go_wp2_with fail
        exact ⟨rfl, rfl, O4.out.trans ho8⟩
      refine (need_yes H4.out _ hb).mono ?_
      rintro e w5 ⟨rfl, o5, h5⟩
      injection hr with hr
      have HRR := Lib.hid hr
      have H5 := Lib.hid h5
      have O5 := Lib.hid (O4.out.trans o5)
      have N5 := Lib.hid (nodes_keep N4.out Z4.out hg o5)
      clear hr hb o5 h5
      go_wp2_with fail
      go_ret
      obtain rfl := HRR.out
      exact ⟨B2, m2, rfl, L4.out, N5.out, Z4.out, O5.out, H5.out⟩
    | false =>
      have hT := take_c H2.out [40]
      have hr := HR2.out
      rw [if_neg (by rw [b2]; decide)] at hr
      rw [b2] at hT
      have HR3 := Lib.hid hr
      clear hr b2 HR2
      refine hT.mono ?_
      rintro e w3 ⟨rfl, o3, h3⟩
      rw [if_neg (by decide)] at h3
      have H3 := Lib.hid h3
      have O3 := Lib.hid (O2.out.trans o3)
      clear hT o3 h3 H2 O2
      go_wp2_with fail
      cases b3 : isAt ts i [91] with
      | true =>
        have hT := take_c H3.out [91]
        have hr := HR3.out
        rw [if_pos b3] at hr
        rw [b3] at hT
        have HR4 := Lib.hid hr
        clear hr b3 HR3
        refine hT.mono ?_
        rintro e w4 ⟨rfl, o4, h4⟩
        rw [if_pos rfl] at h4
        have H4 := Lib.hid h4
        have O4 := Lib.hid (O3.out.trans o4)
        clear hT o4 h4
        go_wp2_with fail
        refine (HIS.out _ _ _ HR4.out H4.out).mono ?_
        intro e w5 hp
        have hp := hp.from_ O4.out
        rcases r with ⟨er, j⟩ | ⟨ns, j⟩
        · obtain ⟨rfl, ho⟩ := hp
          unfold pan
          go_wp2_with fail
          exact ⟨rfl, rfl, ho⟩
        · obtain ⟨B, m, rfl, hrest⟩ := hp
          go_wp2_with fail
          go_ret
          exact ⟨B, m, rfl, hrest⟩
      | false =>
        have hT := take_c H3.out [91]
        have hr := HR3.out
        rw [if_neg (by rw [b3]; decide)] at hr
        rw [b3] at hT
        have HR4 := Lib.hid hr
        clear hr b3 HR3
        refine hT.mono ?_
        rintro e w4 ⟨rfl, o4, h4⟩
        rw [if_neg (by decide)] at h4
        have H4 := Lib.hid h4
        have O4 := Lib.hid (O3.out.trans o4)
        clear hT o4 h4 H3 O3
        go_wp2_with fail
        cases b4 : isAt ts i [123] with
        | true =>
          have hT := take_c H4.out [123]
          have hr := HR4.out
          rw [if_pos b4] at hr
          rw [b4] at hT
          have HR5 := Lib.hid hr
          clear hr b4 HR4
          refine hT.mono ?_
          rintro e w5 ⟨rfl, o5, h5⟩
          rw [if_pos rfl] at h5
          have H5 := Lib.hid h5
          have O5 := Lib.hid (O4.out.trans o5)
          clear hT o5 h5
          go_wp2_with fail
          refine (HIR.out _ _ _ HR5.out H5.out).mono ?_
          intro e w6 hp
          have hp := hp.from_ O5.out
          rcases r with ⟨er, j⟩ | ⟨ns, j⟩
          · obtain ⟨rfl, ho⟩ := hp
            unfold pan
            go_wp2_with fail
            exact ⟨rfl, rfl, ho⟩
          · obtain ⟨B, m, rfl, hrest⟩ := hp
            go_wp2_with fail
            go_ret
            exact ⟨B, m, rfl, hrest⟩
        | false =>
          have hT := take_c H4.out [123]
          have hr := HR4.out
          rw [if_neg (by rw [b4]; decide)] at hr
          rw [b4] at hT
          injection hr with hr
          have HRR := Lib.hid hr
          clear hr b4 HR4
          refine hT.mono ?_
          rintro e w5 ⟨rfl, o5, h5⟩
          rw [if_neg (by decide)] at h5
          have H5 := Lib.hid h5
          have O5 := Lib.hid (O4.out.trans o5)
          clear hT o5 h5
          go_wp2_with fail
          refine (fail_c H5.out).mono ?_
          rintro e w6 ⟨rfl, rfl⟩
          unfold pan
          go_wp2_with fail
          obtain rfl := HRR.out
          exact ⟨rfl, rfl, O5.out⟩

/-- Every function of the parser, at every fuel. -/
theorem good (g : Nat) (A : Option Addr) (c : Nat) (ts : List Tok) : ∀ k, ∀ j, j ≤ k → Good g A c ts j
  | 0, j, hj => by
    intro pf fn i r w _ hr
    obtain rfl : j = 0 := by omega
    cases hr
  | k + 1, j, hj => by
    have IH := good g A c ts k
    rcases Nat.lt_or_ge j (k + 1) with h | h
    · exact IH j (by omega)
    obtain rfl : j = k + 1 := by omega
    intro pf fn i r w hfn hr h
    cases pf with
    | whole => injection hfn with e; subst e; exact whole_c IH i r w hr h
    | either => injection hfn with e; subst e; exact either_c IH i r w hr h
    | both => injection hfn with e; subst e; exact both_c IH i r w hr h
    | rel => injection hfn with e; subst e; exact rel_c IH i r w hr h
    | sum => injection hfn with e; subst e; exact sum_c IH i r w hr h
    | prod => injection hfn with e; subst e; exact prod_c IH i r w hr h
    | sign => injection hfn with e; subst e; exact sign_c2 IH i r w hr h
    | post => injection hfn with e; subst e; exact post_c IH i r w hr h
    | atom => injection hfn with e; subst e; exact atom_c IH i r w hr h
    | chain L acc => cases hfn
    | posts acc => cases hfn
    | set parts =>
      cases parts with
      | nil => injection hfn with e; subst e; exact set_c IH i r w hr h
      | cons p l => cases hfn
    | recd parts last =>
      cases parts with
      | nil =>
        simp only [pfFn] at hfn
        by_cases hl : last = ⟨#[]⟩
        · subst hl
          rw [if_pos rfl] at hfn
          injection hfn with e; subst e; exact rec_c IH i r w hr h
        · rw [if_neg hl] at hfn; cases hfn
      | cons p l => cases hfn
end Go.Proofs.YtfaadlfaimhbbaaGreatDoor
