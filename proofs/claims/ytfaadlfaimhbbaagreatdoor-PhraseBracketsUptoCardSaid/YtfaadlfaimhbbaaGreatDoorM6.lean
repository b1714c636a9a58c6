/-
  phrase.Parse's deferred function: a panic with a wrong word becomes the error; none: nothing happens.
  phrase.Parse: the expression of words, or what is wrong and where.
  The words of an expression are read alike inside brackets: what stands behind them is no sign that goes on.
  The plain law of PhraseBrackets: brackets about all of it change nothing.
  PhraseBrackets for the whole of Parse, in plain Lean.
  The law's helper that makes the node of a number.
  The law's helpers: are two rows of nodes the same; words without their places.
  The document's reader of words: its bytes and its runs.
  The document's reader of words: does a text begin so from a byte on?
  The document's NameFault: what is wrong with a name.
  The document's reader of words: a quoted text.
-/
import Derived.Test.YtfaadlfaimhbbaaGreatDoorM5
import Derived.Test.YtfaadlfaimhbbaaGreatDoorM3
namespace Go.Proofs.YtfaadlfaimhbbaaGreatDoor
open Go.RowKit

theorem assert_wrong (e i : Int) (w : World) : (Instr.typeAssert (.iface 57 (.agg #[.int .i64 e, .int .i64 i])) 20 57 true).run Tryz.prog w = .ok (.tuple #[.agg #[.int .i64 e, .int .i64 i], .bool true]) w := by kernel_rfl

set_option maxRecDepth 100000 in
set_option maxHeartbeats 1000000 in
theorem parse_idle (p q r : Addr) (w : World) :
    CallsD Tryz.prog 23 #[.pointer (some p), .pointer (some q), .pointer (some r)] .returning w fun e u' w' => e = .returned (.tuple #[]) ∧ u' = .returning ∧ w' = w := by
  refine callsD_of_wpS Tryz.func23 rfl fun c₀ cs hu => ?_
  apply wpS_seq
  apply wpS_region
  simp [wpOpsS, go_sem, recoverD, hu, Tryz.ntmps23, Exit.thenS]
  refine wpS_of_wp ?_
  go_wp2
  cases c₀
  simp_all [bodyPostS, results, Tryz.results23]

set_option maxRecDepth 100000 in
set_option maxHeartbeats 1000000 in
theorem parse_catch (N : Nat) (v : Value) (x y : Value) (e i : Int) (w : World) (h0 : Blk w N 23 #[v]) (h1 : Blk w (N + 1) 3 #[x]) (h2 : Blk w (N + 2) 25 #[y]) :
    CallsD Tryz.prog 23 #[.pointer (some ⟨N, 0, none⟩), .pointer (some ⟨N + 1, 0, none⟩), .pointer (some ⟨N + 2, 0, none⟩)] (.panicking ({ v := wrongV e i, recovered := false } :: [])) w fun e' u' w' =>
      e' = .returned (.tuple #[]) ∧ u' = .panicking ({ v := wrongV e i, recovered := true } :: []) ∧ Blk w' N 23 #[.slice none 0 0] ∧ Blk w' (N + 1) 3 #[.int .i64 i] ∧ Blk w' (N + 2) 25 #[.iface 40 (.int .i64 e)] ∧ Below N w w' := by
  have ha := assert_wrong e i
  have a0 := h0.cell 0
  have a1 := h1.cell 0
  have a2 := h2.cell 0
  have z0 := h0.frozen 0
  have z1 := h1.frozen 0
  have z2 := h2.frozen 0
  have hlt := h2.lt
  have hlt0 : N < w.heap.size := h0.lt
  have hlt1 : N + 1 < w.heap.size := h1.lt
  have b0 : ∀ o, (w.alloc o).cell? ⟨N, 0, none⟩ = some v := fun o => (h0.alloc o).cell 0
  have b1 : ∀ o, (w.alloc o).cell? ⟨N + 1, 0, none⟩ = some x := fun o => (h1.alloc o).cell 0
  have b2 : ∀ o, (w.alloc o).cell? ⟨N + 2, 0, none⟩ = some y := fun o => (h2.alloc o).cell 0
  have y0 : ∀ o, (w.alloc o).frozen? ⟨N, 0, none⟩ = false := fun o => (h0.alloc o).frozen 0
  have y1 : ∀ o, (w.alloc o).frozen? ⟨N + 1, 0, none⟩ = false := fun o => (h1.alloc o).frozen 0
  have y2 : ∀ o, (w.alloc o).frozen? ⟨N + 2, 0, none⟩ = false := fun o => (h2.alloc o).frozen 0
  have H0 := Lib.hid h0
  have H1 := Lib.hid h1
  have H2 := Lib.hid h2
  clear h0 h1 h2
  simp only [List.getElem?_toArray, List.getElem?_cons_zero] at a0 a1 a2
  refine callsD_of_wpS Tryz.func23 rfl fun c₀ cs hu => ?_
  apply wpS_seq
  apply wpS_region
  simp [wpOpsS, go_sem, recoverD, hu, Tryz.ntmps23, Exit.thenS, wrongV, Array.replicate_succ]
  refine wpS_of_wp ?_
  go_wp2
  go_region
  simp only [Exit.inBlock]
  refine ⟨rfl, .panicking ({ v := wrongV e i, recovered := true } :: []), rfl, .tuple #[], results_none rfl _ _ _, rfl, rfl, ?_, ?_, ?_, ?_⟩
  · exact ((((H0.out.set_ 0 _).far (p := ⟨N + 1, 0, none⟩) (by simp) _).far (p := ⟨N + 2, 0, none⟩) (by simp) _).alloc _).drew
  · exact ((((H1.out.far (p := ⟨N, 0, none⟩) (by simp) _).set_ 0 _).far (p := ⟨N + 2, 0, none⟩) (by simp) _).alloc _).drew
  · exact ((((H2.out.far (p := ⟨N, 0, none⟩) (by simp) _).far (p := ⟨N + 1, 0, none⟩) (by simp) _).set_ 0 _).alloc _).drew
  · exact (((((Below.refl N w).setCell (p := ⟨N, 0, none⟩) (Nat.le_refl _) _).setCell (p := ⟨N + 1, 0, none⟩) (by simp) _).setCell (p := ⟨N + 2, 0, none⟩) (by simp) _).alloc (by simp; omega) _).drew
end Go.Proofs.YtfaadlfaimhbbaaGreatDoor

namespace Go.Proofs.YtfaadlfaimhbbaaGreatDoor
open Go.RowKit

def badTok (t : Tok) : Bool := match spellW [t] with | .ok _ => false | .error _ => true
def parseW (ts : List Tok) : Except (Int × Nat) (List Node) :=
  if 300 < ts.length then .error (4, 0)
  else match ts.findIdx? badTok with
    | some i => .error (1, i)
    | none =>
      match run ts (fuel ts) .whole 0 with
      | some (.ok (ns, j)) => if j < ts.length then .error (1, j) else if 200 < ns.length then .error (4, 0) else .ok ns
      | some (.error e) => .error e
      | none => .error (0, 0)
def ParsePost (N : Nat) (w : World) (r : Except (Int × Nat) (List Node)) (e : Ending) (w' : World) : Prop :=
  match r with
  | .ok ns => ∃ B m, e = .returned (.tuple #[.slice B ns.length m, .int .i64 0, .nilIface]) ∧ ns.length ≤ m ∧ NodesAt w' B ns ∧ NewAt N B ∧ Below N w w'
  | .error (er, k) => e = .returned (.tuple #[.slice none 0 0, .int .i64 k, .iface 40 (.int .i64 er)]) ∧ Below N w w'

theorem parse_results {fn : Func} (h : fn.results = #[.cell 2 23, .cell 3 3, .cell 4 25]) (tmps : Array Value) (w : World) (N : Nat) (x y z : Value)
    (p0 : tmps.getD 2 undef = .pointer (some ⟨N, 0, none⟩)) (p1 : tmps.getD 3 undef = .pointer (some ⟨N + 1, 0, none⟩)) (p2 : tmps.getD 4 undef = .pointer (some ⟨N + 1 + 1, 0, none⟩))
    (h0 : Blk w N 23 #[x]) (h1 : Blk w (N + 1) 3 #[y]) (h2 : Blk w (N + 1 + 1) 25 #[z]) :
    (results fn tmps).run Tryz.prog w = .ok (.tuple #[x, y, z]) w := by
  have c0 := h0.cell 0
  have c1 := h1.cell 0
  have c2 := h2.cell 0
  simp only [List.getElem?_toArray, List.getElem?_cons_zero] at c0 c1 c2
  simp only [Array.getD_eq_getD_getElem?] at p0 p1 p2
  simp [results, h, go_sem, p0, p1, p2, c0, c1, c2]
/-- The three results' blocks. -/
structure Res3 (N : Nat) (w : World) (x y z : Value) : Prop where
  b0 : Blk w N 23 #[x]
  b1 : Blk w (N + 1) 3 #[y]
  b2 : Blk w (N + 1 + 1) 25 #[z]
theorem Res3.below {N : Nat} {w w' : World} {x y z : Value} (h : Res3 N w x y z) (hb : Below w.heap.size w w') : Res3 N w' x y z := ⟨h.b0.belowS hb, h.b1.belowS hb, h.b2.belowS hb⟩
theorem Res3.only {N g : Nat} {w w' : World} {x y z : Value} (h : Res3 N w x y z) (ho : Only g w w') (h0 : N + 1 + 1 < g) : Res3 N w' x y z := ⟨ho.blk h.b0 (by omega), ho.blk h.b1 (by omega), ho.blk h.b2 (by omega)⟩
theorem Res3.set_ {N : Nat} {w : World} {x y z : Value} (h : Res3 N w x y z) (a b c : Value) : Res3 N (((w.setCell ⟨N, 0, none⟩ a).setCell ⟨N + 1, 0, none⟩ b).setCell ⟨N + 1 + 1, 0, none⟩ c) a b c :=
  ⟨((h.b0.set_ 0 a).far (p := ⟨N + 1, 0, none⟩) (show N ≠ N + 1 by omega) b).far (p := ⟨N + 1 + 1, 0, none⟩) (show N ≠ N + 1 + 1 by omega) c,
   ((h.b1.far (p := ⟨N, 0, none⟩) (show N + 1 ≠ N by omega) a).set_ 0 b).far (p := ⟨N + 1 + 1, 0, none⟩) (show N + 1 ≠ N + 1 + 1 by omega) c,
   ((h.b2.far (p := ⟨N, 0, none⟩) (show N + 1 + 1 ≠ N by omega) a).far (p := ⟨N + 1, 0, none⟩) (show N + 1 + 1 ≠ N + 1 by omega) b).set_ 0 c⟩

theorem nodes_set {w : World} {B : Option Addr} {ns : List Node} {M : Nat} (h : NodesAt w B ns) (hn : NewAt M B) {p : Addr} (hp : p.block < M) (v : Value) : NodesAt (w.setCell p v) B ns :=
  ⟨h.1, fun h0 => by
    obtain ⟨b, off, e, hb, hc⟩ := h.2 h0
    have := hn b off _ e
    refine ⟨b, off, e, by simpa using hb, fun j u hu => ?_⟩
    rw [World.cell?_setCell_other _ _ _ _ (fun e2 => by rw [e2] at hp; simp at hp; omega)]
    exact hc j u hu⟩
theorem find_bad {p : Tok → Bool} : ∀ (ts : List Tok) (k : Nat) (t : Tok), (ts.take k).all (fun t => !p t) = true → ts[k]? = some t → p t = true → ts.findIdx? p = some k
  | [], k, t, _, h, _ => by simp at h
  | x :: l, 0, t, _, h, hp => by simp at h; subst h; simp [List.findIdx?_cons, hp]
  | x :: l, k + 1, t, ha, h, hp => by
    simp only [List.take_succ_cons, List.all_cons, Bool.and_eq_true, Bool.not_eq_true'] at ha
    have ih := find_bad l k t ha.2 (by simpa using h) hp
    simp [List.findIdx?_cons, ha.1, ih]
theorem find_ok {p : Tok → Bool} : ∀ (ts : List Tok), ts.all (fun t => !p t) = true → ts.findIdx? p = none
  | [], _ => rfl
  | x :: l, ha => by
    simp only [List.all_cons, Bool.and_eq_true, Bool.not_eq_true'] at ha
    have ih := find_ok l ha.2
    simp [List.findIdx?_cons, ha.1, ih]
theorem Res3.facts {N : Nat} {w : World} {x y z : Value} (h : Res3 N w x y z) : w.cell? ⟨N, 0, none⟩ = some x ∧ w.cell? ⟨N + 1, 0, none⟩ = some y ∧ w.cell? ⟨N + 1 + 1, 0, none⟩ = some z ∧
    w.frozen? ⟨N, 0, none⟩ = false ∧ w.frozen? ⟨N + 1, 0, none⟩ = false ∧ w.frozen? ⟨N + 1 + 1, 0, none⟩ = false :=
  ⟨h.b0.cell 0, h.b1.cell 0, h.b2.cell 0, h.b0.frozen 0, h.b1.frozen 0, h.b2.frozen 0⟩
theorem below_set3 {N : Nat} {a w : World} (h : Below N a w) (x y z : Value) : Below N a (((w.setCell ⟨N, 0, none⟩ x).setCell ⟨N + 1, 0, none⟩ y).setCell ⟨N + 1 + 1, 0, none⟩ z) :=
  ((h.setCell (p := ⟨N, 0, none⟩) (Nat.le_refl _) x).setCell (p := ⟨N + 1, 0, none⟩) (show N ≤ N + 1 by omega) y).setCell (p := ⟨N + 1 + 1, 0, none⟩) (show N ≤ N + 1 + 1 by omega) z

set_option maxRecDepth 100000 in
set_option maxHeartbeats 4000000 in
theorem parse_c (A : Option Addr) (c : Nat) (ts : List Tok) (w : World) (ht : ToksAt w A ts) (hc : ts.length ≤ c) (hcm : c ≤ 9223372036854775807) (hs : ∀ t ∈ ts, t.s.size ≤ 100000000) (hv : VarsAt w) (ha : ∀ b off sp, A = some ⟨b, off, sp⟩ → b < w.heap.size) :
    Calls Tryz.prog 10 #[.slice A ts.length c] w (ParsePost w.heap.size w (parseW ts)) := by
  have hmf : ∀ (fn : Fn) (first cap : Array Value) (w : World), (Instr.makeFunc fn first cap).run Tryz.prog w = .ok (.func fn first cap) w := fun _ _ _ _ => rfl
  obtain ⟨R, hR⟩ : ∃ R, R = parseW ts := ⟨_, rfl⟩
  rw [← hR]
  have HR := Lib.hid hR
  have HS := Lib.hid hs
  have HT := Lib.hid ht
  have HV := Lib.hid hv
  have HAA := Lib.hid ha
  obtain ⟨n, hn⟩ : ∃ n, n = ts.length := ⟨_, rfl⟩
  rw [← hn] at hc ⊢
  have HN := Lib.hid hn
  clear hR hs ht hv hn ha
  by_cases h300 : 300 < n
  · have h300' : (300 : Int) < n := by omega
    have hres : R = .error (4, 0) := by rw [HR.out, parseW, if_pos (by rw [← HN.out]; exact h300)]
    subst hres
    go_enter_defers Tryz.func10, Tryz.ntmps10
    go_wp2_with fail
    refine ⟨_, parse_results rfl _ _ w.heap.size _ _ _ rfl rfl rfl (((Blk.new w _ _).alloc _).alloc _) ?_ ?_, rfl, ?_⟩
    · have := (Blk.new (w.alloc (.cells #[.slice none 0 0] 23)) 3 #[.int .i64 0]).alloc (.cells #[.iface 40 (.int .i64 4)] 25)
      simpa using this
    · have := Blk.new ((w.alloc (.cells #[.slice none 0 0] 23)).alloc (.cells #[.int .i64 0] 3)) 25 #[.iface 40 (.int .i64 4)]
      simpa using this
    · exact (((Below.refl _ w).alloc (Nat.le_refl _) _).alloc (by simp) _).alloc (by simp; omega) _
  · have h300' : (n : Int) ≤ 300 := by omega
    go_enter_defers Tryz.func10, Tryz.ntmps10
    go_wp2_with fail
    refine name_world ?_
    intro w1 hw1
    have hst : Res3 w.heap.size w1 (.slice none 0 0) (.int .i64 0) .nilIface := by
      rw [hw1]
      refine ⟨((Blk.new w _ _).alloc _).alloc _, ?_, ?_⟩
      · have := (Blk.new (w.alloc (.cells #[.slice none 0 0] 23)) 3 #[.int .i64 0]).alloc (.cells #[.nilIface] 25)
        simpa using this
      · have := Blk.new ((w.alloc (.cells #[.slice none 0 0] 23)).alloc (.cells #[.int .i64 0] 3)) 25 #[.nilIface]
        simpa using this
    have hb1 : Below w.heap.size w w1 := by
      rw [hw1]
      exact (((Below.refl _ w).alloc (Nat.le_refl _) _).alloc (by simp) _).alloc (by simp; omega) _
    clear hw1
    go_loopw [15] (fun iv wr => ∃ (k : Nat), k ≤ n ∧ iv = .int .i64 k ∧ Hid ((ts.take k).all (fun t => !badTok t) = true) ∧ Hid (Res3 w.heap.size wr (.slice none 0 0) (.int .i64 0) .nilIface) ∧ Hid (Below w.heap.size w wr))
      (fun iv _ => n - (intOf iv).toNat)
    case atStart => exact ⟨0, Nat.zero_le _, rfl, Lib.hid rfl, Lib.hid hst, Lib.hid hb1⟩
    case round =>
      clear hst hb1
      obtain ⟨k, hk, rfl, hall, hst, hb⟩ := hrel
      by_cases hlt : k < n
      · obtain ⟨t, htk⟩ : ∃ t, ts[k]? = some t := ⟨_, List.getElem?_eq_getElem (by rw [← HN.out]; exact hlt)⟩
        obtain ⟨b, off, rfl, hbl, d0, d1, d2⟩ := (HT.out.below hb.out).at_ htk
        have hlt' : (k : Int) < n := by omega
        have hlt2 : (k : Int) + 1 ≤ c := by omega
        have hck : ¬ c = k := by omega
        have htoks : ToksAt wr (some ⟨b, off + k * 3, none⟩) [t] := ⟨rfl, fun _ => ⟨b, off + k * 3, rfl, hbl, fun j u hu => by
          rcases j with _ | _ | _ | j
          · simp [Tok.cells] at hu; subst hu; exact d0
          · simp [Tok.cells] at hu; subst hu; exact d1
          · simp [Tok.cells] at hu; subst hu; exact d2
          · simp [Tok.cells] at hu⟩⟩
        have hsp := spell_c (some ⟨b, off + k * 3, none⟩) (c - k) [t] wr htoks (fun u hu => by simp at hu; subst hu; exact HS.out _ (List.mem_of_getElem? htk)) (by simp)
        have HSP := Lib.hid hsp
        have HTK := Lib.hid htk
        simp only [List.length_cons, List.length_nil] at HSP
        clear hsp htoks htk d0 d1 d2
        cases hres : spellW [t] with
        | error er =>
          rw [hres] at HSP
          simp only [spellV] at HSP
          have hbad : badTok t = true := by unfold badTok; rw [hres]
          have HBAD := Lib.hid hbad
          clear hres hbad
          have hrr : R = .error (1, k) := by
            rw [HR.out, parseW, if_neg (by rw [← HN.out]; exact h300), find_bad ts k t hall.out HTK.out HBAD.out]
          have HRR := Lib.hid hrr
          clear hrr
          go_wp2_with fail
          refine HSP.out.mono ?_
          rintro e w2 ⟨rfl, hb2⟩
          have HS2 := Lib.hid (hst.out.below hb2)
          have HB2 := Lib.hid (hb.out.trans (hb2.mono hb.out.size))
          obtain ⟨x0, x1, x2, y0, y1, y2⟩ := HS2.out.facts
          clear hb2
          go_wp2_with fail
          rw [HRR.out]
          have hz := HS2.out.set_ (.slice none 0 0) (.int .i64 k) (.iface 40 (.int .i64 1))
          exact ⟨_, parse_results rfl _ _ w.heap.size _ _ _ rfl rfl rfl hz.b0 hz.b1 hz.b2, rfl, below_set3 HB2.out _ _ _⟩
        | ok sp =>
          rw [hres] at HSP
          simp only [spellV] at HSP
          have hbad : badTok t = false := by unfold badTok; rw [hres]
          have hall2 : (ts.take (k + 1)).all (fun t => !badTok t) = true := by rw [take_one HTK.out, List.all_append, hall.out]; simp [hbad]
          have HALL2 := Lib.hid hall2
          clear hres hbad hall2
          go_wp2_with fail
          refine HSP.out.mono ?_
          rintro e w2 ⟨rfl, hb2⟩
          have HS2 := Lib.hid (hst.out.below hb2)
          have HB2 := Lib.hid (hb.out.trans (hb2.mono hb.out.size))
          clear hb2
          go_wp2_with fail
          go_roundw
          case rel => exact ⟨k + 1, by omega, rfl, HALL2, HS2, HB2⟩
          case measure => simp [intOf]; omega
      · obtain rfl : k = n := by omega
        have hfull : ts.take k = ts := List.take_of_length_le (by rw [← HN.out]; exact Nat.le_refl _)
        rw [hfull] at hall
        have hrr : R = (match run ts (fuel ts) .whole 0 with
          | some (.ok (ns, j)) => if j < ts.length then .error (1, j) else if 200 < ns.length then .error (4, 0) else .ok ns
          | some (.error e) => .error e
          | none => .error (0, 0)) := by
          rw [HR.out, parseW, if_neg (by rw [← HN.out]; exact h300), find_ok ts hall.out]
        have hsome : run ts (fuel ts) .whole 0 ≠ none := run_some ts (fuel ts) .whole 0 (Nat.zero_le _) (by simp only [PF.lv, fuel]; omega)
        obtain ⟨x, hx⟩ : ∃ x, run ts (fuel ts) .whole 0 = some x := Option.ne_none_iff_exists'.1 hsome
        rw [hx] at hrr
        have hgs : w.heap.size + 1 + 1 < wr.heap.size := hst.out.b2.lt
        have hps : Ps wr.heap.size A c ts 0 (wr.alloc (.cells #[.slice A k c, .int .i64 0] 60)) := by
          have hb9 : Below w.heap.size w (wr.alloc (.cells #[.slice A k c, .int .i64 0] 60)) := hb.out.alloc hb.out.size _
          refine ⟨?_, HT.out.below hb9, ?_, ?_, ?_, Nat.zero_le _, by rw [← HN.out]; omega, HS.out⟩
          · rw [← HN.out]; exact Blk.new _ _ _
          · intro b off sp e
            have := HAA.out b off sp e
            omega
          · have := HV.out.only (g := wr.heap.size) ⟨by have := HV.out.2.2.1; omega, by have := HV.out.2.2.2; omega⟩ (Only.ofBelow hb9)
            exact this
          · exact ⟨by have := HV.out.2.2.1; omega, by have := HV.out.2.2.2; omega⟩
        have HC := Lib.hid (good wr.heap.size A c ts (fuel ts) (fuel ts) (Nat.le_refl _) .whole _ 0 x _ rfl hx hps)
        have HX := Lib.hid hx
        have HRR := Lib.hid hrr
        have hfr : ∀ w', Only wr.heap.size (wr.alloc (.cells #[.slice A k c, .int .i64 0] 60)) w' → Res3 w.heap.size w' (.slice none 0 0) (.int .i64 0) .nilIface ∧ Below w.heap.size w w' := fun w' ho =>
          ⟨(hst.out.below ((Below.refl _ _).alloc (Nat.le_refl _) _)).only ho hgs, (hb.out.alloc hb.out.size _).trans (ho.below (by simp; have := hb.out.size; omega) hb.out.size)⟩
        have HFR := Lib.hid hfr
        clear hx hrr hsome hps hfr hfull
        go_wp2_with fail
        refine HC.out.mono ?_
        intro e w3 hp
        rcases x with ⟨er, j⟩ | ⟨ns, j⟩
        · obtain ⟨rfl, ho⟩ := hp
          obtain ⟨hr3, hb3⟩ := HFR.out _ ho
          unfold pan
          go_wp2_with fail
          refine leaves_cons (f := 23) (args := #[.pointer (some ⟨w.heap.size, 0, none⟩), .pointer (some ⟨w.heap.size + 1, 0, none⟩), .pointer (some ⟨w.heap.size + 1 + 1, 0, none⟩)]) (by simp) (by simp [go_sem]) ?_
          refine (parse_catch w.heap.size _ _ _ er j w3 hr3.b0 hr3.b1 hr3.b2).mono ?_
          rintro e u' w'' ⟨rfl, rfl, g0, g1, g2, gb⟩
          have hr : R = .error (er, j) := HRR.out
          rw [hr]
          exact ⟨_, parse_results rfl _ _ w.heap.size _ _ _ rfl rfl rfl g0 g1 g2, rfl, hb3.trans gb⟩
        · obtain ⟨B, m, rfl, l3, n3, z3, o3, h3⟩ := hp
          obtain ⟨hr3, hb3⟩ := HFR.out _ o3
          have hr : R = if j < ts.length then .error (1, j) else if 200 < ns.length then .error (4, 0) else .ok ns := HRR.out
          rw [← HN.out] at hr
          have hns : ns.length ≤ 300 := (run_pos HX.out (Nat.zero_le _) rfl rfl (by rw [← HN.out]; omega)).2.1
          have HRR2 := Lib.hid hr
          obtain ⟨x0, x1, x2, y0, y1, y2⟩ := hr3.facts
          obtain ⟨q0, q1, q2, q3⟩ := h3.cells
          have hN0 : w.heap.size ≠ wr.heap.size := by omega
          have hN1 : wr.heap.size ≠ w.heap.size := by omega
          have H3 := Lib.hid h3
          have R3 := Lib.hid hr3
          have B3 := Lib.hid hb3
          have N3 := Lib.hid n3
          have Z3 := Lib.hid (z3.mono (by have := hb.out.size; simp; omega) : NewAt (w.heap.size + 1 + 1 + 1) B)
          have L3 := Lib.hid l3
          have P3 := Lib.hid (show Ps wr.heap.size A c ts j (w3.setCell ⟨w.heap.size, 0, none⟩ (.slice B ns.length m)) from
            ⟨h3.blk.far (p := ⟨w.heap.size, 0, none⟩) hN1 _, HT.out.below (hb3.setCell (p := ⟨w.heap.size, 0, none⟩) (Nat.le_refl _) _), h3.ne, HV.out.only (g := wr.heap.size) h3.above (Only.ofBelow (hb3.setCell (p := ⟨w.heap.size, 0, none⟩) (Nat.le_refl _) _)), h3.above, h3.le, h3.len, h3.small⟩)
          clear hr h3 hr3 hb3 n3 z3 l3 o3 HFR HX HRR HC
          have hlen2 : (ns.length : Int) ≤ 300 := by omega
          by_cases hjk : j < k
          · have hj1 : (j : Int) < k := by omega
            have hj2 : decide ((j : Int) < k) = true := by simp; omega
            have hres : R = .error (1, j) := by rw [HRR2.out, if_pos hjk]
            have HRES := Lib.hid hres
            clear hres
            go_wp2_with fail
            refine (fail_c P3.out).mono ?_
            rintro e w4 ⟨rfl, rfl⟩
            unfold pan
            go_wp2_with fail
            refine leaves_cons (f := 23) (args := #[.pointer (some ⟨w.heap.size, 0, none⟩), .pointer (some ⟨w.heap.size + 1, 0, none⟩), .pointer (some ⟨w.heap.size + 1 + 1, 0, none⟩)]) (by simp) (by simp [go_sem]) ?_
            refine (parse_catch w.heap.size _ _ _ 1 j _ (R3.out.b0.set_ 0 _) (R3.out.b1.far (p := ⟨w.heap.size, 0, none⟩) (show w.heap.size + 1 ≠ w.heap.size by omega) _) (R3.out.b2.far (p := ⟨w.heap.size, 0, none⟩) (show w.heap.size + 1 + 1 ≠ w.heap.size by omega) _)).mono ?_
            rintro e u' w'' ⟨rfl, rfl, g0, g1, g2, gb⟩
            rw [HRES.out]
            exact ⟨_, parse_results rfl _ _ w.heap.size _ _ _ rfl rfl rfl g0 g1 g2, rfl, (B3.out.setCell (p := ⟨w.heap.size, 0, none⟩) (Nat.le_refl _) _).trans gb⟩
          · have hj1 : ¬ (j : Int) < k := by omega
            have hj2 : decide ((j : Int) < k) = false := by simp; omega
            have hres := HRR2.out
            rw [if_neg hjk] at hres
            by_cases h200 : 200 < ns.length
            · have hg2 : (200 : Int) < ns.length := by omega
              rw [if_pos h200] at hres
              have HRES := Lib.hid hres
              clear hres
              go_wp2_with fail
              refine leaves_cons (f := 23) (args := #[.pointer (some ⟨w.heap.size, 0, none⟩), .pointer (some ⟨w.heap.size + 1, 0, none⟩), .pointer (some ⟨w.heap.size + 1 + 1, 0, none⟩)]) (by simp) (by simp [go_sem]) ?_
              refine (parse_idle _ _ _ _).mono ?_
              rintro e u' w'' ⟨rfl, rfl, rfl⟩
              rw [HRES.out]
              have R4 : Res3 w.heap.size (w3.setCell ⟨w.heap.size, 0, none⟩ (.slice B ns.length m)) (.slice B ns.length m) (.int .i64 0) .nilIface := ⟨R3.out.b0.set_ 0 _, R3.out.b1.far (p := ⟨w.heap.size, 0, none⟩) (show w.heap.size + 1 ≠ w.heap.size by omega) _, R3.out.b2.far (p := ⟨w.heap.size, 0, none⟩) (show w.heap.size + 1 + 1 ≠ w.heap.size by omega) _⟩
              have B4 : Below w.heap.size w (w3.setCell ⟨w.heap.size, 0, none⟩ (.slice B ns.length m)) := B3.out.setCell (p := ⟨w.heap.size, 0, none⟩) (Nat.le_refl _) _
              have hz := R4.set_ (.slice none 0 0) (.int .i64 0) (.iface 40 (.int .i64 4))
              exact ⟨_, parse_results rfl _ _ w.heap.size _ _ _ rfl rfl rfl hz.b0 hz.b1 hz.b2, rfl, below_set3 B4 _ _ _⟩
            · have hg2 : ¬ (200 : Int) < ns.length := by omega
              rw [if_neg h200] at hres
              have HRES := Lib.hid hres
              clear hres
              go_wp2_with fail
              refine leaves_cons (f := 23) (args := #[.pointer (some ⟨w.heap.size, 0, none⟩), .pointer (some ⟨w.heap.size + 1, 0, none⟩), .pointer (some ⟨w.heap.size + 1 + 1, 0, none⟩)]) (by simp) (by simp [go_sem]) ?_
              refine (parse_idle _ _ _ _).mono ?_
              rintro e u' w'' ⟨rfl, rfl, rfl⟩
              rw [HRES.out]
              have R4 : Res3 w.heap.size (w3.setCell ⟨w.heap.size, 0, none⟩ (.slice B ns.length m)) (.slice B ns.length m) (.int .i64 0) .nilIface := ⟨R3.out.b0.set_ 0 _, R3.out.b1.far (p := ⟨w.heap.size, 0, none⟩) (show w.heap.size + 1 ≠ w.heap.size by omega) _, R3.out.b2.far (p := ⟨w.heap.size, 0, none⟩) (show w.heap.size + 1 + 1 ≠ w.heap.size by omega) _⟩
              have B4 : Below w.heap.size w (w3.setCell ⟨w.heap.size, 0, none⟩ (.slice B ns.length m)) := B3.out.setCell (p := ⟨w.heap.size, 0, none⟩) (Nat.le_refl _) _
              have hz := R4.set_ (.slice B ns.length m) (.int .i64 0) .nilIface
              refine ⟨_, parse_results rfl _ _ w.heap.size _ _ _ rfl rfl rfl hz.b0 hz.b1 hz.b2, B, m, rfl, L3.out, ?_, Z3.out.mono (by omega), below_set3 B4 _ _ _⟩
              exact nodes_set (nodes_set (nodes_set (nodes_set N3.out Z3.out (p := ⟨w.heap.size, 0, none⟩) (show w.heap.size < w.heap.size + 1 + 1 + 1 by omega) _) Z3.out (p := ⟨w.heap.size, 0, none⟩) (show w.heap.size < w.heap.size + 1 + 1 + 1 by omega) _) Z3.out (p := ⟨w.heap.size + 1, 0, none⟩) (show w.heap.size + 1 < w.heap.size + 1 + 1 + 1 by omega) _) Z3.out (p := ⟨w.heap.size + 1 + 1, 0, none⟩) (show w.heap.size + 1 + 1 < w.heap.size + 1 + 1 + 1 by omega) _
end Go.Proofs.YtfaadlfaimhbbaaGreatDoor

namespace Go.Proofs.YtfaadlfaimhbbaaGreatDoor
open Go.RowKit

def Sim (p : Nat) (r r' : PR) : Prop := ∀ ns j, r = some (.ok (ns, j)) → r' = some (.ok (ns, p + j))
/-- us holds ts from word p on, and a closing bracket behind. -/
structure In (p : Nat) (ts us : List Tok) : Prop where
  same : ∀ i, i < ts.length → us[p + i]? = ts[i]?
  close : ∃ q, us[p + ts.length]? = some ⟨5, ⟨#[41]⟩, q⟩
section
variable {p : Nat} {ts us : List Tok}
theorem Sim.none_ {r : PR} : Sim p none r := fun _ _ h => by cases h
theorem Sim.error_ {e : Int × Nat} {r : PR} : Sim p (some (.error e)) r := fun _ _ h => by cases h
theorem Sim.ok_ {ns : List Node} {j : Nat} : Sim p (some (.ok (ns, j))) (some (.ok (ns, p + j))) := fun _ _ h => by cases h; rfl
theorem Sim.then_ {r r' : PR} {k k' : List Node → Nat → PR} (hr : Sim p r r') (hk : ∀ ns j, r = some (.ok (ns, j)) → Sim p (k ns j) (k' ns (p + j))) : Sim p (r.then k) (r'.then k') := by
  cases r with
  | none => exact .none_
  | some y =>
    cases y with
    | error e => exact .error_
    | ok q =>
      rw [hr q.1 q.2 rfl]
      exact hk q.1 q.2 rfl
theorem In.isAt_ (h : In p ts us) {i : Nat} (hi : i ≤ ts.length) {s : List UInt8} (hs : s ≠ [41]) : isAt us (p + i) s = isAt ts i s := by
  unfold isAt
  rcases Nat.lt_or_ge i ts.length with hlt | hge
  · rw [h.same i hlt]
  · obtain rfl : i = ts.length := by omega
    obtain ⟨q, hq⟩ := h.close
    rw [hq, List.getElem?_eq_none (Nat.le_refl _)]
    have : ((⟨#[41]⟩ : ByteArray).toList == s) = false := by
      rw [ByteArray.toList_eq]
      simp only [beq_eq_false_iff_ne, ne_eq]
      exact fun e => hs e.symm
    simp only [this, Bool.and_false]
theorem In.isAt_yes (h : In p ts us) {i : Nat} {s : List UInt8} (hs : isAt ts i s = true) : isAt us (p + i) s = true := by
  have hlt := isAt_lt hs
  unfold isAt at hs ⊢
  rw [h.same i hlt]; exact hs
theorem In.kind_ (h : In p ts us) {i : Nat} (hi : i ≤ ts.length) : kindAt us (p + i) = if i < ts.length then kindAt ts i else 5 := by
  rcases Nat.lt_or_ge i ts.length with hlt | hge
  · rw [if_pos hlt]; unfold kindAt; rw [h.same i hlt]
  · obtain rfl : i = ts.length := by omega
    obtain ⟨q, hq⟩ := h.close
    rw [if_neg (by omega)]; unfold kindAt; rw [hq]
theorem Sim.need_ (h : In p ts us) {i : Nat} {s : List UInt8} {k k' : Nat → PR} (hk : i < ts.length → Sim p (k (i + 1)) (k' (p + (i + 1)))) : Sim p (needP ts i s k) (needP us (p + i) s k') := by
  unfold needP
  cases hb : isAt ts i s with
  | false => exact .error_
  | true =>
    rw [h.isAt_yes hb]
    exact hk (isAt_lt hb)
theorem Sim.word_ (h : In p ts us) {i : Nat} {c : Int} {k k' : ByteArray → Nat → PR} (hk : ∀ s, i < ts.length → Sim p (k s (i + 1)) (k' s (p + (i + 1)))) : Sim p (wordP ts i c k) (wordP us (p + i) c k') := by
  unfold wordP
  cases ht : ts[i]? with
  | none => exact .error_
  | some t =>
    have hlt := lt_of_some ht
    rw [h.same i hlt, ht]
    simp only
    split
    · exact hk _ hlt
    · exact .error_
theorem Sim.ite_ {c c' : Prop} [Decidable c] [Decidable c'] {a b a' b' : PR} (hc : c ↔ c') (ha : c → Sim p a a') (hb : ¬ c → Sim p b b') : Sim p (if c then a else b) (if c' then a' else b') := by
  by_cases h : c
  · rw [if_pos h, if_pos (hc.1 h)]; exact ha h
  · rw [if_neg h, if_neg (fun e => h (hc.2 e))]; exact hb h
theorem iff_of_eq {a b : Bool} (h : a = b) : (b = true) ↔ (a = true) := by rw [h]
theorem Sim.number_ (h : In p ts us) {i : Nat} {m : List UInt8} : Sim p (numberP ts i m) (numberP us (p + i) m) := by
  unfold numberP
  refine .word_ h fun s hi => ?_
  cases Lib.parseIntB 64 (m ++ s.data.toList) with
  | ok v => exact .ok_
  | _ => exact .error_
end

theorem run_inside {p : Nat} {ts us : List Tok} (h : In p ts us) : ∀ (f : Nat) (pf : PF) (i : Nat), i ≤ ts.length → Sim p (run ts f pf i) (run us f pf (p + i))
  | 0, _, _, _ => .none_
  | f + 1, pf, i, hi => by
    have ih := run_inside h f
    have len := fun pf i hi ns j => run_len ts f pf i hi ns j
    have at_ : ∀ {i : Nat} {s : List UInt8}, i ≤ ts.length → s ≠ [41] → ((isAt ts i s = true) ↔ (isAt us (p + i) s = true)) := fun hi hs => iff_of_eq (h.isAt_ hi hs)
    cases pf with
    | whole =>
      unfold run
      refine .ite_ ?_ (fun hc => ?_) (fun _ => ih _ _ hi)
      · rw [h.isAt_ hi (by decide)]
        cases hb : isAt ts i [105, 102] with
        | false => simp
        | true =>
          have hlt := isAt_lt hb
          rw [Nat.add_assoc, h.isAt_ (i := i + 1) hlt (by decide)]
      · have hlt : i < ts.length := by rw [Bool.and_eq_true] at hc; exact isAt_lt hc.1
        refine .then_ (ih _ _ hlt) fun c j hc => .need_ h fun hj => .then_ (ih _ _ hj) fun a k ha => .need_ h fun hk => .then_ (ih _ _ hk) fun b l hb => .ok_
    | either => unfold run; exact .then_ (ih _ _ hi) fun e j he => ih _ _ (len _ _ hi _ _ he).2.1
    | both => unfold run; exact .then_ (ih _ _ hi) fun e j he => ih _ _ (len _ _ hi _ _ he).2.1
    | sum => unfold run; exact .then_ (ih _ _ hi) fun e j he => ih _ _ (len _ _ hi _ _ he).2.1
    | prod => unfold run; exact .then_ (ih _ _ hi) fun e j he => ih _ _ (len _ _ hi _ _ he).2.1
    | post => unfold run; exact .then_ (ih _ _ hi) fun e j he => ih _ _ (len _ _ hi _ _ he).2.1
    | chain L acc =>
      unfold run
      rcases Nat.lt_or_ge i ts.length with hlt | hge
      · rw [h.same i hlt]
        cases ht : ts[i]? with
        | none => exact .ok_
        | some t =>
          simp only
          refine .ite_ Iff.rfl (fun _ => ?_) (fun _ => .ok_)
          cases L.sign t.s.toList with
          | none => exact .ok_
          | some o => exact .then_ (ih _ _ hlt) fun x j hx => ih _ _ (len _ _ hlt _ _ hx).2.1
      · obtain rfl : i = ts.length := by omega
        obtain ⟨q, hq⟩ := h.close
        rw [hq, List.getElem?_eq_none (Nat.le_refl _)]
        have : L.sign (⟨#[41]⟩ : ByteArray).toList = none := by rw [ByteArray.toList_eq]; cases L <;> rfl
        simp only [this, if_true]
        exact .ok_
    | rel =>
      unfold run
      refine .then_ (ih _ _ hi) fun e j he => ?_
      have hj := (len _ _ hi _ _ he).2.1
      refine .ite_ (at_ hj (by decide)) (fun hc => .then_ (ih _ _ (isAt_lt hc)) fun _ _ _ => .ok_) fun _ => ?_
      refine .ite_ (at_ hj (by decide)) (fun hc => .then_ (ih _ _ (isAt_lt hc)) fun _ _ _ => .ok_) fun _ => ?_
      refine .ite_ (at_ hj (by decide)) (fun hc => .then_ (ih _ _ (isAt_lt hc)) fun _ _ _ => .ok_) fun _ => ?_
      refine .ite_ (at_ hj (by decide)) (fun hc => .then_ (ih _ _ (isAt_lt hc)) fun _ _ _ => .ok_) fun _ => ?_
      refine .ite_ (at_ hj (by decide)) (fun hc => .word_ h fun _ _ => .ok_) fun _ => ?_
      refine .ite_ (at_ hj (by decide)) (fun hc => .word_ h fun _ _ => .ok_) fun _ => ?_
      exact .ite_ (at_ hj (by decide)) (fun hc => .word_ h fun _ _ => .ok_) fun _ => .ok_
    | sign =>
      unfold run
      refine .ite_ (at_ hi (by decide)) (fun hc => .then_ (ih _ _ (isAt_lt hc)) fun _ _ _ => .ok_) fun _ => ?_
      refine .ite_ ?_ (fun hc => ?_) fun _ => ih _ _ hi
      · rw [h.isAt_ hi (by decide)]
        cases hb : isAt ts i [45] with
        | false => simp
        | true =>
          have hlt := isAt_lt hb
          rw [Nat.add_assoc, h.kind_ (i := i + 1) hlt]
          split
          · rfl
          · rename_i hn; rw [show kindAt ts (i + 1) = 0 from by unfold kindAt; rw [List.getElem?_eq_none (by omega)]]; simp
      · have hlt : i < ts.length := by rw [Bool.and_eq_true] at hc; exact isAt_lt hc.1
        exact .then_ (ih _ _ hlt) fun _ _ _ => .ok_
    | posts acc =>
      unfold run
      refine .ite_ (at_ hi (by decide)) (fun hc => .word_ h fun s hlt => ?_) fun _ => .ok_
      refine .ite_ ?_ (fun _ => ih _ _ hlt) (fun hc => ?_)
      · rw [h.isAt_ (i := i + 1 + 1) hlt (by decide)]
      · have h40 : isAt ts (i + 1 + 1) [40] = true := by
          simp only [Bool.or_eq_true, Bool.not_eq_true', not_or] at hc
          simpa using hc.2
        exact .then_ (ih _ _ (isAt_lt h40)) fun x k hx => .need_ h fun hk => ih _ _ hk
    | atom =>
      unfold run
      have kk : ∀ {c : Int}, c ≠ 5 → c ≠ 0 → ((kindAt ts i = c) ↔ (kindAt us (p + i) = c)) := by
        intro c h5 h0
        rw [h.kind_ hi]
        split
        · rfl
        · rename_i hn
          rw [show kindAt ts i = 0 from by unfold kindAt; rw [List.getElem?_eq_none (by omega)]]
          constructor
          · intro e; exact absurd e.symm h0
          · intro e; exact absurd e.symm h5
      refine .ite_ (kk (by decide) (by decide)) (fun _ => .number_ h) fun _ => ?_
      refine .ite_ (kk (by decide) (by decide)) (fun _ => .word_ h fun _ _ => .ok_) fun _ => ?_
      refine .ite_ (kk (by decide) (by decide)) (fun _ => .word_ h fun _ _ => .ok_) fun _ => ?_
      refine .ite_ (kk (by decide) (by decide)) (fun hk1 => ?_) fun _ => ?_
      · have hlt : i < ts.length := by
          rcases Nat.lt_or_ge i ts.length with h' | h'
          · exact h'
          · unfold kindAt at hk1; rw [List.getElem?_eq_none h'] at hk1; cases hk1
        unfold namedP
        refine .ite_ (by rw [Nat.add_assoc]; exact at_ hlt (by decide)) (fun _ => .word_ h fun k _ => .word_ h fun s _ => .ok_) fun _ => ?_
        refine .ite_ (at_ hi (by decide)) (fun _ => .ok_) fun _ => ?_
        refine .ite_ (at_ hi (by decide)) (fun _ => .ok_) fun _ => ?_
        exact .word_ h fun s _ => .ite_ Iff.rfl (fun _ => .error_) fun _ => .ok_
      refine .ite_ (at_ hi (by decide)) (fun _ => .number_ h) fun _ => ?_
      refine .ite_ (at_ hi (by decide)) (fun hc => .then_ (ih _ _ (isAt_lt hc)) fun _ _ _ => .need_ h fun _ => .ok_) fun _ => ?_
      refine .ite_ (at_ hi (by decide)) (fun hc => ih _ _ (isAt_lt hc)) fun _ => ?_
      exact .ite_ (at_ hi (by decide)) (fun hc => ih _ _ (isAt_lt hc)) fun _ => .error_
    | set parts =>
      unfold run
      refine .ite_ (at_ hi (by decide)) (fun _ => .ok_) fun _ => ?_
      refine .ite_ Iff.rfl (fun _ => .then_ (ih _ _ hi) fun x j hx => ih _ _ (len _ _ hi _ _ hx).2.1) fun _ => ?_
      exact .need_ h fun hj => .then_ (ih _ _ hj) fun x j hx => ih _ _ (len _ _ hj _ _ hx).2.1
    | recd parts last =>
      unfold run
      refine .ite_ (at_ hi (by decide)) (fun _ => .ok_) fun _ => ?_
      have go : ∀ i', i' ≤ ts.length → Sim p (wordP ts i' 1 fun s j => if strLe s last = true then some (.error (1, i')) else needP ts j [58] fun j => (run ts f .whole j).then fun x k => run ts f (.recd (parts ++ [⟨7, 0, s, ⟨#[]⟩⟩ :: x]) s) k)
          (wordP us (p + i') 1 fun s j => if strLe s last = true then some (.error (1, p + i')) else needP us j [58] fun j => (run us f .whole j).then fun x k => run us f (.recd (parts ++ [⟨7, 0, s, ⟨#[]⟩⟩ :: x]) s) k) :=
        fun i' _ => .word_ h fun s _ => .ite_ Iff.rfl (fun _ => .error_) fun _ => .need_ h fun hj => .then_ (ih _ _ hj) fun x k hx => ih _ _ (len _ _ hj _ _ hx).2.1
      exact .ite_ Iff.rfl (fun _ => go _ hi) fun _ => .need_ h fun hj => go _ hj
end Go.Proofs.YtfaadlfaimhbbaaGreatDoor

namespace Go.Proofs.YtfaadlfaimhbbaaGreatDoor
open Go.RowKit

theorem chain_end {us : List Tok} (f : Nat) (L : CL) (acc : List Node) : run us (f + 1) (.chain L acc) us.length = some (.ok (acc, us.length)) := by
  unfold run; rw [List.getElem?_eq_none (Nat.le_refl _)]
/-- An atom that is all that is left is the whole. -/
theorem atom_up {us : List Tok} {F i : Nat} {ns : List Node} (h : run us (F + 1) .atom i = some (.ok (ns, us.length))) (h1 : isAt us i [105, 102] = false) (h2 : isAt us i [33] = false) (h3 : isAt us i [45] = false) :
    run us (F + 9) .whole i = some (.ok (ns, us.length)) := by
  have no : ∀ s, isAt us us.length s = false := fun s => by unfold isAt; rw [List.getElem?_eq_none (Nat.le_refl _)]
  have e1 : run us (F + 2) .post i = some (.ok (ns, us.length)) := by
    unfold run; rw [h, PR.then_ok]; unfold run; rw [no]; rfl
  have e2 : run us (F + 3) .sign i = some (.ok (ns, us.length)) := by
    unfold run; rw [h2, h3]; simpa using e1
  have e3 : run us (F + 4) .prod i = some (.ok (ns, us.length)) := by unfold run; rw [e2, PR.then_ok]; exact chain_end _ _ _
  have e4 : run us (F + 5) .sum i = some (.ok (ns, us.length)) := by unfold run; rw [e3, PR.then_ok]; exact chain_end _ _ _
  have e5 : run us (F + 6) .rel i = some (.ok (ns, us.length)) := by unfold run; rw [e4, PR.then_ok]; simp only [no, Bool.false_eq_true, if_false]
  have e6 : run us (F + 7) .both i = some (.ok (ns, us.length)) := by unfold run; rw [e5, PR.then_ok]; exact chain_end _ _ _
  have e7 : run us (F + 8) .either i = some (.ok (ns, us.length)) := by unfold run; rw [e6, PR.then_ok]; exact chain_end _ _ _
  unfold run; rw [h1]; simpa using e7
def openT : Tok := ⟨5, ⟨#[40]⟩, 0⟩
def closeT : Tok := ⟨5, ⟨#[41]⟩, 0⟩
theorem brackets {ts : List Tok} {ns : List Node} (h : run ts (fuel ts) .whole 0 = some (.ok (ns, ts.length))) :
    run (openT :: (ts ++ [closeT])) (fuel (openT :: (ts ++ [closeT]))) .whole 0 = some (.ok (ns, (openT :: (ts ++ [closeT])).length)) := by
  have hin : In 1 ts (openT :: (ts ++ [closeT])) := by
    refine ⟨fun i hi => ?_, 0, ?_⟩
    · rw [Nat.add_comm, List.getElem?_cons_succ, List.getElem?_append_left hi]
    · rw [Nat.add_comm, List.getElem?_cons_succ, List.getElem?_append_right (Nat.le_refl _), Nat.sub_self]; rfl
  have h1 := run_inside hin (fuel ts) .whole 0 (Nat.zero_le _) ns ts.length h
  have hlen : (openT :: (ts ++ [closeT])).length = ts.length + 2 := by simp
  have hat : ∀ s, isAt (openT :: (ts ++ [closeT])) 0 s = ((⟨#[40]⟩ : ByteArray).toList == s) := fun s => by unfold isAt; simp [openT]
  have hat2 : ∀ s, isAt (openT :: (ts ++ [closeT])) 0 s = decide ([40] = s) := fun s => by
    rw [hat, ByteArray.toList_eq]
    show (([40] : List UInt8) == s) = _
    by_cases e : [40] = s
    · subst e; rfl
    · simp [e]
  have hcl : isAt (openT :: (ts ++ [closeT])) (1 + ts.length) [41] = true := by
    unfold isAt
    rw [Nat.add_comm, List.getElem?_cons_succ, List.getElem?_append_right (Nat.le_refl _), Nat.sub_self]
    show (((5 : Int) == 1 || (5 : Int) == 5) && (⟨#[41]⟩ : ByteArray).toList == [41]) = true
    rw [ByteArray.toList_eq]
    rfl
  have hk : kindAt (openT :: (ts ++ [closeT])) 0 = 5 := rfl
  have ha : run (openT :: (ts ++ [closeT])) (fuel ts + 1) .atom 0 = some (.ok (ns, (openT :: (ts ++ [closeT])).length)) := by
    unfold run
    rw [hk, hat2, hat2]
    simp only [Nat.zero_add]
    rw [if_neg (by decide), if_neg (by decide), if_neg (by decide), if_neg (by decide), if_neg (by decide), if_pos (by decide)]
    rw [Nat.add_zero] at h1
    rw [h1, PR.then_ok, needP, if_pos hcl, hlen]
    congr 3; omega
  refine run_le (atom_up ha ?_ ?_ ?_) (by simp only [fuel, hlen]; omega)
  · rw [hat2]; decide
  · rw [hat2]; decide
  · rw [hat2]; decide
end Go.Proofs.YtfaadlfaimhbbaaGreatDoor

namespace Go.Proofs.YtfaadlfaimhbbaaGreatDoor
open Go.RowKit

theorem good_open : badTok openT = false := by kernel_rfl
theorem good_close : badTok closeT = false := by kernel_rfl
theorem parseW_ok {ts : List Tok} {ns : List Node} (h : parseW ts = .ok ns) : ts.length ≤ 300 ∧ ts.findIdx? badTok = none ∧ run ts (fuel ts) .whole 0 = some (.ok (ns, ts.length)) ∧ ns.length ≤ 200 := by
  unfold parseW at h
  by_cases h3 : 300 < ts.length
  · rw [if_pos h3] at h; cases h
  rw [if_neg h3] at h
  cases hf : ts.findIdx? badTok with
  | some i => rw [hf] at h; cases h
  | none =>
    rw [hf] at h
    simp only at h
    cases hr : run ts (fuel ts) .whole 0 with
    | none => rw [hr] at h; cases h
    | some y =>
      rw [hr] at h
      cases y with
      | error e => cases h
      | ok q =>
        obtain ⟨ms, j⟩ := q
        simp only at h
        have hl := run_len ts (fuel ts) .whole 0 (Nat.zero_le _) ms j hr
        by_cases hj : j < ts.length
        · rw [if_pos hj] at h; cases h
        rw [if_neg hj] at h
        by_cases h2 : 200 < ms.length
        · rw [if_pos h2] at h; cases h
        rw [if_neg h2] at h
        injection h with h
        subst h
        have : j = ts.length := by have := hl.2.1; omega
        subst this
        exact ⟨by omega, rfl, rfl, by omega⟩
theorem parseW_of {ts : List Tok} {ns : List Node} (h1 : ts.length ≤ 300) (h2 : ts.findIdx? badTok = none) (h3 : run ts (fuel ts) .whole 0 = some (.ok (ns, ts.length))) (h4 : ns.length ≤ 200) : parseW ts = .ok ns := by
  unfold parseW
  rw [if_neg (by omega), h2, h3]
  simp only
  rw [if_neg (by omega), if_neg (by omega)]
theorem findIdx_none {α : Type} {p : α → Bool} {l : List α} : l.findIdx? p = none ↔ ∀ x ∈ l, p x = false := by simp
theorem parseW_brackets {ts : List Tok} {ns : List Node} (h : parseW ts = .ok ns) (hl : ts.length + 2 ≤ 300) : parseW (openT :: (ts ++ [closeT])) = .ok ns := by
  obtain ⟨_, h2, h3, h4⟩ := parseW_ok h
  refine parseW_of (by simp; omega) ?_ (brackets h3) h4
  rw [findIdx_none] at h2 ⊢
  intro x hx
  simp only [List.mem_cons, List.mem_append, List.not_mem_nil, or_false] at hx
  rcases hx with rfl | hx | rfl
  · exact good_open
  · exact h2 x hx
  · exact good_close
end Go.Proofs.YtfaadlfaimhbbaaGreatDoor

namespace Go.Proofs.YtfaadlfaimhbbaaGreatDoor
open Go.RowKit

theorem node_result {fn : Func} {p : Tmp} (h : fn.results = #[.cell p 31]) (tmps : Array Value) (w : World) (g : Nat) (cs : Array Value) (hp : tmps.getD p undef = .pointer (some ⟨g, 0, none⟩)) (hg : Blk w g 31 cs) (hs : cs.size = 4) :
    (results fn tmps).run Tryz.prog w = .ok (.agg cs) w :=
  results_cell_row h tmps w g _ cs (0, 0) _ hp hg Tryz.underlying31 rfl (by rw [hs]; kernel_rfl)
set_option maxRecDepth 100000 in
set_option maxHeartbeats 1000000 in
theorem num_c (n : Int) (w : World) :
    Calls Tryz.prog 13 #[.int .i64 n] w fun e w' => e = .returned (.agg #[.int .i64 2, .int .i64 n, .string ⟨#[]⟩, .string ⟨#[]⟩]) ∧ Below w.heap.size w w' := by
  go_enter Tryz.func13, Tryz.ntmps13
  go_wp2_with fail
  refine bodyPost_ret (node_result rfl _ _ w.heap.size #[.int .i64 2, .int .i64 n, .string ⟨#[]⟩, .string ⟨#[]⟩] rfl (Blk.new w _ _) rfl) rfl ?_
  exact ⟨rfl, (Below.refl _ _).alloc (Nat.le_refl _) _⟩
end Go.Proofs.YtfaadlfaimhbbaaGreatDoor

namespace Go.Proofs.YtfaadlfaimhbbaaGreatDoor
open Go.RowKit

theorem node_neq (x y : Node) (w : World) : (binOp .neq 31 (.agg #[.int .i64 x.op, .int .i64 x.n, .string x.s, .string x.t]) (.agg #[.int .i64 y.op, .int .i64 y.n, .string y.s, .string y.t])).run Tryz.prog w = .ok (.bool (!decide (x = y))) w := by
  have h : decide (x = y) = (x.op == y.op && (x.n == y.n && (x.s.toList == y.s.toList && x.t.toList == y.t.toList))) := by
    obtain ⟨a, b, c, d⟩ := x
    obtain ⟨a', b', c', d'⟩ := y
    simp only [Node.mk.injEq]
    rw [bytes_beq, bytes_beq]
    by_cases h1 : a = a' <;> by_cases h2 : b = b' <;> by_cases h3 : c = c' <;> by_cases h4 : d = d' <;> simp [h1, h2, h3, h4]
  rw [h]
  generalize hk : (x.op == y.op) = k
  generalize hn : (x.n == y.n) = n
  generalize hs : (x.s.toList == y.s.toList) = s
  generalize hp : (x.t.toList == y.t.toList) = p
  cases k <;> cases n <;> cases s <;> cases p <;> simp [go_sem, hk, hn, hs, hp]

set_option maxRecDepth 100000 in
set_option maxHeartbeats 2000000 in
theorem nodes_c (A B : Option Addr) (c d : Nat) (xs ys : List Node) (w : World) (hx : NodesAt w A xs) (hy : NodesAt w B ys) (hl : xs.length ≤ 1000000) (hl2 : ys.length ≤ 1000000) :
    Calls Tryz.prog 12 #[.slice A xs.length c, .slice B ys.length d] w fun e w' => e = .returned (.bool (decide (xs = ys))) ∧ ∃ m, w' = w.drewN m := by
  obtain ⟨n, hn⟩ : ∃ n, n = xs.length := ⟨_, rfl⟩
  obtain ⟨k, hk⟩ : ∃ k, k = ys.length := ⟨_, rfl⟩
  obtain ⟨R, hR⟩ : ∃ R, R = decide (xs = ys) := ⟨_, rfl⟩
  rw [← hn, ← hk, ← hR]
  rw [← hn] at hl
  rw [← hk] at hl2
  have HN := Lib.hid hn
  have HK := Lib.hid hk
  have HR := Lib.hid hR
  have HX := Lib.hid hx
  have HY := Lib.hid hy
  clear hn hk hR hx hy
  by_cases hne : n = k
  · subst hne
    go_enter Tryz.func12, Tryz.ntmps12
    go_wp2_with fail
    go_loopw [5] (fun iv wr => ∃ (i m : Nat), i ≤ n ∧ iv = .int .i64 i ∧ wr = w.drewN m ∧ Hid (xs.take i = ys.take i)) (fun iv _ => n - (intOf iv).toNat)
    case atStart => exact ⟨0, 0, Nat.zero_le _, rfl, rfl, Lib.hid rfl⟩
    case round =>
      obtain ⟨i, m, hi, rfl, rfl, heq⟩ := hrel
      by_cases hlt : i < n
      · obtain ⟨x, hx⟩ : ∃ x, xs[i]? = some x := ⟨_, List.getElem?_eq_getElem (by rw [← HN.out]; exact hlt)⟩
        obtain ⟨y, hy⟩ : ∃ y, ys[i]? = some y := ⟨_, List.getElem?_eq_getElem (by rw [← HK.out]; exact hlt)⟩
        obtain ⟨b, off, rfl, hb, d0, d1, d2, d3⟩ := HX.out.at_ hx
        obtain ⟨b', off', rfl, hb', e0, e1, e2, e3⟩ := HY.out.at_ hy
        have hlt' : (i : Int) < n := by omega
        have hcmp := node_neq x y
        cases hxy : decide (x = y) with
        | true =>
          have hxe : x = y := of_decide_eq_true hxy
          have heq2 : xs.take (i + 1) = ys.take (i + 1) := by rw [take_one hx, take_one hy, heq.out, hxe]
          have HEQ := Lib.hid heq2
          rw [hxy] at hcmp
          clear hx hy hxy hxe heq2
          go_wp2_with fail
          go_quiet (fail)
          revert nq
          intro n1
          go_wp2_with fail
          go_roundw
          case rel => exact ⟨i + 1, m + n1, by omega, rfl, rfl, HEQ⟩
          case measure => simp [intOf]; omega
        | false =>
          have hxe : x ≠ y := of_decide_eq_false hxy
          have hres : R = false := by
            rw [HR.out]
            refine decide_eq_false fun e => hxe ?_
            rw [e] at hx
            rw [hx] at hy
            injection hy
          subst hres
          rw [hxy] at hcmp
          clear hx hy hxy hxe
          go_wp2_with fail
          go_quiet (fail)
          revert nq
          intro n1
          go_wp2_with fail
          go_ret
          exact ⟨rfl, m + n1, World.drewN_drewN _ _ _⟩
      · obtain rfl : i = n := by omega
        have hres : R = true := by
          rw [HR.out]
          have h := heq.out
          rw [List.take_of_length_le (by rw [← HN.out]; exact Nat.le_refl _), List.take_of_length_le (by rw [← HK.out]; exact Nat.le_refl _)] at h
          exact decide_eq_true h
        subst hres
        go_wp2_with fail
        go_ret
        exact ⟨rfl, m, rfl⟩
  · have hres : R = false := by
      rw [HR.out]
      refine decide_eq_false fun e => hne ?_
      rw [HN.out, HK.out, e]
    subst hres
    have hne1 : ((n : Int) != k) = true := by simp; omega
    clear hne
    go_enter Tryz.func12, Tryz.ntmps12
    go_wp2_with fail
    go_ret
    exact ⟨rfl, 0, rfl⟩

def bareT (t : Tok) : Tok := ⟨t.kind, t.s, 0⟩
set_option maxRecDepth 100000 in
set_option maxHeartbeats 2000000 in
theorem bare_c (A : Option Addr) (c : Nat) (ts : List Tok) (w : World) (ht : ToksAt w A ts) (hl : ts.length ≤ 1000000) :
    Calls Tryz.prog 27 #[.slice A ts.length c] w fun e w' => ∃ B d, e = .returned (.slice B ts.length d) ∧ ts.length ≤ d ∧ d ≤ maxLen ∧ ToksAt w' B (ts.map bareT) ∧ NewAt w.heap.size B ∧ (∀ b off sp, B = some ⟨b, off, sp⟩ → b < w'.heap.size) ∧ Below w.heap.size w w' := by
  obtain ⟨n, hn⟩ : ∃ n, n = ts.length := ⟨_, rfl⟩
  rw [← hn] at hl ⊢
  have HN := Lib.hid hn
  have HT := Lib.hid ht
  obtain ⟨i0, hi0, hz0, hz1, hz2⟩ := info_parts tokInfo
  clear hn ht
  go_enter Tryz.func27, Tryz.ntmps27
  go_wp2_with fail
  go_loopw [3, 4] (fun lv iv wr => ∃ (k d : Nat) (L : Option Addr), k ≤ n ∧ iv = .int .i64 k ∧ lv = .slice L k d ∧ Hid (wr.ownsRow w.heap.size 34 3 (.slice L k d) k (((ts.take k).map bareT).flatMap Tok.cells)) ∧ Hid (Below w.heap.size w wr))
    (fun _ iv _ => n - (intOf iv).toNat)
  case atStart => exact ⟨0, 0, none, Nat.zero_le _, rfl, rfl, Lib.hid (World.ownsRow_nil _ _ _ _), Lib.hid (Below.refl _ _)⟩
  case round =>
    obtain ⟨k, d, L, hk, rfl, rfl, hown, hb⟩ := hrel
    by_cases hlt : k < n
    · obtain ⟨t, htk⟩ : ∃ t, ts[k]? = some t := ⟨_, List.getElem?_eq_getElem (by rw [← HN.out]; exact hlt)⟩
      obtain ⟨b, off, rfl, hbl, d0, d1, d2⟩ := (HT.out.below hb.out).at_ htk
      have hlt' : (k : Int) < n := by omega
      have HTK := Lib.hid (take_one htk)
      clear htk
      go_wp2_with (at_builtin; refine wpList_append_own _ rfl _ _ 22 rfl w.heap.size 34 i0 (.agg #[.int .i64 0, .string ⟨#[]⟩, .int .i64 0]) 3 32 Tryz.underlying22 hi0 hz0 hz1 hz2 rfl (by decide) _ _ _ rfl ((hown.out.alloc _).alloc _) ⟨_, 0, none⟩ 1 1 [.int .i64 t.kind, .string t.s, .int .i64 0] rfl rfl ?c1 ?c2 ?c3 ?c4 ?c5 ?_)
      case c1 =>
        intro j u hu
        have hB := Blk.new (wr.alloc (.cells #[.int .i64 t.kind, .string t.s, .int .i64 0] 34)) 34 #[.int .i64 t.kind, .string t.s, .int .i64 0]
        have := hB.cell j
        simp only [World.size_alloc] at this
        rw [add_plain, Nat.zero_add, this]
        simpa using hu
      case c2 => intro u hu; simp at hu; rcases hu with rfl | rfl | rfl <;> rfl
      case c3 => unfold maxLen; omega
      case c4 => omega
      case c5 => have := hb.out.size; simp; omega
      intro v' w4 hown4 hgrow4 _
      obtain ⟨L', d', hv, hd'⟩ := own_slice hown4
      subst hv
      have hb4 := below_own ((hb.out.alloc hb.out.size (.cells #[.int .i64 t.kind, .string t.s, .int .i64 0] 34)).alloc (by have := hb.out.size; simp; omega) (.cells #[.int .i64 t.kind, .string t.s, .int .i64 0] 34)) ((hown.out.alloc _).alloc _) hgrow4 (Nat.le_refl _) (by have := hb.out.size; simp; omega)
      have HB4 := Lib.hid hb4
      have hnext : w4.ownsRow w.heap.size 34 3 (.slice L' (k + 1) d') (k + 1) (((ts.take (k + 1)).map bareT).flatMap Tok.cells) := by
        rw [HTK.out, List.map_append, List.flatMap_append]
        simpa [Tok.cells, bareT] using hown4
      have HOWN := Lib.hid hnext
      clear hb4 hown4 hgrow4 hnext
      go_wp2_with fail
      go_roundw
      case rel => exact ⟨k + 1, d', L', by omega, rfl, rfl, HOWN, HB4⟩
      case measure => simp [intOf]; omega
    · obtain rfl : k = n := by omega
      have hfull : ts.take k = ts := List.take_of_length_le (by rw [← HN.out]; exact Nat.le_refl _)
      rw [hfull] at hown
      clear hfull
      go_wp2_with fail
      go_ret
      obtain ⟨L', d', hv, hd'⟩ := own_slice hown.out
      injection hv with _ _ hd
      subst hd
      have hml : d ≤ maxLen := by
        rcases hown.out.2 with ⟨h, _⟩ | ⟨g, cap, cur, h, _, _, _, hm, _⟩
        · injection h with _ _ h; rw [h]; exact Nat.zero_le _
        · injection h with _ _ h; rw [h]; exact hm
      refine ⟨L, d, rfl, hd', hml, ?_, fun b off sp e => ?_, fun b off sp e => ?_, hb.out⟩
      · have := Arr.ofOwn hown.out
        unfold ToksAt
        rw [List.length_map, ← HN.out]
        exact this
      · subst e; exact (hown.out.lt b rfl).1
      · subst e; exact (hown.out.lt b rfl).2
end Go.Proofs.YtfaadlfaimhbbaaGreatDoor

namespace Go.Proofs.YtfaadlfaimhbbaaGreatDoor
open Go.RowKit

set_option maxRecDepth 100000 in
set_option maxHeartbeats 800000 in
theorem rdigit_c (b : Int) (w : World) :
    Calls Tryz.prog 56 #[.int .u8 b] w fun e w' => e = .returned (.bool (digitI b)) ∧ w = w' := by
  go_enter Tryz.func56, Tryz.ntmps56
  go_wp2
  all_goals go_ret
  all_goals refine ⟨ret_bool ?_, rfl⟩
  all_goals first
    | (unfold digitI; simp; omega)
    | (unfold digitI; rw [Bool.eq_iff_iff]; simp; omega)
    | (unfold digitI; rw [Bool.eq_iff_iff]; simp)
set_option maxRecDepth 100000 in
set_option maxHeartbeats 800000 in
theorem rletter_c (b : Int) (w : World) :
    Calls Tryz.prog 58 #[.int .u8 b] w fun e w' => e = .returned (.bool (letterI b)) ∧ w = w' := by
  go_enter Tryz.func58, Tryz.ntmps58
  go_wp2
  all_goals go_ret
  all_goals refine ⟨ret_bool ?_, rfl⟩
  all_goals first
    | (unfold letterI; simp; omega)
    | (unfold letterI; rw [Bool.eq_iff_iff]; simp; omega)
    | (unfold letterI; rw [Bool.eq_iff_iff]; simp)

def runP (digits : Bool) (b : Int) : Bool := digitI b || (!digits && letterI b)
set_option maxRecDepth 100000 in
set_option maxHeartbeats 1600000 in
theorem rrun_c (s : ByteArray) (i : Nat) (d : Bool) (w : World) (hs : s.size ≤ 100000000) (hi : i ≤ s.size) :
    Calls Tryz.prog 57 #[.string s, .int .i64 (i : Int), .bool d] w fun e w' => e = .returned (.int .i64 ((i + runLen (runP d) s.data.toList i : Nat) : Int)) ∧ w = w' := by
  have HZ := Lib.hid (Lib.size_eq s)
  obtain ⟨R, hR⟩ : ∃ R, R = i + runLen (runP d) s.data.toList i := ⟨_, rfl⟩
  rw [← hR]
  have HR := Lib.hid hR
  clear hR
  go_enter Tryz.func57, Tryz.ntmps57
  go_wp2_with fail
  go_loop [1] (fun iv => ∃ j : Nat, j ≤ s.size ∧ iv = .int .i64 j ∧ Hid (j + runLen (runP d) s.data.toList j = R)) (fun iv => s.size - (intOf iv).toNat)
  case atStart => exact ⟨i, hi, rfl, Lib.hid HR.out.symm⟩
  case round =>
    obtain ⟨j, hj, rfl, hq⟩ := hrel
    by_cases hlt : j < s.size
    · obtain ⟨x, hx⟩ : ∃ x, s.data.toList[j]? = some x := ⟨_, List.getElem?_eq_getElem (by rw [← HZ.out]; exact hlt)⟩
      have hidx := str_index s j x hx
      have HX := Lib.hid hx
      have hlt' : (j : Int) < s.size := by omega
      clear hx
      have HD := Lib.hid (fun w => rdigit_c x.toNat w)
      have HLt := Lib.hid (fun w => rletter_c x.toNat w)
      have yes : runP d x.toNat = true → Hid (j + 1 + runLen (runP d) s.data.toList (j + 1) = R) := fun hp => Lib.hid (by have h1 := runLen_yes HX.out hp; have h2 := hq.out; omega)
      have no : runP d x.toNat = false → Hid (R = j) := fun hp => Lib.hid (by have h1 := runLen_no HX.out hp; have h2 := hq.out; omega)
      have YES := Lib.hid yes
      have NO := Lib.hid no
      clear yes no
      cases q1 : digitI x.toNat <;> cases d <;> cases q2 : letterI x.toNat <;> rw [q1] at HD <;> rw [q2] at HLt
      all_goals
        have hp := YES.out
        have hnp := NO.out
        simp only [runP, q1, q2, Bool.not_true, Bool.not_false, Bool.or_true, Bool.or_false, Bool.and_true, Bool.and_false, Bool.or_self, Bool.and_self, forall_const, Bool.false_eq_true, Bool.true_eq_false, false_implies] at hp hnp
        clear YES NO q1 q2
        go_wp2_with (first
          | (go_at_call 56; refine (HD.out _).mono ?_; rintro e w2 ⟨rfl, rfl⟩)
          | (go_at_call 58; refine (HLt.out _).mono ?_; rintro e w2 ⟨rfl, rfl⟩))
        first
          | (go_round
             case rel => exact ⟨j + 1, by omega, rfl, hp⟩
             case measure => simp [intOf]; omega)
          | (go_ret
             rw [hnp.out]
             exact ⟨rfl, rfl⟩)
    · obtain rfl : j = s.size := by omega
      have hres : R = s.size := by have h2 := hq.out; rw [runLen_end (by rw [← HZ.out]; exact Nat.le_refl _)] at h2; omega
      have HRES := Lib.hid hres
      clear hres
      go_wp2_with fail
      go_ret
      rw [HRES.out]
      exact ⟨rfl, rfl⟩
end Go.Proofs.YtfaadlfaimhbbaaGreatDoor

namespace Go.Proofs.YtfaadlfaimhbbaaGreatDoor
open Go.RowKit

def beginsL (l m : List UInt8) (i : Nat) : Bool := decide ((l.drop i).take m.length = m)
theorem begins_end {l m : List UInt8} {i : Nat} (h : l.length < i + m.length) (hi : i ≤ l.length) : beginsL l m i = false := by
  unfold beginsL
  refine decide_eq_false fun e => ?_
  have := congrArg List.length e
  simp only [List.length_take, List.length_drop] at this
  omega
set_option maxRecDepth 100000 in
set_option maxHeartbeats 1600000 in
theorem begins_c (s x : ByteArray) (i : Nat) (w : World) (hs : s.size ≤ 100000000) (hx : x.size ≤ 1000) (hi : i ≤ s.size) :
    Calls Tryz.prog 60 #[.string s, .int .i64 (i : Int), .string x] w fun e w' => e = .returned (.bool (beginsL s.data.toList x.data.toList i)) ∧ ∃ m, w' = w.drewN m := by
  have HZ := Lib.hid (Lib.size_eq s)
  have HZX := Lib.hid (Lib.size_eq x)
  obtain ⟨R, hR⟩ : ∃ R, R = beginsL s.data.toList x.data.toList i := ⟨_, rfl⟩
  rw [← hR]
  have HR := Lib.hid hR
  clear hR
  by_cases hsh : s.size < i + x.size
  · have hres : R = false := by rw [HR.out]; exact begins_end (by rw [← HZ.out, ← HZX.out]; exact hsh) (by rw [← HZ.out]; exact hi)
    subst hres
    have h1 : (s.size : Int) - i < x.size := by omega
    have hi' : (i : Int) ≤ s.size := by omega
    go_enter Tryz.func60, Tryz.ntmps60
    go_wp2_with fail
    go_ret
    exact ⟨rfl, 0, rfl⟩
  · have h1 : ¬ (s.size : Int) - i < x.size := by omega
    have hi' : (i : Int) + x.size ≤ s.size := by omega
    go_enter Tryz.func60, Tryz.ntmps60
    go_wp2_with fail
    go_loopw [7] (fun iv wr => ∃ k m : Nat, k ≤ x.size ∧ iv = .int .i64 k ∧ wr = w.drewN m ∧ Hid ((s.data.toList.drop i).take k = x.data.toList.take k)) (fun iv _ => x.size - (intOf iv).toNat)
    case atStart => exact ⟨0, 0, Nat.zero_le _, rfl, rfl, Lib.hid rfl⟩
    case round =>
      obtain ⟨k, m, hk, rfl, rfl, heq⟩ := hrel
      by_cases hlt : k < x.size
      · obtain ⟨a, ha⟩ : ∃ a, s.data.toList[i + k]? = some a := ⟨_, List.getElem?_eq_getElem (by rw [← HZ.out]; omega)⟩
        obtain ⟨b, hb⟩ : ∃ b, x.data.toList[k]? = some b := ⟨_, List.getElem?_eq_getElem (by rw [← HZX.out]; exact hlt)⟩
        have ix1 := str_index s (i + k) a ha
        have ix2 := str_index x k b hb
        rw [show ((i + k : Nat) : Int) = (i : Int) + k from by omega] at ix1
        have hd : (s.data.toList.drop i)[k]? = some a := by rw [List.getElem?_drop]; exact ha
        have hlt' : (k : Int) < x.size := by omega
        by_cases hab : a = b
        · subst hab
          have hne : ((a.toNat : Int) != a.toNat) = false := by simp
          have HEQ := Lib.hid (show (s.data.toList.drop i).take (k + 1) = x.data.toList.take (k + 1) by rw [take_one hd, take_one hb, heq.out])
          clear ha hb hd
          go_wp2_with fail
          go_quiet (fail)
          revert nq
          intro n1
          go_wp2_with fail
          go_roundw
          case rel => exact ⟨k + 1, m + n1, by omega, rfl, rfl, HEQ⟩
          case measure => simp [intOf]; omega
        · have hne : ((a.toNat : Int) != b.toNat) = true := by
            simp only [bne_iff_ne, ne_eq]
            intro e
            exact hab (UInt8.toNat_inj.1 (by omega))
          have hres : R = false := by
            rw [HR.out, beginsL]
            refine decide_eq_false fun e => hab ?_
            have h2 : ((s.data.toList.drop i).take x.data.toList.length)[k]? = some b := by rw [e]; exact hb
            rw [List.getElem?_take_of_lt (by rw [← HZX.out]; exact hlt), hd] at h2
            injection h2
          subst hres
          clear ha hb hd hab
          go_wp2_with fail
          go_quiet (fail)
          revert nq
          intro n1
          go_wp2_with fail
          go_ret
          exact ⟨rfl, m + n1, World.drewN_drewN _ _ _⟩
      · obtain rfl : k = x.size := by omega
        have hres : R = true := by
          rw [HR.out, beginsL]
          have h := heq.out
          rw [List.take_of_length_le (l := x.data.toList) (by rw [← HZX.out]; exact Nat.le_refl _)] at h
          refine decide_eq_true ?_
          rw [← HZX.out]; exact h
        subst hres
        go_wp2_with fail
        go_ret
        exact ⟨rfl, m, rfl⟩
end Go.Proofs.YtfaadlfaimhbbaaGreatDoor

namespace Go.Proofs.YtfaadlfaimhbbaaGreatDoor
open Go.RowKit

set_option maxRecDepth 100000 in
set_option maxHeartbeats 800000 in
theorem r1digit_c (b : Int) (w : World) :
    Calls Tryz.prog 55 #[.int .u8 b] w fun e w' => e = .returned (.bool (digitI b)) ∧ w = w' := by
  go_enter Tryz.func55, Tryz.ntmps55
  go_wp2
  all_goals go_ret
  all_goals refine ⟨ret_bool ?_, rfl⟩
  all_goals first
    | (unfold digitI; simp; omega)
    | (unfold digitI; rw [Bool.eq_iff_iff]; simp; omega)
    | (unfold digitI; rw [Bool.eq_iff_iff]; simp)
set_option maxRecDepth 100000 in
set_option maxHeartbeats 800000 in
theorem r1letter_c (b : Int) (w : World) :
    Calls Tryz.prog 54 #[.int .u8 b] w fun e w' => e = .returned (.bool (letterI b)) ∧ w = w' := by
  go_enter Tryz.func54, Tryz.ntmps54
  go_wp2
  all_goals go_ret
  all_goals refine ⟨ret_bool ?_, rfl⟩
  all_goals first
    | (unfold letterI; simp; omega)
    | (unfold letterI; rw [Bool.eq_iff_iff]; simp; omega)
    | (unfold letterI; rw [Bool.eq_iff_iff]; simp)

set_option maxRecDepth 100000 in
set_option maxHeartbeats 1600000 in
theorem nameFault_c (s : ByteArray) (w : World) (hs : s.size ≤ 100000000) :
    Calls Tryz.prog 33 #[.string s] w fun e w' => e = .returned (.int .i64 (nameErrB s)) ∧ w = w' := by
  have HZ := Lib.hid (Lib.size_eq s)
  obtain ⟨R, hR⟩ : ∃ R, R = nameErrB s := ⟨_, rfl⟩
  rw [← hR]
  have HR := Lib.hid hR
  clear hR
  go_enter Tryz.func33, Tryz.ntmps33
  go_wp2_with fail
  go_loop [3] (fun iv => ∃ k : Nat, k ≤ s.size ∧ iv = .int .i64 k ∧ Hid ((s.data.toList.take k).all nameByte = true) ∧ Hid (0 < k → ∃ c r, s.data.toList = c :: r ∧ letterI c.toNat = true)) (fun iv => s.size - (intOf iv).toNat)
  case atStart => exact ⟨0, Nat.zero_le _, rfl, Lib.hid rfl, Lib.hid (fun h => absurd h (by omega))⟩
  case round =>
    obtain ⟨k, hk, rfl, hall, hfst⟩ := hrel
    by_cases hlt : k < s.size
    · obtain ⟨x, hx⟩ : ∃ x, s.data.toList[k]? = some x := ⟨_, List.getElem?_eq_getElem (by rw [← HZ.out]; exact hlt)⟩
      have hidx := str_index s k x hx
      have HX := Lib.hid hx
      have hlt' : (k : Int) < s.size := by omega
      have hpos : 0 < s.size := by omega
      clear hx
      have HD := Lib.hid (fun w => r1digit_c x.toNat w)
      have HLt := Lib.hid (fun w => r1letter_c x.toNat w)
      have go : nameByte x = true → (k = 0 → letterI x.toNat = true) → Hid ((s.data.toList.take (k + 1)).all nameByte = true) ∧ Hid (0 < k + 1 → ∃ c r, s.data.toList = c :: r ∧ letterI c.toNat = true) := fun h1 h2 =>
        ⟨Lib.hid (by rw [take_one HX.out, List.all_append, hall.out]; simp [h1]), Lib.hid (fun _ => by
          by_cases h0 : k = 0
          · subst h0
            cases hl : s.data.toList with
            | nil => have := HX.out; rw [hl] at this; cases this
            | cons c r =>
              have := HX.out
              rw [hl] at this
              simp at this
              subst this
              exact ⟨c, r, rfl, h2 rfl⟩
          · exact hfst.out (by omega))⟩
      have GO := Lib.hid go
      clear go
      cases q2 : letterI x.toNat with
      | true =>
        obtain ⟨g1, g2⟩ := GO.out (by simp [nameByte, q2]) (fun _ => q2)
        rw [q2] at HLt
        clear q2 GO
        go_wp2_with (go_at_call 54; refine (HLt.out _).mono ?_; rintro e w2 ⟨rfl, rfl⟩)
        go_round
        case rel => exact ⟨k + 1, by omega, rfl, g1, g2⟩
        case measure => simp [intOf]; omega
      | false =>
        rw [q2] at HLt
        by_cases h0 : k = 0
        · have hres : R = 1 := by
            subst h0
            rw [HR.out]
            refine nameErr_first hpos ?_
            have := Lib.data_getElem? s 0 hpos
            rw [HX.out] at this
            injection this with this
            rw [← this]; exact q2
          have HRES := Lib.hid hres
          have hk0 : ((k : Int) == 0) = true := by simp [h0]
          clear q2 GO hres h0
          go_wp2_with (go_at_call 54; refine (HLt.out _).mono ?_; rintro e w2 ⟨rfl, rfl⟩)
          go_ret
          rw [HRES.out]
          exact ⟨rfl, rfl⟩
        · have hk0 : ((k : Int) == 0) = false := by simp [h0]
          cases q1 : digitI x.toNat with
          | true =>
            obtain ⟨g1, g2⟩ := GO.out (by simp [nameByte, q1]) (fun h => absurd h h0)
            rw [q1] at HD
            clear q1 q2 GO
            go_wp2_with (first
              | (go_at_call 54; refine (HLt.out _).mono ?_; rintro e w2 ⟨rfl, rfl⟩)
              | (go_at_call 55; refine (HD.out _).mono ?_; rintro e w2 ⟨rfl, rfl⟩))
            go_round
            case rel => exact ⟨k + 1, by omega, rfl, g1, g2⟩
            case measure => simp [intOf]; omega
          | false =>
            have hres : R = 1 := by rw [HR.out]; exact nameErr_bad hpos HX.out (by simp [nameByte, q1, q2])
            have HRES := Lib.hid hres
            rw [q1] at HD
            clear q1 q2 GO hres
            go_wp2_with (first
              | (go_at_call 54; refine (HLt.out _).mono ?_; rintro e w2 ⟨rfl, rfl⟩)
              | (go_at_call 55; refine (HD.out _).mono ?_; rintro e w2 ⟨rfl, rfl⟩))
            go_ret
            rw [HRES.out]
            exact ⟨rfl, rfl⟩
    · obtain rfl : k = s.size := by omega
      by_cases h0 : s.size = 0
      · have hres : R = 1 := by
          rw [HR.out]
          have : s.data.toList = [] := List.eq_nil_of_length_eq_zero (by rw [← HZ.out]; exact h0)
          unfold nameErrB nameErr; rw [this]
        have HRES := Lib.hid hres
        have hz0 : ((s.size : Int) == 0) = true := by simp [h0]
        clear hres
        go_wp2_with fail
        go_ret
        rw [HRES.out]
        exact ⟨rfl, rfl⟩
      · have hpos : 0 < s.size := by omega
        obtain ⟨cc, rr, hl, hlet⟩ := hfst.out hpos
        have hres : R = if 20 < s.size then 4 else 0 := by
          rw [HR.out]
          refine nameErr_good hpos ?_ hall.out
          have := Lib.data_getElem? s 0 hpos
          rw [hl] at this
          simp at this
          rw [← this]; exact hlet
        have HRES := Lib.hid hres
        have hz0 : ((s.size : Int) == 0) = false := by simp [h0]
        clear hres hl hlet
        by_cases h20 : 20 < s.size
        · have hg : (20 : Int) < s.size := by omega
          go_wp2_with fail
          go_ret
          rw [HRES.out, if_pos h20]
          exact ⟨rfl, rfl⟩
        · have hg : ¬ (20 : Int) < s.size := by omega
          go_wp2_with fail
          go_ret
          rw [HRES.out, if_neg h20]
          exact ⟨rfl, rfl⟩
end Go.Proofs.YtfaadlfaimhbbaaGreatDoor

namespace Go.Proofs.YtfaadlfaimhbbaaGreatDoor
open Go.RowKit

def tokZ : Value := .agg #[.int .i64 0, .string ⟨#[]⟩, .int .i64 0]
def RWordPost (w : World) (r : WRes) (e : Ending) (w' : World) : Prop :=
  match r with
  | .ok t n => e = .returned (.tuple #[t.val, .int .i64 n, .int .i64 0]) ∧ Below w.heap.size w w'
  | .bad er _ => e = .returned (.tuple #[tokZ, .int .i64 0, .int .i64 er]) ∧ Below w.heap.size w w'
theorem rword_results {fn : Func} (h : fn.results = #[.cell 4 34, .tmp 5, .tmp 6]) (tmps : Array Value) (w : World) (g : Nat) (cs : Array Value) (x y : Value)
    (p0 : tmps.getD 4 undef = .pointer (some ⟨g, 0, none⟩)) (p1 : tmps.getD 5 undef = x) (p2 : tmps.getD 6 undef = y) (hg : Blk w g 34 cs) (hs : cs.size = 3) :
    (results fn tmps).run Tryz.prog w = .ok (.tuple #[.agg cs, x, y]) w := by
  have hl := run_loadVar_row (P := Tryz.prog) w g _ 34 cs (0, 0) _ hg Tryz.underlying34 rfl (by rw [hs]; kernel_rfl)
  simp only [Array.getD_eq_getD_getElem?] at p0 p1 p2
  simp [results, h, p0, p1, p2, asAddr, hl]
/-- The token's block behind the stores. -/
theorem blk3_of {w : World} {g : Nat} {t : TypeId} {x y z : Value} (h : Blk w g t #[x, y, z]) : w.cell? ⟨g, 0, none⟩ = some x ∧ w.cell? ⟨g, 1, none⟩ = some y ∧ w.cell? ⟨g, 2, none⟩ = some z ∧ w.frozen? ⟨g, 0, none⟩ = false ∧ w.frozen? ⟨g, 1, none⟩ = false ∧ w.frozen? ⟨g, 2, none⟩ = false :=
  ⟨h.cell 0, h.cell 1, h.cell 2, h.frozen 0, h.frozen 1, h.frozen 2⟩
theorem below_three {g : Nat} {a w : World} (h : Below g a w) (x y z : Value) : Below g a (((w.setCell ⟨g, 0, none⟩ x).setCell ⟨g, 1, none⟩ y).setCell ⟨g, 2, none⟩ z) :=
  ((h.setCell (p := ⟨g, 0, none⟩) (Nat.le_refl _) x).setCell (p := ⟨g, 1, none⟩) (Nat.le_refl _) y).setCell (p := ⟨g, 2, none⟩) (Nat.le_refl _) z

theorem ext_one {s acc : ByteArray} {j : Nat} {x : UInt8} (hx : s.data.toList[j]? = some x) : acc ++ s.extract j (j + 1) = ⟨(acc.data.toList ++ [x]).toArray⟩ := by
  have hj := lt_of_some hx
  have he : (s.extract j (j + 1)).data.toList = [x] := by
    rw [ByteArray.data_extract, Array.toList_extract, List.extract_eq_take_drop, drop_at hx]
    simp
  apply ByteArray.ext
  apply Array.ext'
  rw [ByteArray.data_append, Array.toList_append, he]
theorem ext_size (acc : ByteArray) (x : UInt8) : (⟨(acc.data.toList ++ [x]).toArray⟩ : ByteArray).size = acc.size + 1 := by
  show (acc.data.toList ++ [x]).toArray.size = acc.data.size + 1
  simp
theorem u8_bne {x : UInt8} {n : Nat} (hn : n < 256) (h : x ≠ UInt8.ofNat n) : ((x.toNat : Int) != (n : Int)) = true := by
  rw [bne, u8_ne hn h]; rfl

set_option maxRecDepth 100000 in
set_option maxHeartbeats 2000000 in
theorem rquoted_c (s : ByteArray) (i : Nat) (w : World) (hs : s.size ≤ 100000000) (hi : i < s.size) :
    Calls Tryz.prog 59 #[.string s, .int .i64 (i : Int)] w (RWordPost w (quotedW s i)) := by
  have HZ := Lib.hid (Lib.size_eq s)
  go_enter Tryz.func59, Tryz.ntmps59
  go_wp2_with fail
  refine name_world ?_
  intro w1 hw1
  have hblk : Blk w1 w.heap.size 34 #[.int .i64 0, .string ⟨#[]⟩, .int .i64 0] := by rw [hw1]; exact Blk.new _ _ _
  have hb1 : Below w.heap.size w w1 := by rw [hw1]; exact (Below.refl _ _).alloc (Nat.le_refl _) _
  have HB1 := Lib.hid hb1
  have HBLK := Lib.hid hblk
  obtain ⟨c0, c1, c2, z0, z1, z2⟩ := blk3_of hblk
  clear hw1 hblk hb1
  go_loop [7, 8] (fun tv iv => ∃ (j : Nat) (acc : ByteArray), j ≤ s.size ∧ acc.size ≤ j ∧ tv = .string acc ∧ iv = .int .i64 j ∧ Hid (QInv s.data.toList i j acc.data.toList)) (fun _ iv => s.size - (intOf iv).toNat)
  case atStart => exact ⟨i + 1, ⟨#[]⟩, by omega, by simp [ByteArray.size], rfl, rfl, Lib.hid (qinv_start _ _)⟩
  case round =>
    obtain ⟨j, acc, hj, hacc, rfl, rfl, hq⟩ := hrel
    by_cases hlt : j < s.size
    · obtain ⟨x, hx⟩ : ∃ x, s.data.toList[j]? = some x := ⟨_, List.getElem?_eq_getElem (by rw [← HZ.out]; exact hlt)⟩
      have hidx := str_index s j x hx
      have HX := Lib.hid hx
      clear hx
      have hlt' : (j : Int) < s.size := by omega
      have hext : acc ++ s.extract j (j + 1) = ⟨(acc.data.toList ++ [x]).toArray⟩ := ext_one HX.out
      have HEXT := Lib.hid hext
      clear hext
      by_cases h34 : x = 34
      · have e1 : ((x.toNat : Int) != 34) = false := by rw [h34]; rfl
        have HCL := Lib.hid (qend_close hq.out (by rw [← h34]; exact HX.out))
        have hqi := hq.out.1
        clear h34
        by_cases h60 : 60 < acc.size
        · have h60' : (60 : Int) < acc.size := by omega
          go_wp2_with fail
          refine bodyPost_ret (rword_results rfl _ _ w.heap.size _ _ _ rfl rfl rfl (HBLK.out.three _ _ _) rfl) rfl ?_
          unfold quotedW
          rw [HCL.out]
          simp only [← Lib.size_eq, h60, if_true]
          exact ⟨rfl, below_three HB1.out _ _ _⟩
        · have h60' : (acc.size : Int) ≤ 60 := by omega
          go_wp2_with fail
          refine bodyPost_ret (rword_results rfl _ _ w.heap.size _ _ _ rfl rfl rfl (HBLK.out.three _ _ _) rfl) rfl ?_
          unfold quotedW
          rw [HCL.out]
          simp only [← Lib.size_eq, h60, if_false]
          refine ⟨?_, below_three HB1.out _ _ _⟩
          rw [show i + 1 + (j - i) = j + 1 by omega]
          rfl
      · have e1 : ((x.toNat : Int) != 34) = true := u8_bne (by decide) h34
        by_cases h92 : x = 92
        · have e2 : ((x.toNat : Int) == 92) = true := by rw [h92]; rfl
          have HX : Hid (s.data.toList[j]? = some 92) := by rw [← h92]; exact HX
          clear h92 h34
          by_cases hl2 : j + 1 < s.size
          · obtain ⟨y, hy⟩ : ∃ y, s.data.toList[j + 1]? = some y := ⟨_, List.getElem?_eq_getElem (by rw [← HZ.out]; exact hl2)⟩
            have hidy := str_index s (j + 1) y hy
            have hext : acc ++ s.extract (j + 1) (j + 1 + 1) = ⟨(acc.data.toList ++ [y]).toArray⟩ := ext_one hy
            have HEXT := Lib.hid hext
            have HY := Lib.hid hy
            clear hy hext
            have hl2' : (j : Int) + 1 < s.size := by omega
            simp only [Int.natCast_add, Int.cast_ofNat_Int] at hidy
            by_cases hyy : y = 34 ∨ y = 92
            · have hqi := Lib.hid (qinv_esc hq.out HX.out HY.out hyy)
              have hf : (((y.toNat : Int) != 34) = false ∨ (((y.toNat : Int) != 34) = true ∧ ((y.toNat : Int) != 92) = false)) ∧ (32 : Int) ≤ y.toNat ∧ (y.toNat : Int) ≤ 126 := by
                rcases hyy with rfl | rfl <;> decide
              clear hyy
              obtain ⟨hff, hf3, hf4⟩ := hf
              rcases hff with hf1 | ⟨hf1, hf2⟩
              all_goals
                go_wp2_with fail
                go_round
                case rel => exact ⟨j + 2, ⟨(acc.data.toList ++ [y]).toArray⟩, by omega, by rw [ext_size]; omega, by rw [HEXT.out], rfl, hqi⟩
                case measure => simp [intOf]; omega
            · have hn : y ≠ 34 ∧ y ≠ 92 := ⟨fun h => hyy (.inl h), fun h => hyy (.inr h)⟩
              have f1 : ((y.toNat : Int) != 34) = true := u8_bne (by decide) hn.1
              have f2 : ((y.toNat : Int) != 92) = true := u8_bne (by decide) hn.2
              have HCL := Lib.hid (qend_esc_bad hq.out HX.out HY.out hn.1 hn.2)
              clear hn hyy
              go_wp2_with fail
              refine bodyPost_ret (rword_results rfl _ _ w.heap.size _ _ _ rfl rfl rfl (HBLK.out.three _ _ _) rfl) rfl ?_
              unfold quotedW
              rw [HCL.out]
              exact ⟨rfl, below_three HB1.out _ _ _⟩
          · have hl2' : (s.size : Int) ≤ (j : Int) + 1 := by omega
            have HCL := Lib.hid (qend_esc_end hq.out HX.out (by rw [← HZ.out]; omega))
            go_wp2_with fail
            refine bodyPost_ret (rword_results rfl _ _ w.heap.size _ _ _ rfl rfl rfl (HBLK.out.three _ _ _) rfl) rfl ?_
            unfold quotedW
            rw [HCL.out]
            exact ⟨rfl, below_three HB1.out _ _ _⟩
        · have e2 : ((x.toNat : Int) == 92) = false := u8_ne (by decide) h92
          cases hp : plainByte x with
          | true =>
            have hqi := Lib.hid (qinv_plain hq.out HX.out h34 h92 hp)
            unfold plainByte at hp
            rw [decide_eq_true_eq] at hp
            obtain ⟨p1, p2⟩ := hp
            clear h34 h92
            go_wp2_with fail
            go_round
            case rel => exact ⟨j + 1, ⟨(acc.data.toList ++ [x]).toArray⟩, by omega, by rw [ext_size]; omega, by rw [HEXT.out], by go_num, hqi⟩
            case measure => simp [intOf]; omega
          | false =>
            have HCL := Lib.hid (qend_bad hq.out HX.out h34 h92 hp)
            unfold plainByte at hp
            rw [decide_eq_false_iff_not] at hp
            clear h34 h92
            by_cases p1 : (x.toNat : Int) < 32
            · clear hp
              go_wp2_with fail
              refine bodyPost_ret (rword_results rfl _ _ w.heap.size _ _ _ rfl rfl rfl (HBLK.out.three _ _ _) rfl) rfl ?_
              unfold quotedW
              rw [HCL.out]
              exact ⟨rfl, below_three HB1.out _ _ _⟩
            · have p2 : (126 : Int) < x.toNat := by omega
              clear hp
              go_wp2_with fail
              refine bodyPost_ret (rword_results rfl _ _ w.heap.size _ _ _ rfl rfl rfl (HBLK.out.three _ _ _) rfl) rfl ?_
              unfold quotedW
              rw [HCL.out]
              exact ⟨rfl, below_three HB1.out _ _ _⟩
    · have hge : ¬ (j : Int) < s.size := by omega
      have hge' : (s.size : Int) ≤ j := by omega
      have HCL := Lib.hid (qend_end hq.out (by rw [← HZ.out]; omega))
      go_wp2_with fail
      refine bodyPost_ret (rword_results rfl _ _ w.heap.size _ _ _ rfl rfl rfl (HBLK.out.three _ _ _) rfl) rfl ?_
      unfold quotedW
      rw [HCL.out]
      exact ⟨rfl, below_three HB1.out _ _ _⟩
end Go.Proofs.YtfaadlfaimhbbaaGreatDoor
