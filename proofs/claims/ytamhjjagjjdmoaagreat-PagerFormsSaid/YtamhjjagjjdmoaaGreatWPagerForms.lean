/- For every script the law PagerForms answers true, and leaves the script as it was. -/
import Derived.Test.YtamhjjagjjdmoaaGreatC6
import Derived.Deep.CutBlock
import Derived.Deep.DeepCutAuto
import Derived.Test.YtamhjjagjjdmoaaGreatRows
import Derived.Test.YtamhjjagjjdmoaaGreatFPagerForms
import Derived.ProofKit
import Derived.OpenShut
import Derived.ShutString
import Derived.ChangeOld
import Derived.Below
import Derived.Lib.SmallJoins
section
namespace Go.Proofs.YtamhjjagjjdmoaaGreat
open Go.RowKit Go.Maps Go.Shelf Go.Sort

set_option maxHeartbeats 2000000 in
set_option maxRecDepth 100000 in
theorem forms_any (w : World) (mode : Int) (vL vT vP : Value) (n : Nat) (acts : Nat → Int × Int × Int) (hL : ActsW w vL n acts) (_hn : n ≤ maxLen) :
    Calls Tryz.prog 4 #[.agg #[I mode, vL, vT, vP]] w fun e w' => e = .returned (.bool true) ∧ Chg Non w w' := by
  obtain ⟨A, cap, rfl⟩ := hL.form
  obtain ⟨w0, hw0⟩ : ∃ w0, w0 = w.alloc (.cells #[I mode, .slice A n cap, vT, vP] 62) := ⟨_, rfl⟩
  have c0 : Chg Non w w0 := by rw [hw0]; exact (Chg.refl _ w).alloc _
  have b0 : Blk w0 w.heap.size 62 #[I mode, .slice A n cap, vT, vP] := by rw [hw0]; exact Blk.new w _ _
  have ARG : Hid (∀ u, Chg Non w0 u → u.cell? ⟨w.heap.size, 0, none⟩ = some (I mode) ∧ u.cell? ⟨w.heap.size, 1, none⟩ = some (.slice A n cap) ∧ ActsW u (.slice A n cap) n acts) := fun u cu =>
    ⟨(b0.chg cu id).cell 0, (b0.chg cu id).cell 1, (hL.chg c0).chg cu⟩
  have C0 := Lib.hid c0
  have DN := Lib.hid (dnew_nil w0)
  rw [hw0] at DN
  clear hL c0 b0
  go_enter Tryz.func4, Tryz.ntmps4
  go_wp2_with fail
  refine DN.out.mono ?_
  rw [← hw0]
  rintro e w1 ⟨rfl, d1, c1⟩
  have S1 := Lib.hid (And.intro (SDisk.new d1) (ux_new d1 c1))
  clear d1 c1 DN hw0
  generalize w0.heap.size + 2 = bd at *
  generalize (emptyG w0.heap.size).F = U1 at *
  go_wp2_with fail
  refine (locksNew_any w1).mono ?_
  rintro e w2 ⟨rfl, l2, c2⟩
  have S2 : Hid (SDisk w2 bd U1 [] 0 ∧ Ux w0 w2 U1 ∧ Blk w2 w1.heap.size 135 (lvls fun _ => 0) ∧ ¬ U1 w1.heap.size) :=
    ⟨S1.out.1.chg c2 fun _ _ => id, S1.out.2.still c2, l2, fun e => by have := S1.out.2.hi _ e; omega⟩
  clear l2 c2 S1
  generalize w1.heap.size = bl at *
  go_wp2_with (first | (go_at_call 18; refine (num_any _ _).mono ?_; rintro e w' ⟨rfl, hw'⟩; have hw2 := hw'.symm; subst hw2))
  refine (popen_nild w2 2 (ptr bl) 0).mono ?_
  rintro e w' ⟨rfl, hw'⟩; have hw3 := hw'.symm; subst hw3; clear hw'
  go_wp2_with fail
  refine (popen_nill w2 bd 2 0).mono ?_
  rintro e w' ⟨rfl, hw'⟩; have hw3 := hw'.symm; subst hw3; clear hw'
  have A2 := ARG.out w2 S2.out.2.1.chg
  have q1 := A2.2.1
  clear A2
  go_upto_block 0 with (first | (go_at_call 18; refine (num_any _ _).mono ?_; rintro e w' ⟨rfl, hw'⟩; have hw2 := hw'.symm; subst hw2))
  go_cut [10] (fun _ wr => ∃ U : Nat → Prop, SDisk wr bd U [] 0 ∧ Ux w0 wr U)
  case first =>
    go_wp2_with fail
    go_loopw [10] (fun i wr => ∃ (k : Nat) (U : Nat → Prop), k ≤ 5 ∧ i = I k ∧ SDisk wr bd U [] 0 ∧ Ux w0 wr U ∧ Blk wr bl 135 (lvls fun _ => 0) ∧ ¬ U bl) (fun i _ => 5 - (intOf i).toNat)
    case atStart => exact ⟨0, U1, by omega, rfl, S2.out⟩
    case round =>
      obtain ⟨k, U, hk, rfl, h1, h2, h3, h4⟩ := hrel
      have HR := Lib.hid (And.intro h1 (And.intro h2 (And.intro h3 h4)))
      have XX := Lib.hid h2
      clear h1 h2 h3 h4 q1
      obtain ⟨p0, p1, pA⟩ := ARG.out wr XX.out.chg
      by_cases hkn : k < n
      · have i1 : (k : Int) < (n : Int) := by omega
        by_cases hk5 : k < 5
        · have i2 : (k : Int) < 5 := by omega
          obtain ⟨g, o, rfl, _, p2, p3⟩ := pA.at k hkn
          obtain ⟨⟨aa, nn, bb⟩, ea⟩ : ∃ t, acts k = t := ⟨_, rfl⟩
          rw [ea] at p2 p3
          have EA := Lib.hid ea
          simp only at p2 p3
          clear pA ea
          by_cases hb1 : bb = 1
          · subst hb1
            by_cases hc : 0 ≤ nn ∧ nn < 4
            · have hc1 := hc.1
              have hc2 := hc.2
              clear hc
              obtain ⟨c, rfl⟩ : ∃ c : Nat, nn = (c : Int) := ⟨nn.toNat, by omega⟩
              have PO := Lib.hid (popen_ok wr bd bl U [] 0 HR.out.1 _ HR.out.2.2.1 lvOk_zero HR.out.2.2.2 1 (by decide) c (by omega))
              go_wp2_with fail
              refine PO.out.mono ?_
              rintro e w5 ⟨bp, rfl, k1, k2⟩
              have XX := Lib.hid (HR.out.2.1.step k1)
              have N5 : Hid (SDisk w5 bd (newK U wr w5) [] 0 ∧ Ux w0 w5 (newK U wr w5) ∧ Blk w5 bl 135 (lvls fun _ => 0) ∧ ¬ newK U wr w5 bl) :=
                ⟨k2, XX.out, HR.out.2.2.1.chg k1 HR.out.2.2.2, fun e => e.elim HR.out.2.2.2 fun e => by have := HR.out.2.2.1.lt; omega⟩
              clear k1 k2 p0 p1 p2 p3
              obtain ⟨_, p1, pA⟩ := ARG.out w5 XX.out.chg
              obtain ⟨g', o', eA, _, p2, p3⟩ := pA.at k hkn
              injection eA with eA; injection eA with eA1 eA2
              subst eA1; subst eA2
              rw [EA.out] at p2 p3
              clear pA
              go_wp2_with (first | (go_at_call 18; refine (num_any _ _).mono ?_; rintro e w' ⟨rfl, hw'⟩; have hw2 := hw'.symm; subst hw2))
              exact ⟨⟨k + 1, _, by omega, by go_num, N5.out⟩, by simp [intOf]; omega⟩
            · by_cases hc0 : 0 ≤ nn
              · have hc4 : 4 ≤ nn := by omega
                clear hc
                go_wp2_with fail
                refine (popen_conn wr bd bl 1 (by decide) nn (.inr hc4)).mono ?_
                rintro e w' ⟨rfl, hw'⟩; have hw3 := hw'.symm; subst hw3; clear hw'
                go_wp2_with (first | (go_at_call 18; refine (num_any _ _).mono ?_; rintro e w' ⟨rfl, hw'⟩; have hw2 := hw'.symm; subst hw2))
                exact ⟨⟨k + 1, U, by omega, by go_num, HR.out⟩, by simp [intOf]; omega⟩
              · have hc4 : nn < 0 := by omega
                clear hc hc0
                go_wp2_with fail
                refine (popen_conn wr bd bl 1 (by decide) nn (.inl hc4)).mono ?_
                rintro e w' ⟨rfl, hw'⟩; have hw3 := hw'.symm; subst hw3; clear hw'
                go_wp2_with (first | (go_at_call 18; refine (num_any _ _).mono ?_; rintro e w' ⟨rfl, hw'⟩; have hw2 := hw'.symm; subst hw2))
                exact ⟨⟨k + 1, U, by omega, by go_num, HR.out⟩, by simp [intOf]; omega⟩
          · by_cases hb2 : bb = 2
            · subst hb2
              clear hb1
              by_cases hc : 0 ≤ nn ∧ nn < 4
              · have hc1 := hc.1
                have hc2 := hc.2
                clear hc
                obtain ⟨c, rfl⟩ : ∃ c : Nat, nn = (c : Int) := ⟨nn.toNat, by omega⟩
                have PO := Lib.hid (popen_ok wr bd bl U [] 0 HR.out.1 _ HR.out.2.2.1 lvOk_zero HR.out.2.2.2 2 (by decide) c (by omega))
                go_wp2_with fail
                refine PO.out.mono ?_
                rintro e w5 ⟨bp, rfl, k1, k2⟩
                have XX := Lib.hid (HR.out.2.1.step k1)
                have N5 : Hid (SDisk w5 bd (newK U wr w5) [] 0 ∧ Ux w0 w5 (newK U wr w5) ∧ Blk w5 bl 135 (lvls fun _ => 0) ∧ ¬ newK U wr w5 bl) :=
                  ⟨k2, XX.out, HR.out.2.2.1.chg k1 HR.out.2.2.2, fun e => e.elim HR.out.2.2.2 fun e => by have := HR.out.2.2.1.lt; omega⟩
                clear k1 k2 p0 p1 p2 p3
                obtain ⟨_, p1, pA⟩ := ARG.out w5 XX.out.chg
                obtain ⟨g', o', eA, _, p2, p3⟩ := pA.at k hkn
                injection eA with eA; injection eA with eA1 eA2
                subst eA1; subst eA2
                rw [EA.out] at p2 p3
                clear pA
                go_wp2_with (first | (go_at_call 18; refine (num_any _ _).mono ?_; rintro e w' ⟨rfl, hw'⟩; have hw2 := hw'.symm; subst hw2))
                exact ⟨⟨k + 1, _, by omega, by go_num, N5.out⟩, by simp [intOf]; omega⟩
              · by_cases hc0 : 0 ≤ nn
                · have hc4 : 4 ≤ nn := by omega
                  clear hc
                  go_wp2_with fail
                  refine (popen_conn wr bd bl 2 (by decide) nn (.inr hc4)).mono ?_
                  rintro e w' ⟨rfl, hw'⟩; have hw3 := hw'.symm; subst hw3; clear hw'
                  go_wp2_with (first | (go_at_call 18; refine (num_any _ _).mono ?_; rintro e w' ⟨rfl, hw'⟩; have hw2 := hw'.symm; subst hw2))
                  exact ⟨⟨k + 1, U, by omega, by go_num, HR.out⟩, by simp [intOf]; omega⟩
                · have hc4 : nn < 0 := by omega
                  clear hc hc0
                  go_wp2_with fail
                  refine (popen_conn wr bd bl 2 (by decide) nn (.inl hc4)).mono ?_
                  rintro e w' ⟨rfl, hw'⟩; have hw3 := hw'.symm; subst hw3; clear hw'
                  go_wp2_with (first | (go_at_call 18; refine (num_any _ _).mono ?_; rintro e w' ⟨rfl, hw'⟩; have hw2 := hw'.symm; subst hw2))
                  exact ⟨⟨k + 1, U, by omega, by go_num, HR.out⟩, by simp [intOf]; omega⟩
            · have e3 : (bb == 1) = false := by simpa using hb1
              have e4 : (bb == 2) = false := by simpa using hb2
              have B1 := Lib.hid hb1
              have B2 := Lib.hid hb2
              clear hb1 hb2
              go_wp2_with fail
              refine (popen_mode wr bd bl bb nn B1.out B2.out).mono ?_
              rintro e w' ⟨rfl, hw'⟩; have hw3 := hw'.symm; subst hw3; clear hw'
              go_wp2_with (first | (go_at_call 18; refine (num_any _ _).mono ?_; rintro e w' ⟨rfl, hw'⟩; have hw2 := hw'.symm; subst hw2))
              exact ⟨⟨k + 1, U, by omega, by go_num, HR.out⟩, by simp [intOf]; omega⟩
        · have i2 : ¬ (k : Int) < 5 := by omega
          go_wp2_with fail
          go_meet
          exact ⟨U, HR.out.1, HR.out.2.1⟩
      · have i1 : ¬ (k : Int) < (n : Int) := by omega
        go_wp2_with fail
        go_meet
        exact ⟨U, HR.out.1, HR.out.2.1⟩
  case rest =>
    obtain ⟨U, h1, h2⟩ := hcut
    have HR := Lib.hid (And.intro h1 h2)
    clear h1 h2 q1
    obtain ⟨p0, p1, pA⟩ := ARG.out wc HR.out.2.chg
    clear pA
    have OP := Lib.hid (dopen wc bd U [] 0 HR.out.1 ((wi mode 2 : Nat) + 1 : Int) (by have := wi_lt mode 2 (by decide); omega))
    go_wp2_with (go_at_call 20; refine (mode12_any _ _).mono ?_; rintro e w' ⟨rfl, hw'⟩; have hw2 := hw'.symm; subst hw2)
    refine OP.out.mono ?_
    rintro e w3 ⟨bp, rfl, c3, s3⟩
    have B3 := Lib.hid (sbegin w3 bp _ _ _ _ _ _ s3)
    have X3 := Lib.hid (HR.out.2.step c3)
    clear s3 c3
    go_wp2_with fail
    refine B3.out.mono ?_
    rintro e w4 ⟨rfl, c4, s4⟩
    have X4 := Lib.hid (X3.out.step c4)
    have S4 := Lib.hid s4
    clear s4 c4 p0 p1
    obtain ⟨_, p1, _⟩ := ARG.out w4 X4.out.chg
    go_upto_block 2 with (first | (go_at_call 18; refine (num_any _ _).mono ?_; rintro e w' ⟨rfl, hw'⟩; have hw2 := hw'.symm; subst hw2))
    go_cut [16] (fun _ wr => Chg Non w0 wr)
    case first =>
      go_wp2_with fail
      go_loopw [16] (fun i wr2 => ∃ (k2 : Nat) (U2 : Nat → Prop), k2 ≤ 40 ∧ i = I k2 ∧ STx wr2 bp bd U2 [] [] 0 false [] 0 ((wi mode 2 : Nat) + 1 : Int) 0 ∧ Ux w0 wr2 U2) (fun i _ => 40 - (intOf i).toNat)
      case atStart => exact ⟨0, _, by omega, rfl, S4.out, X4.out⟩
      case round =>
        obtain ⟨k2, U2, hk2, rfl, h1, h2⟩ := hrel
        have H2 := Lib.hid (And.intro h1 h2)
        clear h1 h2 p1
        obtain ⟨_, p1, pA⟩ := ARG.out wr H2.out.2.chg
        by_cases hkn2 : k2 < n
        · have i1 : (k2 : Int) < (n : Int) := by omega
          by_cases hk52 : k2 < 40
          · have i2 : (k2 : Int) < 40 := by omega
            obtain ⟨g, o, rfl, _, p2, _⟩ := pA.at k2 hkn2
            obtain ⟨⟨aa, nn, bb⟩, ea⟩ : ∃ t, acts k2 = t := ⟨_, rfl⟩
            rw [ea] at p2
            simp only at p2
            clear pA ea
            by_cases hn0 : 0 ≤ nn
            · by_cases hn4 : nn < 4096
              go_wp2_with fail
              refine (sread_bad wr bp bd U2 _ _ _ _ _ _ _ _ H2.out.1 _ (by omega)).mono ?_
              rintro e w' ⟨rfl, hw'⟩; have hw3 := hw'.symm; subst hw3; clear hw'
              go_wp2_with (first | (go_at_call 18; refine (num_any _ _).mono ?_; rintro e w' ⟨rfl, hw'⟩; have hw2 := hw'.symm; subst hw2))
              refine (page12_any wr 1).mono ?_
              rintro e w6 ⟨v6, rfl, rfl, _, c6⟩
              have H6 := Lib.hid (And.intro (H2.out.1.chg c6 fun _ _ => id) (H2.out.2.still c6))
              clear c6
              go_wp2_with fail
              refine (swrite_bad w6 bp bd U2 _ _ _ _ _ _ _ _ H6.out.1 _ _ _ _ (.inl (by omega))).mono ?_
              rintro e w' ⟨rfl, hw'⟩; have hw3 := hw'.symm; subst hw3; clear hw'
              go_wp2_with (first | (go_at_call 18; refine (num_any _ _).mono ?_; rintro e w' ⟨rfl, hw'⟩; have hw2 := hw'.symm; subst hw2))
              refine (page12_any w6 1).mono ?_
              rintro e w7 ⟨v7, rfl, rfl, _, c7⟩
              have H7 := Lib.hid (And.intro (H6.out.1.chg c7 fun _ _ => id) (H6.out.2.still c7))
              clear c7
              go_wp2_with fail
              refine (swrite_bad w7 bp bd U2 _ _ _ _ _ _ _ _ H7.out.1 _ _ _ _ (.inr (by decide))).mono ?_
              rintro e w' ⟨rfl, hw'⟩; have hw3 := hw'.symm; subst hw3; clear hw'
              go_wp2_with (first | (go_at_call 18; refine (num_any _ _).mono ?_; rintro e w' ⟨rfl, hw'⟩; have hw2 := hw'.symm; subst hw2))
              refine (sback_none w7 bp bd U2 _ _ _ _ _ _ _ H7.out.1 _).mono ?_
              rintro e w8 ⟨rfl, c8⟩
              have H8 := Lib.hid (And.intro (H7.out.1.chg c8 fun _ _ => id) (H7.out.2.still c8))
              clear c8
              go_wp2_with (first | (go_at_call 18; refine (num_any _ _).mono ?_; rintro e w' ⟨rfl, hw'⟩; have hw2 := hw'.symm; subst hw2))
              refine (scount_tx w8 bp bd U2 _ _ _ _ _ _ _ _ H8.out.1).mono ?_
              rintro e w' ⟨rfl, hw'⟩; have hw3 := hw'.symm; subst hw3; clear hw'
              go_wp2_with fail
              exact ⟨⟨k2 + 1, U2, by omega, by go_num, H8.out⟩, by simp [intOf]; omega⟩
              · have hn5 : 4096 ≤ nn := by omega
                go_wp2_with fail
                refine (sread_bad wr bp bd U2 _ _ _ _ _ _ _ _ H2.out.1 _ (by omega)).mono ?_
                rintro e w' ⟨rfl, hw'⟩; have hw3 := hw'.symm; subst hw3; clear hw'
                go_wp2_with (first | (go_at_call 18; refine (num_any _ _).mono ?_; rintro e w' ⟨rfl, hw'⟩; have hw2 := hw'.symm; subst hw2))
                refine (page12_any wr 1).mono ?_
                rintro e w6 ⟨v6, rfl, rfl, _, c6⟩
                have H6 := Lib.hid (And.intro (H2.out.1.chg c6 fun _ _ => id) (H2.out.2.still c6))
                clear c6
                go_wp2_with fail
                refine (swrite_bad w6 bp bd U2 _ _ _ _ _ _ _ _ H6.out.1 _ _ _ _ (.inl (by omega))).mono ?_
                rintro e w' ⟨rfl, hw'⟩; have hw3 := hw'.symm; subst hw3; clear hw'
                go_wp2_with (first | (go_at_call 18; refine (num_any _ _).mono ?_; rintro e w' ⟨rfl, hw'⟩; have hw2 := hw'.symm; subst hw2))
                refine (page12_any w6 1).mono ?_
                rintro e w7 ⟨v7, rfl, rfl, _, c7⟩
                have H7 := Lib.hid (And.intro (H6.out.1.chg c7 fun _ _ => id) (H6.out.2.still c7))
                clear c7
                go_wp2_with fail
                refine (swrite_bad w7 bp bd U2 _ _ _ _ _ _ _ _ H7.out.1 _ _ _ _ (.inr (by decide))).mono ?_
                rintro e w' ⟨rfl, hw'⟩; have hw3 := hw'.symm; subst hw3; clear hw'
                go_wp2_with (first | (go_at_call 18; refine (num_any _ _).mono ?_; rintro e w' ⟨rfl, hw'⟩; have hw2 := hw'.symm; subst hw2))
                refine (sback_none w7 bp bd U2 _ _ _ _ _ _ _ H7.out.1 _).mono ?_
                rintro e w8 ⟨rfl, c8⟩
                have H8 := Lib.hid (And.intro (H7.out.1.chg c8 fun _ _ => id) (H7.out.2.still c8))
                clear c8
                go_wp2_with (first | (go_at_call 18; refine (num_any _ _).mono ?_; rintro e w' ⟨rfl, hw'⟩; have hw2 := hw'.symm; subst hw2))
                refine (scount_tx w8 bp bd U2 _ _ _ _ _ _ _ _ H8.out.1).mono ?_
                rintro e w' ⟨rfl, hw'⟩; have hw3 := hw'.symm; subst hw3; clear hw'
                go_wp2_with fail
                exact ⟨⟨k2 + 1, U2, by omega, by go_num, H8.out⟩, by simp [intOf]; omega⟩
            · have hn5 : nn < 0 := by omega
              go_wp2_with fail
              refine (sread_bad wr bp bd U2 _ _ _ _ _ _ _ _ H2.out.1 _ (by omega)).mono ?_
              rintro e w' ⟨rfl, hw'⟩; have hw3 := hw'.symm; subst hw3; clear hw'
              go_wp2_with (first | (go_at_call 18; refine (num_any _ _).mono ?_; rintro e w' ⟨rfl, hw'⟩; have hw2 := hw'.symm; subst hw2))
              refine (page12_any wr 1).mono ?_
              rintro e w6 ⟨v6, rfl, rfl, _, c6⟩
              have H6 := Lib.hid (And.intro (H2.out.1.chg c6 fun _ _ => id) (H2.out.2.still c6))
              clear c6
              go_wp2_with fail
              refine (swrite_bad w6 bp bd U2 _ _ _ _ _ _ _ _ H6.out.1 _ _ _ _ (.inl (by omega))).mono ?_
              rintro e w' ⟨rfl, hw'⟩; have hw3 := hw'.symm; subst hw3; clear hw'
              go_wp2_with (first | (go_at_call 18; refine (num_any _ _).mono ?_; rintro e w' ⟨rfl, hw'⟩; have hw2 := hw'.symm; subst hw2))
              refine (page12_any w6 1).mono ?_
              rintro e w7 ⟨v7, rfl, rfl, _, c7⟩
              have H7 := Lib.hid (And.intro (H6.out.1.chg c7 fun _ _ => id) (H6.out.2.still c7))
              clear c7
              go_wp2_with fail
              refine (swrite_bad w7 bp bd U2 _ _ _ _ _ _ _ _ H7.out.1 _ _ _ _ (.inr (by decide))).mono ?_
              rintro e w' ⟨rfl, hw'⟩; have hw3 := hw'.symm; subst hw3; clear hw'
              go_wp2_with (first | (go_at_call 18; refine (num_any _ _).mono ?_; rintro e w' ⟨rfl, hw'⟩; have hw2 := hw'.symm; subst hw2))
              refine (sback_none w7 bp bd U2 _ _ _ _ _ _ _ H7.out.1 _).mono ?_
              rintro e w8 ⟨rfl, c8⟩
              have H8 := Lib.hid (And.intro (H7.out.1.chg c8 fun _ _ => id) (H7.out.2.still c8))
              clear c8
              go_wp2_with (first | (go_at_call 18; refine (num_any _ _).mono ?_; rintro e w' ⟨rfl, hw'⟩; have hw2 := hw'.symm; subst hw2))
              refine (scount_tx w8 bp bd U2 _ _ _ _ _ _ _ _ H8.out.1).mono ?_
              rintro e w' ⟨rfl, hw'⟩; have hw3 := hw'.symm; subst hw3; clear hw'
              go_wp2_with fail
              exact ⟨⟨k2 + 1, U2, by omega, by go_num, H8.out⟩, by simp [intOf]; omega⟩
          · have i2 : ¬ (k2 : Int) < 40 := by omega
            go_wp2_with fail
            go_meet
            exact H2.out.2.chg
        · have i1 : ¬ (k2 : Int) < (n : Int) := by omega
          go_wp2_with fail
          go_meet
          exact H2.out.2.chg
    case rest =>
      have HC := Lib.hid hcut
      clear hcut
      go_wp2_with (go_at_call 32; refine (wakes_any _).mono ?_; rintro e w9 ⟨rfl, c9⟩; have C9 := Lib.hid c9; clear c9)
      go_ret
      exact ⟨rfl, C0.out.tr (HC.out.tr C9.out)⟩
end Go.Proofs.YtamhjjagjjdmoaaGreat
end

section
namespace Go.Proofs.YtamhjjagjjdmoaaGreat
open Go.ChangeShapes Go.WideShapes Go.ChangeAt Go.RowKit Go.Joins
namespace DonePagerForms
theorem own : ownKnob Tryz.prog.godebug = none := by kernel_rfl
theorem laidOut : laidOutB Tryz.prog = true := by kernel_rfl
theorem cells : Tryz.prog.cellsOf 62 = 4 := by kernel_rfl

set_option maxRecDepth 100000 in
theorem lifted (os : Os) (started : os.Started) (H : Type) (enc : TypeId × Value → H) :
    ReturnsInHanded {} Tryz.checked os 4 .any (Rows.pagerFormsSpec.pre6 enc Tryz.prog Tryz.f4 Rows.pagerFormsRow.domain false) (Rows.pagerFormsSpec.post enc Tryz.prog Tryz.f4 false true false false) := by
  refine returnsInHanded_of_change (C := Tryz.checked) own started (by kernel_rfl) Tryz.func4
    (ChangeSpec.witness6 (enc := enc) (C := Tryz.checked) false ⟨#[], #[.agg #[.int .i64 0, .slice none 0 0, .slice none 0 0, .slice none 0 0]], []⟩ 8 (by kernel_rfl) (by kernel_rfl) (by kernel_rfl) (by kernel_rfl)) ?_
  intro W base args ds gs before hval0 hW hcnd _
  have hval : ∀ (j : Nat) t v, Tryz.f4.params[j]? = some t → args[j]? = some v → Value.okWide Tryz.prog W .any base t v := hval0
  have hW' := hW
  obtain ⟨p, q, hA0, hV, rfl, hfz, hnd⟩ := hW
  have hA : DataW.TrodAll enc Tryz.prog W 0 (fun _ => true) true Tryz.f4.params.toList args.toList ds p := hA0
  rw [Tryz.params4] at hA hval
  obtain ⟨v0, vs0, d0, ds0, p0, q0, hargs, rfl, rfl, h0, r0⟩ := trodAll_cons hA
  obtain ⟨rfl, rfl, rfl⟩ := trodAll_nil r0
  obtain rfl : args = #[v0] := by cases args; simp_all
  obtain ⟨rfl, rfl⟩ := trodVars_none hV
  have k0 := h0
  have lt0 : ∀ x ∈ p0, x.block < W.heap.size := by obtain ⟨m, hm⟩ := k0; exact DataW.trod_lt m _ _ _ hm
  obtain ⟨c0, c1, c2, c3, y0, y1, y2, y3, m, rfl, hd, hp, g0, g1, g2, g3⟩ := open_agg4 Tryz.underlying62 (by kernel_rfl) cells (hval 0 62 v0 rfl rfl) h0
  obtain ⟨mode, e0, _, _⟩ := DataW.trod_int Tryz.underlying3 g0
  injection e0 with e0
  subst e0
  obtain ⟨n, acts, hacts, hn⟩ := acts_open g1
  clear hA0 hval0 hd hp
  refine (forms_any W mode c1 c2 c3 n acts hacts hn).mono fun e W' ⟨he, bel0⟩ => ?_
  subst he
  have bel : Below W.heap.size W W' := bel0.below (fun _ h => h.elim) (Nat.le_refl _)
  exact ⟨_, rfl, _, _, _, [], _, [], hW', trodAll_mk1 (shut_bool Tryz.underlying4 _), (trodAll_cons_mk (Below.trod laidOut (by kernel_rfl) (of_decide_eq_true (by kernel_rfl)) k0 bel lt0) trodAll_mk0), rfl, bel.frame _, fun h => by cases h⟩

theorem over : Rows.pagerFormsRow.holds Tryz.pinned (OpenSpec.ofChange Rows.pagerFormsSpec) :=
  OpenClaim.holds_of_wide 4 Tryz.f4 rfl rfl rfl rfl rfl rfl rfl ⟨rfl, rfl, rfl, rfl, rfl⟩ rfl rfl rfl rfl rfl (by as_aux_lemma => kernel_rfl) Tryz.func4 facts
    (of_decide_eq_true (by as_aux_lemma => kernel_rfl)) (by unfold Func.isWrapper; first | (rw [if_pos (by decide +kernel)]; kernel_rfl) | (rw [if_neg (by decide +kernel)]; exact ⟨rfl, rfl⟩))
    (fun os started H enc _ => lifted os started H enc)
end DonePagerForms
theorem pagerForms_holds : Rows.PagerFormsSaid := DonePagerForms.over
#print axioms pagerForms_holds
end Go.Proofs.YtamhjjagjjdmoaaGreat
end
