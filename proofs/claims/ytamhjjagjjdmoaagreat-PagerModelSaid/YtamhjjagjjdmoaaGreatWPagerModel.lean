/- For every script the law PagerModel answers true, and leaves the script as it was. -/
import Derived.Test.YtamhjjagjjdmoaaGreatC8
import Derived.Test.YtamhjjagjjdmoaaGreatRows
import Derived.Test.YtamhjjagjjdmoaaGreatFPagerModel
import Derived.Test.YtamhjjagjjdmoaaGreatC6
import Derived.ProofKit
import Derived.OpenShut
import Derived.ShutString
import Derived.ChangeOld
import Derived.Below
import Derived.Lib.SmallJoins
section
namespace Go.Proofs.YtamhjjagjjdmoaaGreat
open Go.RowKit Go.Maps Go.Shelf Go.Sort

set_option maxHeartbeats 2000000 in
set_option maxRecDepth 100000 in
theorem model_any (w : World) (mode : Int) (vL vT vP : Value) (n : Nat) (acts : Nat → Int × Int × Int) (hL : ActsW w vL n acts) (_hn : n ≤ maxLen) :
    Calls Tryz.prog 7 #[.agg #[I mode, vL, vT, vP]] w fun e w' => e = .returned (.bool true) ∧ Chg Non w w' := by
  obtain ⟨A, cap, rfl⟩ := hL.form
  obtain ⟨w0, hw0⟩ : ∃ w0, w0 = w.alloc (.cells #[I mode, .slice A n cap, vT, vP] 62) := ⟨_, rfl⟩
  have c0 : Chg Non w w0 := by rw [hw0]; exact (Chg.refl _ w).alloc _
  have b0 : Blk w0 w.heap.size 62 #[I mode, .slice A n cap, vT, vP] := by rw [hw0]; exact Blk.new w _ _
  have ARG : Hid (∀ u, Chg Non w0 u → u.cell? ⟨w.heap.size, 0, none⟩ = some (I mode) ∧ u.cell? ⟨w.heap.size, 1, none⟩ = some (.slice A n cap) ∧ ActsW u (.slice A n cap) n acts) := fun u cu =>
    ⟨(b0.chg cu id).cell 0, (b0.chg cu id).cell 1, (hL.chg c0).chg cu⟩
  have C0 := Lib.hid c0
  have DN := Lib.hid (dnew_nil w0)
  rw [hw0] at DN
  clear hL c0 b0
  go_enter Tryz.func7, Tryz.ntmps7
  go_wp2_with fail
  refine DN.out.mono ?_
  rw [← hw0]
  rintro e w1 ⟨rfl, d1, c1⟩
  have S1 : Hid (∀ md : Int, (md = 1 ∨ md = 2) → _) := fun md hmd => sopen w1 _ emptyM _ d1 md hmd [] [] empty_store _ fun b hb => hb
  have X1 := Lib.hid (ux_new d1 c1)
  clear d1 c1 DN hw0
  rw [empty_done] at S1
  generalize w0.heap.size + 2 = bd at *
  generalize (emptyG w0.heap.size).F = U1 at *
  obtain ⟨p0, p1, _⟩ := ARG.out w1 X1.out.chg
  go_wp2_with (first | (go_at_call 18; refine (num_any _ _).mono ?_; rintro e w' ⟨rfl, hw'⟩; have hw2 := hw'.symm; subst hw2) | (go_at_call 20; refine (mode12_any _ _).mono ?_; rintro e w' ⟨rfl, hw'⟩; have hw2 := hw'.symm; subst hw2))
  refine (S1.out _ (wi_mode _)).mono ?_
  rintro e w2 ⟨bp, rfl, cc, ss⟩
  have X2 := X1.out.step cc
  have hmd0 := wi_mode mode
  generalize ((wi mode 2 : Nat) + 1 : Int) = md at *
  have G3 := game_start w2 bp bd _ _ md ss (by simp [logSz, blocksOn]) X2.hi
  have cA : Chg Non w2 (w2.alloc (.cells #[.slice none 0 0, .bool false, .slice none 0 0, .slice none 0 0, .slice none 0 0] 73)) := (Chg.refl _ _).alloc _
  have X3 : Ux w0 (w2.alloc (.cells #[.slice none 0 0, .bool false, .slice none 0 0, .slice none 0 0, .slice none 0 0] 73)) (fun g => newK U1 w1 w2 g ∨ g = w2.heap.size) :=
    ⟨fun g hg => hg.elim (X2.lo g) fun e => by have := X2.chg.size; omega, fun g hg => by
      have h1 : (w2.alloc (.cells #[.slice none 0 0, .bool false, .slice none 0 0, .slice none 0 0, .slice none 0 0] 73)).heap.size = w2.heap.size + 1 := Array.size_push _
      rcases hg with e | e
      · have := X2.hi g e; omega
      · omega, X2.chg.tr cA⟩
  have GX := Lib.hid (And.intro G3 X3)
  have A2 := ARG.out w2 X2.chg
  have p1 := A2.2.1
  have hmd := Lib.hid hmd0
  clear hmd0 ss cc X2 G3 X3 cA S1 X1 A2
  go_wp2_with fail
  generalize w2.heap.size = bm at *
  go_loopw [5, 6, 8] (fun v5 v6 v8 wr => ∃ (k : Nat) (bp : Nat) (md : Int) (m : MoM) (D : List Bts) (U : Nat → Prop), k ≤ 40 ∧ v8 = I k ∧ v5 = I md ∧ v6 = ptr bp ∧ Game wr bp bd bm U m D md k ∧ Ux w0 wr U) (fun _ _ v8 _ => 40 - (intOf v8).toNat)
  case atStart => exact ⟨0, bp, md, _, _, _, by omega, rfl, rfl, rfl, GX.out⟩
  case round =>
    obtain ⟨k, bp, md, m, D, U, hk, rfl, rfl, rfl, h1, h2⟩ := hrel
    have HR := Lib.hid (And.intro h1 h2)
    clear h1 h2 p1 GX
    obtain ⟨_, p1, pA⟩ := ARG.out wr HR.out.2.chg
    have END : Hid (Calls Tryz.prog 32 #[] wr fun e w' => e = .returned (.bool true) ∧ Hid (Chg Non w w')) := (wakes_any wr).mono fun e w' h => ⟨h.1, (C0.out.tr HR.out.2.chg).tr h.2⟩
    by_cases hkn : k < n
    · have i1 : (k : Int) < (n : Int) := by omega
      by_cases hk40 : k < 40
      · have i2 : (k : Int) < 40 := by omega
        obtain ⟨g, o, rfl, p2, p3, p4⟩ := pA.at k hkn
        obtain ⟨⟨aa, nn, bb⟩, ea⟩ : ∃ t, acts k = t := ⟨_, rfl⟩
        rw [ea] at p2 p3 p4
        have EA := Lib.hid ea
        simp only at p2 p3 p4
        clear pA ea
        by_cases hd9 : wi aa 11 = 9
        · have WI : Hid (Calls Tryz.prog 21 #[I aa, I 11] wr fun e w' => e = .returned (I 9) ∧ w' = wr) := by
            have := within_any wr aa 11 (by decide) (by decide)
            rw [hd9] at this; exact this
          have mc1 := HR.out.1.cell
          have ho : m.opn = true ∨ m.opn = false := by cases m.opn <;> simp
          rcases ho with ho | ho
          · rw [ho] at mc1
            have RB := Lib.hid (game_roll HR.out.1 ho)
            clear ho
            go_wp2_with (first | (go_at_call 18; refine (num_any _ _).mono ?_; rintro e w' ⟨rfl, hw'⟩; have hw2 := hw'.symm; subst hw2) | (go_at_call 21; refine WI.out.mono ?_; rintro e w' ⟨rfl, hw'⟩; have hw2 := hw'.symm; subst hw2))
            refine RB.out.mono ?_
            rintro e w3 ⟨rfl, q1, q2, F3⟩
            obtain ⟨w4, hw4⟩ : ∃ w4, w4 = w3.setCell ⟨bm, 1, none⟩ (.bool false) := ⟨_, rfl⟩
            rw [← hw4] at F3
            have X4 := Lib.hid (HR.out.2.step F3.out.2.1)
            have eU : newK U wr w3 = newK U wr w4 := by unfold newK; rw [F3.out.2.2]
            have G4 := F3.out.1
            rw [eU] at G4
            have GO : Hid (∀ md' : Int, (md' = 1 ∨ md' = 2) → _) := fun md' h' => game_open G4 rfl md' h'
            clear G4 eU mc1 p1 p2 p3 p4
            obtain ⟨_, p1, pA⟩ := ARG.out w4 X4.out.chg
            obtain ⟨g', o', eA, _, p3, _⟩ := pA.at k hkn
            injection eA with eA; injection eA with eA1 eA2
            subst eA1; subst eA2
            rw [EA.out] at p3
            simp only at p3
            clear pA
            rw [hw4] at p1 p3 GO
            go_wp2_with (first | (go_at_call 18; refine (num_any _ _).mono ?_; rintro e w' ⟨rfl, hw'⟩; have hw2 := hw'.symm; subst hw2) | (go_at_call 20; refine (mode12_any _ _).mono ?_; rintro e w' ⟨rfl, hw'⟩; have hw2 := hw'.symm; subst hw2))
            refine (GO.out _ (wi_mode _)).mono ?_
            rintro e w5 ⟨bp', rfl, cc, hg, CN⟩
            have F5 := Lib.hid (And.intro hg.next (X4.out.step (by rw [hw4]; exact cc)))
            rw [hw4] at F5
            have CN := Lib.hid CN
            clear cc hg
            go_wp2_with (first | (go_at_call 28; refine CN.out.mono ?_; rintro e w' ⟨rfl, hw'⟩; have hw2 := hw'.symm; subst hw2))
            exact ⟨⟨k + 1, bp', _, _, _, _, by omega, by go_num, rfl, rfl, F5.out⟩, by simp [intOf]; omega⟩
          · rw [ho] at mc1
            have GO : Hid (∀ md' : Int, (md' = 1 ∨ md' = 2) → _) := fun md' h' => game_open HR.out.1 ho md' h'
            clear ho
            go_wp2_with (first | (go_at_call 18; refine (num_any _ _).mono ?_; rintro e w' ⟨rfl, hw'⟩; have hw2 := hw'.symm; subst hw2) | (go_at_call 21; refine WI.out.mono ?_; rintro e w' ⟨rfl, hw'⟩; have hw2 := hw'.symm; subst hw2) | (go_at_call 20; refine (mode12_any _ _).mono ?_; rintro e w' ⟨rfl, hw'⟩; have hw2 := hw'.symm; subst hw2))
            refine (GO.out _ (wi_mode _)).mono ?_
            rintro e w5 ⟨bp', rfl, cc, hg, CN⟩
            have F5 := Lib.hid (And.intro hg.next (HR.out.2.step cc))
            have CN := Lib.hid CN
            clear cc hg
            go_wp2_with (first | (go_at_call 28; refine CN.out.mono ?_; rintro e w' ⟨rfl, hw'⟩; have hw2 := hw'.symm; subst hw2))
            exact ⟨⟨k + 1, bp', _, _, _, _, by omega, by go_num, rfl, rfl, F5.out⟩, by simp [intOf]; omega⟩
        · have WI : Hid (Calls Tryz.prog 21 #[I aa, I 11] wr fun e w' => e = .returned (I (wi aa 11)) ∧ w' = wr) := within_any wr aa 11 (by decide) (by decide)
          have AC := Lib.hid (act_any wr bp bd bm U m D md k HR.out.1 (by omega) aa nn bb)
          have h9 : ((wi aa 11 : Int) == 9) = false := by simp; omega
          generalize wi aa 11 = k9 at *
          clear hd9
          go_wp2_with (first | (go_at_call 21; refine WI.out.mono ?_; rintro e w' ⟨rfl, hw'⟩; have hw2 := hw'.symm; subst hw2))
          refine AC.out.mono ?_
          rintro e w5 ⟨rfl, cc, m', D', hg⟩
          have F5 := Lib.hid (And.intro hg (HR.out.2.step cc))
          clear cc hg
          go_wp2_with fail
          exact ⟨⟨k + 1, bp, md, m', D', _, by omega, by go_num, rfl, rfl, F5.out⟩, by simp [intOf]; omega⟩
      · have i2 : ¬ (k : Int) < 40 := by omega
        go_wp2_with (first | (go_at_call 32; refine END.out.mono ?_; rintro e w9 ⟨rfl, F9⟩))
        go_ret
        exact ⟨rfl, F9.out⟩
    · have i1 : ¬ (k : Int) < (n : Int) := by omega
      go_wp2_with (first | (go_at_call 32; refine END.out.mono ?_; rintro e w9 ⟨rfl, F9⟩))
      go_ret
      exact ⟨rfl, F9.out⟩
end Go.Proofs.YtamhjjagjjdmoaaGreat
end

section
namespace Go.Proofs.YtamhjjagjjdmoaaGreat
open Go.ChangeShapes Go.WideShapes Go.ChangeAt Go.RowKit Go.Joins
namespace DonePagerModel
theorem own : ownKnob Tryz.prog.godebug = none := by kernel_rfl
theorem laidOut : laidOutB Tryz.prog = true := by kernel_rfl
theorem cells : Tryz.prog.cellsOf 62 = 4 := by kernel_rfl

set_option maxRecDepth 100000 in
theorem lifted (os : Os) (started : os.Started) (H : Type) (enc : TypeId × Value → H) :
    ReturnsInHanded {} Tryz.checked os 7 .any (Rows.pagerModelSpec.pre6 enc Tryz.prog Tryz.f7 Rows.pagerModelRow.domain false) (Rows.pagerModelSpec.post enc Tryz.prog Tryz.f7 false true false false) := by
  refine returnsInHanded_of_change (C := Tryz.checked) own started (by kernel_rfl) Tryz.func7
    (ChangeSpec.witness6 (enc := enc) (C := Tryz.checked) false ⟨#[], #[.agg #[.int .i64 0, .slice none 0 0, .slice none 0 0, .slice none 0 0]], []⟩ 8 (by kernel_rfl) (by kernel_rfl) (by kernel_rfl) (by kernel_rfl)) ?_
  intro W base args ds gs before hval0 hW hcnd _
  have hval : ∀ (j : Nat) t v, Tryz.f7.params[j]? = some t → args[j]? = some v → Value.okWide Tryz.prog W .any base t v := hval0
  have hW' := hW
  obtain ⟨p, q, hA0, hV, rfl, hfz, hnd⟩ := hW
  have hA : DataW.TrodAll enc Tryz.prog W 0 (fun _ => true) true Tryz.f7.params.toList args.toList ds p := hA0
  rw [Tryz.params7] at hA hval
  obtain ⟨v0, vs0, d0, ds0, p0, q0, hargs, rfl, rfl, h0, r0⟩ := trodAll_cons hA
  obtain ⟨rfl, rfl, rfl⟩ := trodAll_nil r0
  obtain rfl : args = #[v0] := by cases args; simp_all
  obtain ⟨rfl, rfl⟩ := trodVars_none hV
  have k0 := h0
  have lt0 : ∀ x ∈ p0, x.block < W.heap.size := by obtain ⟨m, hm⟩ := k0; exact DataW.trod_lt m _ _ _ hm
  obtain ⟨c0, c1, c2, c3, y0, y1, y2, y3, m, rfl, hd, hp, g0, g1, g2, g3⟩ := open_agg4 Tryz.underlying62 (by kernel_rfl) cells (hval 0 62 v0 rfl rfl) h0
  obtain ⟨mode, e0, _, _⟩ := DataW.trod_int Tryz.underlying3 g0
  injection e0 with e0
  subst e0
  obtain ⟨n, acts, hacts, hn⟩ := acts_open g1
  clear hA0 hval0 hd hp
  refine (model_any W mode c1 c2 c3 n acts hacts hn).mono fun e W' ⟨he, bel0⟩ => ?_
  subst he
  have bel : Below W.heap.size W W' := bel0.below (fun _ h => h.elim) (Nat.le_refl _)
  exact ⟨_, rfl, _, _, _, [], _, [], hW', trodAll_mk1 (shut_bool Tryz.underlying4 _), (trodAll_cons_mk (Below.trod laidOut (by kernel_rfl) (of_decide_eq_true (by kernel_rfl)) k0 bel lt0) trodAll_mk0), rfl, bel.frame _, fun h => by cases h⟩

theorem over : Rows.pagerModelRow.holds Tryz.pinned (OpenSpec.ofChange Rows.pagerModelSpec) :=
  OpenClaim.holds_of_wide 7 Tryz.f7 rfl rfl rfl rfl rfl rfl rfl ⟨rfl, rfl, rfl, rfl, rfl⟩ rfl rfl rfl rfl rfl (by as_aux_lemma => kernel_rfl) Tryz.func7 facts
    (of_decide_eq_true (by as_aux_lemma => kernel_rfl)) (by unfold Func.isWrapper; first | (rw [if_pos (by decide +kernel)]; kernel_rfl) | (rw [if_neg (by decide +kernel)]; exact ⟨rfl, rfl⟩))
    (fun os started H enc _ => lifted os started H enc)
end DonePagerModel
theorem pagerModel_holds : Rows.PagerModelSaid := DonePagerModel.over
#print axioms pagerModel_holds
end Go.Proofs.YtamhjjagjjdmoaaGreat
end
