/- the pager's helpers: the log, begin, page -/
import Derived.Test.YtamhjjagjjdmoaaGreatC3
import Derived.Deep.OwnRows
section
namespace Go.Proofs.YtamhjjagjjdmoaaGreat
open Go.RowKit Go.Maps Go.Shelf Go.Sort

theorem came_start (l : PgL) : came l (fun k => (pfind l k).isSome) = [] := by
  rw [came, List.filter_eq_nil_iff]
  intro p hp
  have : (pfind l p.1).isSome = true := by
    rw [pfind, Option.isSome_map, List.find?_isSome]
    exact ⟨p, hp, beq_self_eq_true _⟩
  simp [this]
theorem came_end (l : PgL) (left : Int → Bool) (h : ∀ k, left k = false) : came l left = l := by
  rw [came, List.filter_eq_self]; intro p _; simp [h]
theorem pfind_mem {l : PgL} {k : Int} {x : Bts} (h : pfind l k = some x) : (k, x) ∈ l := by
  unfold pfind at h
  cases hf : l.find? (fun p => p.1 == k) with
  | none => rw [hf] at h; cases h
  | some p =>
    rw [hf] at h
    have h1 := List.mem_of_find?_eq_some hf
    have h2 := List.find?_some hf
    simp only [Option.map_some, Option.some.injEq] at h
    rw [beq_iff_eq] at h2
    rw [← h, ← h2]; exact h1
theorem PgW.near {w : World} {F : Nat → Prop} {b : Nat} {l : PgL} (h : PgW w F b l) : PgW w (fun g => F g ∧ g < w.heap.size) b l := by
  obtain ⟨m, h1, h2⟩ := h
  exact ⟨m, h1, All2.imp' h2 fun p q hpq => ⟨hpq.1, hpq.2.1, fun g hg => ⟨hpq.2.2 g hg, (hpq.2.2 g hg).2⟩⟩⟩

/-- ahead of the log's pages: what stands at the world behind 'blocks' (and behind making the log safe) -/
structure CommT (w w3 : World) (bp bd bl : Nat) (G G3 : DG) (R : Nat → Nat) (M' : DiskM) (P' : PagerM) (bm : Nat) (L : LogL) (v : Value) (b : Bts) (s2 : Nat) : Prop where
  d : DiskAt w3 bd M' G3
  p : PagerW w3 bp bd bl P' R
  c : Chg (fun b => G.F b ∨ b = bp) w w3
  g : ∀ b, G3.F b → G.F b ∨ w.heap.size ≤ b
  r : ∀ b, R b ≠ 0 → b < w.heap.size
  o : OwnB w3 v b
  f : ∀ g, v.ownBlock = some g → w.heap.size ≤ g ∧ ¬ G3.F g ∧ g < s2
  m : PgW w3 (fun g => s2 ≤ g) bm (overlay L)
  bm : w.heap.size ≤ bm ∧ ¬ G3.F bm
theorem CommT.append {w w3 w4 : World} {bp bd bl : Nat} {G G3 : DG} {R : Nat → Nat} {M' : DiskM} {P' : PagerM} {bm : Nat} {L : LogL} {v : Value} {b : Bts} {s2 : Nat} (h : CommT w w3 bp bd bl G G3 R M' P' bm L v b s2) (_hs2 : s2 ≤ w3.heap.size)
    {v' : Value} {b' : Bts} {v0 : Value} (_ho : OwnB w4 v' b') (hv0 : v0.ownBlock = v.ownBlock) (hg : w3.grownBy w4 v0.ownBlock) (hl : v'.ownBlock = v0.ownBlock ∨ v'.ownBlock = some w3.heap.size) :
    DiskAt w4 bd M' G3 ∧ PagerW w4 bp bd bl P' R ∧ Chg (fun b => G.F b ∨ b = bp) w w4 ∧ (∀ g, v'.ownBlock = some g → w.heap.size ≤ g ∧ ¬ G3.F g ∧ R g = 0 ∧ ¬ (s2 ≤ g ∧ g < w3.heap.size)) ∧ PgW w4 (fun g => s2 ≤ g ∧ g < w3.heap.size) bm (overlay L) := by
  have cv : Chg (fun g => v.ownBlock = some g) w3 w4 := Chg.grown (S := fun g => v.ownBlock = some g) (Chg.refl _ w3) hg fun g hg => .inl (by rw [← hv0]; exact hg)
  have hR0 : ∀ g, w.heap.size ≤ g → R g = 0 := fun g hg => by
    by_cases e : R g = 0
    · exact e
    · have := h.r g e; omega
  obtain ⟨_, _, _, _, hp⟩ := h.p
  refine ⟨h.d.chg cv fun b hb e => (h.f b e).2.1 hb, ⟨_, _, _, _, hp.chg cv fun b hb e => hb (hR0 b (h.f b e).1)⟩, h.c.trans cv fun b hb => .inr (h.f b hb).1, fun g hg => ?_, (h.m.near).chg cv (fun e => ?_) fun g hg e => ?_⟩
  · rcases hl with e | e
    · rw [e, hv0] at hg
      have := h.f g hg
      exact ⟨this.1, this.2.1, hR0 g this.1, fun hh => by omega⟩
    · rw [e] at hg
      obtain rfl := Option.some.inj hg
      have := h.c.size
      exact ⟨this, fun e => by have := h.d.olt _ e; omega, hR0 _ this, fun hh => by omega⟩
  · rcases h.o with ⟨e', _⟩ | ⟨g, cap, cur, e', hb, _⟩
    · rw [e'] at e; simp [Value.ownBlock] at e
    · rw [e'] at e; simp [Value.ownBlock] at e
      exact h.m.ne_blk hb e
  · have := (h.f g e).2.2; omega

theorem szS (w : World) (a : Addr) (v : Value) : (w.setCell a v).heap.size = w.heap.size := by simp [World.setCell]
theorem CommT.sync {w wB w5 : World} {bp bd bl : Nat} {G G3 : DG} {R : Nat → Nat} {M Y : DiskM} {P : PagerM} {bm : Nat} {L : LogL} {v : Value} {b : Bts} {s2 : Nat} (h : CommT w wB bp bd bl G G R M P bm L v b s2) (hs2 : s2 ≤ wB.heap.size) (hw2 : w.heap.size ≤ s2) (hG : ∀ b, G.F b → b < w.heap.size) (hR : ∀ b, R b ≠ 0 → ¬ G.F b)
    (k1 : DiskAt w5 bd Y G3) (k2 : Chg G.F wB w5) (k3 : ∀ b, G3.F b → G.F b ∨ wB.heap.size ≤ b) (E : Int) :
    w5.cell? ⟨bp, 12, none⟩ = some (I P.sure) ∧ w5.frozen? ⟨bp, 12, none⟩ = false ∧ CommT w (w5.setCell ⟨bp, 12, none⟩ (I E)) bp bd bl G G3 R Y { P with sure := E } bm L v b s2 ∧ s2 ≤ (w5.setCell ⟨bp, 12, none⟩ (I E)).heap.size := by
  obtain ⟨vwas, vown, vmarks, mb, hp⟩ := h.p
  have hp5 := hp.chg k2 hR
  have r1 : R bp ≠ 0 := by rw [hp.r1]; decide
  have hbw := h.r bp r1
  have cS : Chg (fun b => b = bp) w5 (w5.setCell ⟨bp, 12, none⟩ (I E)) := Chg.setCell (S := fun b => b = bp) (p := ⟨bp, 12, none⟩) (Chg.refl _ w5) (.inl rfl) _
  have hbG3 : ¬ G3.F bp := fun e => by
    rcases k3 bp e with e | e
    · exact hR bp r1 e
    · have := h.c.size; omega
  have hbm := h.m.lt
  have e5 : (w5.setCell ⟨bp, 12, none⟩ (I E)).heap.size = w5.heap.size := by simp [World.setCell]
  refine ⟨hp5.blk.cell 12, hp5.blk.frozen 12, ⟨k1.chg cS fun b hb e => hbG3 (by rw [← e]; exact hb), ⟨_, _, _, _, hp5.sure_ E⟩, (h.c.trans k2 fun b hb => .inl (.inl hb)).trans cS fun b hb => .inl (.inr hb), fun b hb => ?_, h.r, ?_, fun g hg => ⟨(h.f g hg).1, fun e => ?_, (h.f g hg).2.2⟩, ?_, h.bm.1, fun e => ?_⟩, by rw [e5]; exact Nat.le_trans hs2 k2.size⟩
  · rcases k3 b hb with e | e
    · exact .inl e
    · exact .inr (Nat.le_trans h.c.size e)
  · exact (h.o.chg k2 fun g hg => (h.f g hg).2.1).chg cS fun g hg e => by have := (h.f g hg).1; omega
  · rcases k3 g e with e | e
    · exact (h.f g hg).2.1 e
    · have := (h.f g hg).2.2; omega
  · refine (h.m.chg k2 h.bm.2 fun g hg e => ?_).chg cS (fun e => ?_) fun g hg e => ?_
    · have := hG g e; omega
    · have := h.bm.1; omega
    · omega
  · rcases k3 bm e with e | e
    · exact h.bm.2 e
    · omega

set_option maxHeartbeats 2000000 in
set_option maxRecDepth 100000 in
/-- with a log that is known to be safe -/
theorem committed_sure (w : World) (bp bd bl : Nat) (M : DiskM) (G : DG) (P : PagerM) (R : Nat → Nat) (h : DiskAt w bd M G) (hp : PagerW w bp bd bl P R) (hR : ∀ b, R b ≠ 0 → ¬ G.F b) (ho : M.off = false) (hj : journalN ∉ M.names) (L : LogL) (hL : LogIs M L) (hok : LogOk L) (hL0 : L ≠ [])
    (b : Bts) (hb : BaseIs M b) (hb5 : b.length % 512 = 0) (hb2 : b.length ≤ 2097152) (hm : P.mode = 2) (hs : P.sure = (blocksOn L).length) :
    Calls Tryz.prog 69 #[ptr bp] w (CPost w bp bd bl G R 0 (commB b L) M P) := by
  obtain ⟨vwas, vown, vmarks, mb, hp⟩ := hp
  have pd := hp.pd hR
  have d0 : w.cell? ⟨bp, 0, none⟩ = some (ptr bd) := hp.blk.cell 0
  have d1 : w.cell? ⟨bp, 1, none⟩ = some (I 2) := by rw [← hm]; exact hp.blk.cell 1
  have U := Lib.hid (undo_no w bp bd M G h pd ho hj)
  have A := Lib.hid (all_base w bp bd M G h pd ho b hb)
  obtain ⟨c, hc, hc4⟩ : ∃ c : Nat, lastCount L = (c : Int) ∧ c ≤ 4096 := by
    obtain ⟨L', q, rfl⟩ : ∃ L' q, L = L' ++ [q] := ⟨L.dropLast, L.getLast hL0, (List.dropLast_concat_getLast hL0).symm⟩
    exact ⟨q.1, lastCount_snoc _ _, (hok q (by simp)).1⟩
  obtain ⟨E, hE⟩ : ∃ E, E = (blocksOn L).length := ⟨_, rfl⟩
  have hE0 : 0 < E := by
    obtain ⟨q, r, rfl⟩ := List.exists_cons_of_ne_nil hL0
    rw [hE]; simp [blocksOn, blockOn]
  have BK : Hid (∀ w1 A1 n c1, OwnB w1 (.slice A1 n c1) b → Below w.heap.size w w1 → (∀ g, (Value.slice A1 n c1).ownBlock = some g → w.heap.size ≤ g) → Calls Tryz.prog 117 #[ptr bp] w1 fun e w' => ∃ bm, e = .returned (.tuple #[.map (some bm), I c, I E, I E, I 0]) ∧ CommT w w' bp bd bl G G R M P bm L (.slice A1 n c1) b w1.heap.size ∧ w1.heap.size ≤ w'.heap.size ∧ w'.cell? ⟨bp, 12, none⟩ = some (I E)) := by
    intro w1 A1 n c1 h1 h2 h3
    refine (blocks_any w1 bp bd M G (h.chg (Chg.of_below (S := Non) h2) fun _ _ => id) (pd.chg (Chg.of_below (S := Non) h2) id fun b hb => .inl hb) ho L hL hok).mono ?_
    rintro e w' ⟨bm, rfl, k1, k2, k3⟩
    have c2 : Chg Non w w' := (Chg.of_below h2).tr k2
    have hp2 := hp.chg c2 fun _ _ => id
    refine ⟨bm, by rw [hc, hE], ⟨h.chg c2 fun _ _ => id, ⟨_, _, _, _, hp2⟩, c2.mono fun _ hf => hf.elim, fun b hb => .inl hb, hp.lt, h1.chg k2 fun _ _ => id, fun g hg => ⟨h3 g hg, fun e => by have := h.olt _ e; have := h3 g hg; omega, ?_⟩, k1, ⟨Nat.le_trans h2.size k3, fun e => by have := h.olt _ e; have := h2.size; omega⟩⟩, k2.size, ?_⟩
    · rcases h1 with ⟨e', _⟩ | ⟨g', cap, cur, e', hb, _⟩
      · rw [e'] at hg; simp [Value.ownBlock] at hg
      · rw [e'] at hg; simp [Value.ownBlock] at hg; subst hg; exact hb.lt
    · have := hp2.blk.cell 12
      rw [this, hs, hE]; rfl
  have OV : Hid (PgOk (overlay L) ∨ True) := .inr trivial
  have H := Lib.hid (And.intro hok (And.intro hL0 (And.intro hc hE)))
  clear h hp hR ho hj hL hb pd hm hok hL0 hc hE hs
  generalize hn : b.length = n at *
  have b1 : ((n : Int) % 512 != 0) = false := by simp; omega
  have b2 : decide ((2097152 : Int) < (n : Int)) = false := by simp; omega
  have b3 : decide ((0 : Int) < (E : Int)) = true := by simp; omega
  have HN := Lib.hid hn
  clear hn hb5
  obtain ⟨m, hm⟩ : ∃ m : Nat, m = min n (c * 512) := ⟨_, rfl⟩
  obtain ⟨z, hz⟩ : ∃ z : Nat, z = c * 512 - n := ⟨_, rfl⟩
  have hmin : min (n : Int) ((c : Int) * 512) = (m : Int) := by omega
  have hmax : max (0 : Int) ((c : Int) * 512 - (n : Int)) = (z : Int) := by omega
  have hmn : m ≤ n := by omega
  have AP : Hid (∀ w3 A1 c1 G3 M' P' bm s2, s2 ≤ w3.heap.size → CommT w w3 bp bd bl G G3 R M' P' bm L (.slice A1 n c1) b s2 → ∃ A6 c6 w4, (Builtin.append_ #[48, 3] 48 #[.slice A1 m c1, I z]).run Tryz.prog w3 = .ok (.slice A6 (c * 512) c6) w4 ∧
      OwnB w4 (.slice A6 (c * 512) c6) (resize b (c * 512)) ∧ DiskAt w4 bd M' G3 ∧ PagerW w4 bp bd bl P' R ∧ Chg (fun b => G.F b ∨ b = bp) w w4 ∧ (∀ g, (Value.slice A6 (c * 512) c6).ownBlock = some g → w.heap.size ≤ g ∧ ¬ G3.F g ∧ R g = 0 ∧ ¬ (s2 ≤ g ∧ g < w3.heap.size)) ∧ PgW w4 (fun g => s2 ≤ g ∧ g < w3.heap.size) bm (overlay L)) := by
    intro w3 A1 c1 G3 M' P' bm s2 hs2 hT
    have ho := hT.o.take m hmn
    have hbt : (b.take m) = b.take (c * 512) := by
      rw [hm, ← List.take_take, ← HN.out]; exact List.take_of_length_le (by rw [List.length_take]; omega)
    obtain ⟨v', w4, hr, h1, h2, h3⟩ := append_zeros w3 48 _ _ ho z (by rw [List.length_take, HN.out]; omega)
    have e : b.take m ++ List.replicate z 0 = resize b (c * 512) := by rw [hbt, hz, ← HN.out]; rfl
    rw [e] at h1
    obtain ⟨A6, c6, rfl, _⟩ := h1.form
    rw [length_resize] at hr h1 h3
    obtain ⟨k1, k2, k3, k4, k5⟩ := hT.append hs2 h1 (v0 := .slice A1 m c1) (by cases A1 <;> rfl) h2 h3
    exact ⟨A6, c6, w4, hr, h1, k1, k2, k3, k4, k5⟩
  clear hm hz
  go_enter Tryz.func69, Tryz.ntmps69
  go_wp2_with (first | (go_at_call 87; refine U.out.mono ?_; rintro e w' ⟨rfl, hw'⟩; have hw2 := hw'.symm; subst hw2) | (go_at_call 116; refine A.out.mono ?_; rintro e w1 ⟨v, t, rfl, h1, h2, h3⟩; obtain ⟨A1, c1, rfl, hc1⟩ := h1.form; have hmc : (m : Int) ≤ (c1 : Int) := (by have := HN.out; omega); have BK1 := Lib.hid (BK.out w1 _ _ _ h1 h2 h3); rw [HN.out] at BK1 ⊢; clear h1 h2 h3) | (go_at_call 117; refine BK1.out.mono ?_; rintro e w3 ⟨bm, rfl, h1, h2, q12⟩; obtain ⟨A6, c6, w4, hr4, h4⟩ := AP.out _ _ _ _ _ _ _ _ h2 h1; have RUN := Lib.hid hr4; have T4 := Lib.hid h4; clear h1 h2 hr4 h4) | (at_builtin; refine Lib.wpList_append_run _ rfl (.tmp 90) (.tmp 96) _ _ rfl _ _ rfl rfl _ _ RUN.out ?_) | (at_range; refine wpList_pgRange rfl _ rfl rfl T4.out.2.2.2.2.2 ?_; intro w5 hr5 hc5 _; have R5 := Lib.hid (And.intro hr5 hc5); clear hr5 hc5) | go_in)
  go_frame
  obtain ⟨tD, tP, tC, tF, tM⟩ := T4.out.2
  have OK : Hid (PgOk (overlay L) ∧ (overlay L).Pairwise (fun p q => p.1 < q.1)) := ⟨overlay_ok H.out.1 tM.pair, tM.pair⟩
  have ho5 : OwnB w5 (.slice A6 (c * 512) c6) (copies c (resize b (c * 512)) (came (overlay L) fun k => ((pfind (overlay L) k).isSome))) := by
    rw [came_start]; exact T4.out.1.chg R5.out.2 fun _ _ => id
  have TT := Lib.hid (And.intro tD (And.intro tP (And.intro tC (And.intro tF tM))))
  clear tD tP tC tF tM
  go_loopw [100] (fun _ wr => ∃ left cnt, PgR wr (fun g => w1.heap.size ≤ g ∧ g < w3.heap.size) bm w4.heap.size (overlay L) left cnt ∧ OwnB wr (.slice A6 (c * 512) c6) (copies c (resize b (c * 512)) (came (overlay L) left)) ∧ Chg (fun g => (Value.slice A6 (c * 512) c6).ownBlock = some g ∨ g = w4.heap.size) w4 wr) (fun _ wr => wr.rangeLeft bm w4.heap.size)
  case atStart => exact ⟨_, _, R5.out.1, ho5, R5.out.2.mono fun _ hf => hf.elim⟩
  case round =>
    obtain ⟨left, cnt, hr, ho, hch⟩ := hrel
    have HR := Lib.hid (And.intro hr (And.intro ho hch))
    clear hr ho hch ho5
    go_wp2_with (first | (at_next; refine wpList_pgNext rfl _ rfl rfl HR.out.1 ?_ ?_) | go_in)
    · intro hall
      have HA := Lib.hid hall
      clear hall
      go_wp2_with fail
      go_ret2
      obtain ⟨tD, ⟨_, _, _, _, tP⟩, tC, tF, tM⟩ := TT.out
      obtain ⟨hr, ho, hch⟩ := HR.out
      have e : copies c (resize b (c * 512)) (came (overlay L) left) = commB b L := by
        rw [came_end _ _ HA.out, commB, H.out.2.2.1, if_pos (by omega)]; rfl
      have w4n : w.heap.size ≤ w4.heap.size := tC.size
      refine ⟨G, _, rfl, by rw [← e]; exact ho, fun g hg => ⟨(tF g hg).1, (tF g hg).2.1⟩, tD.chg hch fun b hb e => ?_, ⟨_, _, _, _, tP.chg hch fun b hb e => ?_⟩, tC.trans hch fun b hb => .inr ?_, fun b hb => .inl hb⟩
      · rcases e with e | e
        · exact (tF b e).2.1 hb
        · have := tD.olt b hb; omega
      · rcases e with e | e
        · exact hb (tF b e).2.2.1
        · have := tP.lt b hb; omega
      · rcases hb with e | e
        · exact (tF b e).1
        · omega
    · intro k v x w6 cnt' hk hx hv hwf hr6 hlt6 hc6 hsz6 hen
      obtain ⟨hok1, hok2, hok3⟩ := OK.out.1.2 _ (pfind_mem hx)
      simp only at hok1 hok2 hok3
      obtain ⟨q, rfl⟩ : ∃ q : Nat, k = (q : Int) := ⟨k.toNat, by omega⟩
      have hbl : (resize b (c * 512)).length = c * 512 := length_resize _ _
      have hstep := came_step c (overlay L) left q x (resize b (c * 512)) OK.out.2 (fun p hp => ⟨(OK.out.1.2 p hp).1, (OK.out.1.2 p hp).2.2⟩) hk hx (by rw [hbl]; omega)
      obtain ⟨_, ho, hch⟩ := HR.out
      have ho6 : OwnB w6 (.slice A6 (c * 512) c6) (copies c (resize b (c * 512)) (came (overlay L) left)) := ho.chg hc6 fun g hg e => by
        rcases ho with ⟨e', _⟩ | ⟨g', cap, cur, e', hb', _⟩
        · rw [e'] at hg; simp [Value.ownBlock] at hg
        · rw [e'] at hg; simp [Value.ownBlock] at hg; subst hg; exact HR.out.1.ne_blk hb' e
      have hch6 : Chg (fun g => (Value.slice A6 (c * 512) c6).ownBlock = some g ∨ g = w4.heap.size) w4 w6 := hch.trans hc6 fun b hb => .inl (.inr hb)
      have ND := Lib.hid (And.intro hv (And.intro hr6 (And.intro ho6 (And.intro hch6 (And.intro hstep (And.intro hok3 hlt6))))))
      clear hv hr6 ho6 hch6 hstep hok3 hlt6 ho hch hc6 hk hx hbl hok1 hsz6 hwf
      by_cases hqc : q < c
      · have b6 : decide ((q : Int) < (c : Int)) = true := by simp; omega
        obtain ⟨g6, cap6, cur6, hv6, hb6, hcc⟩ := ND.out.2.2.1.some_form (by
          rw [ND.out.2.2.1.len.1]; omega)
        injection hv6 with hA hB hC
        subst hA
        have hlen6 := ND.out.2.2.1.len
        have s1 : (q : Int) * 512 ≤ (c : Int) * 512 := by omega
        have s2 : ¬ c6 = q * 512 := by omega
        have hwq : IntKind.i64.wrap ((q : Int) * 512) = (q : Int) * 512 := by rw [IntKind.wrap_i64]; omega
        have SL := Lib.hid (And.intro ND.out.1.1 (And.intro ND.out.2.2.1 (And.intro ND.out.2.2.2.2.2.1 hqc)))
        clear hb6 hcc hlen6 hB hC
        go_wp2_with (first | (refine wpList_copyB rfl (.tmp 111) (.tmp 112) rfl g6 (c * 512) c6 (q * 512) (c * 512 - q * 512) (c6 - q * 512) _ x v rfl rfl SL.out.2.1 rfl SL.out.1 (by rw [SL.out.2.2.1]; omega) (by have := SL.out.2.2.2; rw [SL.out.2.2.1]; omega) ?_; intro w7 ho7 hc7; have C7 := Lib.hid (And.intro ho7 hc7); clear ho7 hc7) | go_in)
        go_frame
        go_roundw
        case rel =>
          have hst := ND.out.2.2.2.2.1
          rw [if_pos (by omega)] at hst
          have hbl6 : ∃ cur, Blk w6 g6 5 cur := by
            rcases ND.out.2.2.1 with ⟨e', _⟩ | ⟨g', cap, cur, e', hb', _⟩
            · cases e'
            · injection e' with e'; injection e' with e'; injection e' with e'; subst e'; exact ⟨cur, hb'⟩
          obtain ⟨cur, hbl6⟩ := hbl6
          refine ⟨_, cnt', ND.out.2.1.chg C7.out.2 (fun e => ND.out.2.1.pgw.ne_blk hbl6 e.symm) (fun e => ND.out.2.1.ne_blk hbl6 e.symm) (fun g hg e => ?_), ?_, ?_⟩
          · have := TT.out.2.2.2.1 g6 rfl
            exact this.2.2.2 (by rw [← e]; exact hg)
          · rw [hst]; exact C7.out.1
          · exact ND.out.2.2.2.1.trans C7.out.2 fun b hb => .inl (.inl (by rw [hb]; rfl))
        case measure =>
          have e7 : w7.rangeLeft bm w4.heap.size = w6.rangeLeft bm w4.heap.size := by
            have hbl6 : ∃ cur, Blk w6 g6 5 cur := by
              rcases ND.out.2.2.1 with ⟨e', _⟩ | ⟨g', cap, cur, e', hb', _⟩
              · cases e'
              · injection e' with e'; injection e' with e'; injection e' with e'; subst e'; exact ⟨cur, hb'⟩
            obtain ⟨cur, hbl6⟩ := hbl6
            have hr7 := ND.out.2.1.chg C7.out.2 (fun e => ND.out.2.1.pgw.ne_blk hbl6 e.symm) (fun e => ND.out.2.1.ne_blk hbl6 e.symm) (fun g hg e => (TT.out.2.2.2.1 g6 rfl).2.2.2 (by rw [← e]; exact hg))
            rw [hr7.left_eq, ND.out.2.1.left_eq]
          rw [e7, ND.out.2.1.left_eq, HR.out.1.left_eq]; exact ND.out.2.2.2.2.2.2
      · have b6 : decide ((q : Int) < (c : Int)) = false := by simp; omega
        have HQ := Lib.hid hqc
        go_wp2_with fail
        go_roundw
        case rel =>
          refine ⟨_, cnt', ND.out.2.1, ?_, ND.out.2.2.2.1⟩
          have := ND.out.2.2.2.2.1
          rw [if_neg (by have := HQ.out; omega)] at this
          rw [this]; exact ND.out.2.2.1
        case measure => rw [ND.out.2.1.left_eq, HR.out.1.left_eq]; exact ND.out.2.2.2.2.2.2
set_option maxHeartbeats 2000000 in
set_option maxRecDepth 100000 in
/-- with a log that is made safe -/
theorem committed_sync (w : World) (bp bd bl : Nat) (M : DiskM) (G : DG) (P : PagerM) (R : Nat → Nat) (h : DiskAt w bd M G) (hp : PagerW w bp bd bl P R) (hR : ∀ b, R b ≠ 0 → ¬ G.F b) (ho : M.off = false) (hj : journalN ∉ M.names) (L : LogL) (hL : LogIs M L) (hok : LogOk L) (hL0 : L ≠ [])
    (b : Bts) (hb : BaseIs M b) (hb5 : b.length % 512 = 0) (hb2 : b.length ≤ 2097152) (hm : P.mode = 2) (hs : P.sure ≠ (blocksOn L).length) (ht : TrOk M) (hy : (syncM M logN).1 = 0) :
    Calls Tryz.prog 69 #[ptr bp] w (CPost w bp bd bl G R 0 (commB b L) (syncM M logN).2 { P with sure := (blocksOn L).length }) := by
  obtain ⟨vwas, vown, vmarks, mb, hp⟩ := hp
  have pd := hp.pd hR
  have d0 : w.cell? ⟨bp, 0, none⟩ = some (ptr bd) := hp.blk.cell 0
  have d1 : w.cell? ⟨bp, 1, none⟩ = some (I 2) := by rw [← hm]; exact hp.blk.cell 1
  have U := Lib.hid (undo_no w bp bd M G h pd ho hj)
  have A := Lib.hid (all_base w bp bd M G h pd ho b hb)
  obtain ⟨c, hc, hc4⟩ : ∃ c : Nat, lastCount L = (c : Int) ∧ c ≤ 4096 := by
    obtain ⟨L', q, rfl⟩ : ∃ L' q, L = L' ++ [q] := ⟨L.dropLast, L.getLast hL0, (List.dropLast_concat_getLast hL0).symm⟩
    exact ⟨q.1, lastCount_snoc _ _, (hok q (by simp)).1⟩
  obtain ⟨E, hE⟩ : ∃ E, E = (blocksOn L).length := ⟨_, rfl⟩
  have hE0 : 0 < E := by
    obtain ⟨q, r, rfl⟩ := List.exists_cons_of_ne_nil hL0
    rw [hE]; simp [blocksOn, blockOn]
  have BK : Hid (∀ w1 A1 n c1, OwnB w1 (.slice A1 n c1) b → Below w.heap.size w w1 → (∀ g, (Value.slice A1 n c1).ownBlock = some g → w.heap.size ≤ g) → Calls Tryz.prog 117 #[ptr bp] w1 fun e w' => ∃ bm, e = .returned (.tuple #[.map (some bm), I c, I E, I E, I 0]) ∧ CommT w w' bp bd bl G G R M P bm L (.slice A1 n c1) b w1.heap.size ∧ w1.heap.size ≤ w'.heap.size ∧ w'.cell? ⟨bp, 12, none⟩ = some (I P.sure) ∧ w'.cell? ⟨bp, 0, none⟩ = some (ptr bd) ∧ Calls Tryz.prog 118 #[ptr bd, .string ⟨#[98, 97, 115, 101, 45, 108, 111, 103]⟩] w' (DPost w' bd G (I 0) (syncM M logN).2)) := by
    intro w1 A1 n c1 h1 h2 h3
    refine (blocks_any w1 bp bd M G (h.chg (Chg.of_below (S := Non) h2) fun _ _ => id) (pd.chg (Chg.of_below (S := Non) h2) id fun b hb => .inl hb) ho L hL hok).mono ?_
    rintro e w' ⟨bm, rfl, k1, k2, k3⟩
    have c2 : Chg Non w w' := (Chg.of_below h2).tr k2
    have hp2 := hp.chg c2 fun _ _ => id
    refine ⟨bm, by rw [hc, hE], ⟨h.chg c2 fun _ _ => id, ⟨_, _, _, _, hp2⟩, c2.mono fun _ hf => hf.elim, fun b hb => .inl hb, hp.lt, h1.chg k2 fun _ _ => id, fun g hg => ⟨h3 g hg, fun e => by have := h.olt _ e; have := h3 g hg; omega, ?_⟩, k1, ⟨Nat.le_trans h2.size k3, fun e => by have := h.olt _ e; have := h2.size; omega⟩⟩, k2.size, hp2.blk.cell 12, hp2.blk.cell 0, ?_⟩
    · rcases h1 with ⟨e', _⟩ | ⟨g', cap, cur, e', hb, _⟩
      · rw [e'] at hg; simp [Value.ownBlock] at hg
      · rw [e'] at hg; simp [Value.ownBlock] at hg; subst hg; exact hb.lt
    · have := sync_any w' bd M G (h.chg c2 fun _ _ => id) ht nLog good_log
      rw [show nLog.data.toList = logN from rfl, hy] at this
      exact this
  have GR : Hid ((∀ b, G.F b → b < w.heap.size) ∧ (∀ b, R b ≠ 0 → ¬ G.F b)) := ⟨h.olt, hR⟩
  have OV : Hid (PgOk (overlay L) ∨ True) := .inr trivial
  have H := Lib.hid (And.intro hok (And.intro hL0 (And.intro hc hE)))
  clear h hp hR ho hj hL hb pd hm hok hL0 hc hE ht hy
  rw [← H.out.2.2.2] at hs ⊢
  have b9 : (P.sure != (E : Int)) = true := by simpa using hs
  clear hs
  generalize syncM M logN = Y at *
  obtain ⟨y1, Y⟩ := Y
  simp only at *
  generalize hn : b.length = n at *
  have b1 : ((n : Int) % 512 != 0) = false := by simp; omega
  have b2 : decide ((2097152 : Int) < (n : Int)) = false := by simp; omega
  have b3 : decide ((0 : Int) < (E : Int)) = true := by simp; omega
  have HN := Lib.hid hn
  clear hn hb5
  obtain ⟨m, hm⟩ : ∃ m : Nat, m = min n (c * 512) := ⟨_, rfl⟩
  obtain ⟨z, hz⟩ : ∃ z : Nat, z = c * 512 - n := ⟨_, rfl⟩
  have hmin : min (n : Int) ((c : Int) * 512) = (m : Int) := by omega
  have hmax : max (0 : Int) ((c : Int) * 512 - (n : Int)) = (z : Int) := by omega
  have hmn : m ≤ n := by omega
  have AP : Hid (∀ w3 A1 c1 G3 M' P' bm s2, s2 ≤ w3.heap.size → CommT w w3 bp bd bl G G3 R M' P' bm L (.slice A1 n c1) b s2 → ∃ A6 c6 w4, (Builtin.append_ #[48, 3] 48 #[.slice A1 m c1, I z]).run Tryz.prog w3 = .ok (.slice A6 (c * 512) c6) w4 ∧
      OwnB w4 (.slice A6 (c * 512) c6) (resize b (c * 512)) ∧ DiskAt w4 bd M' G3 ∧ PagerW w4 bp bd bl P' R ∧ Chg (fun b => G.F b ∨ b = bp) w w4 ∧ (∀ g, (Value.slice A6 (c * 512) c6).ownBlock = some g → w.heap.size ≤ g ∧ ¬ G3.F g ∧ R g = 0 ∧ ¬ (s2 ≤ g ∧ g < w3.heap.size)) ∧ PgW w4 (fun g => s2 ≤ g ∧ g < w3.heap.size) bm (overlay L)) := by
    intro w3 A1 c1 G3 M' P' bm s2 hs2 hT
    have ho := hT.o.take m hmn
    have hbt : (b.take m) = b.take (c * 512) := by
      rw [hm, ← List.take_take, ← HN.out]; exact List.take_of_length_le (by rw [List.length_take]; omega)
    obtain ⟨v', w4, hr, h1, h2, h3⟩ := append_zeros w3 48 _ _ ho z (by rw [List.length_take, HN.out]; omega)
    have e : b.take m ++ List.replicate z 0 = resize b (c * 512) := by rw [hbt, hz, ← HN.out]; rfl
    rw [e] at h1
    obtain ⟨A6, c6, rfl, _⟩ := h1.form
    rw [length_resize] at hr h1 h3
    obtain ⟨k1, k2, k3, k4, k5⟩ := hT.append hs2 h1 (v0 := .slice A1 m c1) (by cases A1 <;> rfl) h2 h3
    exact ⟨A6, c6, w4, hr, h1, k1, k2, k3, k4, k5⟩
  clear hm hz
  go_enter Tryz.func69, Tryz.ntmps69
  go_wp2_with (first | (go_at_call 87; refine U.out.mono ?_; rintro e w' ⟨rfl, hw'⟩; have hw2 := hw'.symm; subst hw2) | (go_at_call 116; refine A.out.mono ?_; rintro e w1 ⟨v, t, rfl, h1, h2, h3⟩; obtain ⟨A1, c1, rfl, hc1⟩ := h1.form; have hmc : (m : Int) ≤ (c1 : Int) := (by have := HN.out; omega); have BK1 := Lib.hid (BK.out w1 _ _ _ h1 h2 h3); have WL := Lib.hid h2.size; rw [HN.out] at BK1 ⊢; clear h1 h2 h3) | (go_at_call 117; refine BK1.out.mono ?_; rintro e wB ⟨bm, rfl, h1, h2, q12, q0, hsy⟩; have TB := Lib.hid (And.intro h1 h2); have SY := Lib.hid hsy; clear h1 h2 hsy) | (go_at_call 118; refine SY.out.mono ?_; rintro e ws ⟨G3, rfl, k1, k2, k3⟩; obtain ⟨p12, f12, hT3, hsz3⟩ := TB.out.1.sync TB.out.2 WL.out GR.out.1 GR.out.2 k1 k2 k3 (E : Int); obtain ⟨A6, c6, w4, hr4, h4⟩ := AP.out _ _ _ _ _ _ _ _ hsz3 hT3; have GB := Lib.hid hT3.g; rw [szS] at h4; have RUN := Lib.hid hr4; have T4 := Lib.hid h4; clear k1 k2 k3 hT3 hsz3 hr4 h4) | (at_builtin; refine Lib.wpList_append_run _ rfl (.tmp 90) (.tmp 96) _ _ rfl _ _ rfl rfl _ _ RUN.out ?_) | (at_range; refine wpList_pgRange rfl _ rfl rfl T4.out.2.2.2.2.2 ?_; intro w5 hr5 hc5 _; have R5 := Lib.hid (And.intro hr5 hc5); clear hr5 hc5) | go_in)
  go_frame
  obtain ⟨tD, tP, tC, tF, tM⟩ := T4.out.2
  have OK : Hid (PgOk (overlay L) ∧ (overlay L).Pairwise (fun p q => p.1 < q.1)) := ⟨overlay_ok H.out.1 tM.pair, tM.pair⟩
  have ho5 : OwnB w5 (.slice A6 (c * 512) c6) (copies c (resize b (c * 512)) (came (overlay L) fun k => ((pfind (overlay L) k).isSome))) := by
    rw [came_start]; exact T4.out.1.chg R5.out.2 fun _ _ => id
  have TT := Lib.hid (And.intro tD (And.intro tP (And.intro tC (And.intro tF tM))))
  clear tD tP tC tF tM
  go_loopw [100] (fun _ wr => ∃ left cnt, PgR wr (fun g => w1.heap.size ≤ g ∧ g < ws.heap.size) bm w4.heap.size (overlay L) left cnt ∧ OwnB wr (.slice A6 (c * 512) c6) (copies c (resize b (c * 512)) (came (overlay L) left)) ∧ Chg (fun g => (Value.slice A6 (c * 512) c6).ownBlock = some g ∨ g = w4.heap.size) w4 wr) (fun _ wr => wr.rangeLeft bm w4.heap.size)
  case atStart => exact ⟨_, _, R5.out.1, ho5, R5.out.2.mono fun _ hf => hf.elim⟩
  case round =>
    obtain ⟨left, cnt, hr, ho, hch⟩ := hrel
    have HR := Lib.hid (And.intro hr (And.intro ho hch))
    clear hr ho hch ho5
    go_wp2_with (first | (at_next; refine wpList_pgNext rfl _ rfl rfl HR.out.1 ?_ ?_) | go_in)
    · intro hall
      have HA := Lib.hid hall
      clear hall
      go_wp2_with fail
      go_ret2
      obtain ⟨tD, ⟨_, _, _, _, tP⟩, tC, tF, tM⟩ := TT.out
      obtain ⟨hr, ho, hch⟩ := HR.out
      have e : copies c (resize b (c * 512)) (came (overlay L) left) = commB b L := by
        rw [came_end _ _ HA.out, commB, H.out.2.2.1, if_pos (by omega)]; rfl
      have w4n : w.heap.size ≤ w4.heap.size := tC.size
      refine ⟨G3, _, rfl, by rw [← e]; exact ho, fun g hg => ⟨(tF g hg).1, (tF g hg).2.1⟩, tD.chg hch fun b hb e => ?_, ⟨_, _, _, _, tP.chg hch fun b hb e => ?_⟩, tC.trans hch fun b hb => .inr ?_, GB.out⟩
      · rcases e with e | e
        · exact (tF b e).2.1 hb
        · have := tD.olt b hb; omega
      · rcases e with e | e
        · exact hb (tF b e).2.2.1
        · have := tP.lt b hb; omega
      · rcases hb with e | e
        · exact (tF b e).1
        · omega
    · intro k v x w6 cnt' hk hx hv hwf hr6 hlt6 hc6 hsz6 hen
      obtain ⟨hok1, hok2, hok3⟩ := OK.out.1.2 _ (pfind_mem hx)
      simp only at hok1 hok2 hok3
      obtain ⟨q, rfl⟩ : ∃ q : Nat, k = (q : Int) := ⟨k.toNat, by omega⟩
      have hbl : (resize b (c * 512)).length = c * 512 := length_resize _ _
      have hstep := came_step c (overlay L) left q x (resize b (c * 512)) OK.out.2 (fun p hp => ⟨(OK.out.1.2 p hp).1, (OK.out.1.2 p hp).2.2⟩) hk hx (by rw [hbl]; omega)
      obtain ⟨_, ho, hch⟩ := HR.out
      have ho6 : OwnB w6 (.slice A6 (c * 512) c6) (copies c (resize b (c * 512)) (came (overlay L) left)) := ho.chg hc6 fun g hg e => by
        rcases ho with ⟨e', _⟩ | ⟨g', cap, cur, e', hb', _⟩
        · rw [e'] at hg; simp [Value.ownBlock] at hg
        · rw [e'] at hg; simp [Value.ownBlock] at hg; subst hg; exact HR.out.1.ne_blk hb' e
      have hch6 : Chg (fun g => (Value.slice A6 (c * 512) c6).ownBlock = some g ∨ g = w4.heap.size) w4 w6 := hch.trans hc6 fun b hb => .inl (.inr hb)
      have ND := Lib.hid (And.intro hv (And.intro hr6 (And.intro ho6 (And.intro hch6 (And.intro hstep (And.intro hok3 hlt6))))))
      clear hv hr6 ho6 hch6 hstep hok3 hlt6 ho hch hc6 hk hx hbl hok1 hsz6 hwf
      by_cases hqc : q < c
      · have b6 : decide ((q : Int) < (c : Int)) = true := by simp; omega
        obtain ⟨g6, cap6, cur6, hv6, hb6, hcc⟩ := ND.out.2.2.1.some_form (by
          rw [ND.out.2.2.1.len.1]; omega)
        injection hv6 with hA hB hC
        subst hA
        have hlen6 := ND.out.2.2.1.len
        have s1 : (q : Int) * 512 ≤ (c : Int) * 512 := by omega
        have s2 : ¬ c6 = q * 512 := by omega
        have hwq : IntKind.i64.wrap ((q : Int) * 512) = (q : Int) * 512 := by rw [IntKind.wrap_i64]; omega
        have SL := Lib.hid (And.intro ND.out.1.1 (And.intro ND.out.2.2.1 (And.intro ND.out.2.2.2.2.2.1 hqc)))
        clear hb6 hcc hlen6 hB hC
        go_wp2_with (first | (refine wpList_copyB rfl (.tmp 111) (.tmp 112) rfl g6 (c * 512) c6 (q * 512) (c * 512 - q * 512) (c6 - q * 512) _ x v rfl rfl SL.out.2.1 rfl SL.out.1 (by rw [SL.out.2.2.1]; omega) (by have := SL.out.2.2.2; rw [SL.out.2.2.1]; omega) ?_; intro w7 ho7 hc7; have C7 := Lib.hid (And.intro ho7 hc7); clear ho7 hc7) | go_in)
        go_frame
        go_roundw
        case rel =>
          have hst := ND.out.2.2.2.2.1
          rw [if_pos (by omega)] at hst
          have hbl6 : ∃ cur, Blk w6 g6 5 cur := by
            rcases ND.out.2.2.1 with ⟨e', _⟩ | ⟨g', cap, cur, e', hb', _⟩
            · cases e'
            · injection e' with e'; injection e' with e'; injection e' with e'; subst e'; exact ⟨cur, hb'⟩
          obtain ⟨cur, hbl6⟩ := hbl6
          refine ⟨_, cnt', ND.out.2.1.chg C7.out.2 (fun e => ND.out.2.1.pgw.ne_blk hbl6 e.symm) (fun e => ND.out.2.1.ne_blk hbl6 e.symm) (fun g hg e => ?_), ?_, ?_⟩
          · have := TT.out.2.2.2.1 g6 rfl
            exact this.2.2.2 (by rw [← e]; exact hg)
          · rw [hst]; exact C7.out.1
          · exact ND.out.2.2.2.1.trans C7.out.2 fun b hb => .inl (.inl (by rw [hb]; rfl))
        case measure =>
          have e7 : w7.rangeLeft bm w4.heap.size = w6.rangeLeft bm w4.heap.size := by
            have hbl6 : ∃ cur, Blk w6 g6 5 cur := by
              rcases ND.out.2.2.1 with ⟨e', _⟩ | ⟨g', cap, cur, e', hb', _⟩
              · cases e'
              · injection e' with e'; injection e' with e'; injection e' with e'; subst e'; exact ⟨cur, hb'⟩
            obtain ⟨cur, hbl6⟩ := hbl6
            have hr7 := ND.out.2.1.chg C7.out.2 (fun e => ND.out.2.1.pgw.ne_blk hbl6 e.symm) (fun e => ND.out.2.1.ne_blk hbl6 e.symm) (fun g hg e => (TT.out.2.2.2.1 g6 rfl).2.2.2 (by rw [← e]; exact hg))
            rw [hr7.left_eq, ND.out.2.1.left_eq]
          rw [e7, ND.out.2.1.left_eq, HR.out.1.left_eq]; exact ND.out.2.2.2.2.2.2
      · have b6 : decide ((q : Int) < (c : Int)) = false := by simp; omega
        have HQ := Lib.hid hqc
        go_wp2_with fail
        go_roundw
        case rel =>
          refine ⟨_, cnt', ND.out.2.1, ?_, ND.out.2.2.2.1⟩
          have := ND.out.2.2.2.2.1
          rw [if_neg (by have := HQ.out; omega)] at this
          rw [this]; exact ND.out.2.2.1
        case measure => rw [ND.out.2.1.left_eq, HR.out.1.left_eq]; exact ND.out.2.2.2.2.2.2
set_option maxHeartbeats 2000000 in
set_option maxRecDepth 100000 in
/-- the log can't be made safe -/
theorem committed_syncbad (w : World) (bp bd bl : Nat) (M : DiskM) (G : DG) (P : PagerM) (R : Nat → Nat) (h : DiskAt w bd M G) (hp : PagerW w bp bd bl P R) (hR : ∀ b, R b ≠ 0 → ¬ G.F b) (ho : M.off = false) (hj : journalN ∉ M.names) (L : LogL) (hL : LogIs M L) (hok : LogOk L) (hL0 : L ≠ [])
    (b : Bts) (hb : BaseIs M b) (hb5 : b.length % 512 = 0) (hb2 : b.length ≤ 2097152) (hm : P.mode = 2) (hs : P.sure ≠ (blocksOn L).length) (ht : TrOk M) (hy : ¬ (syncM M logN).1 = 0) :
    Calls Tryz.prog 69 #[ptr bp] w (CPost w bp bd bl G R (syncM M logN).1 [] (syncM M logN).2 P) := by
  obtain ⟨vwas, vown, vmarks, mb, hp⟩ := hp
  have pd := hp.pd hR
  have d0 : w.cell? ⟨bp, 0, none⟩ = some (ptr bd) := hp.blk.cell 0
  have d1 : w.cell? ⟨bp, 1, none⟩ = some (I 2) := by rw [← hm]; exact hp.blk.cell 1
  have U := Lib.hid (undo_no w bp bd M G h pd ho hj)
  have A := Lib.hid (all_base w bp bd M G h pd ho b hb)
  obtain ⟨c, hc, hc4⟩ : ∃ c : Nat, lastCount L = (c : Int) ∧ c ≤ 4096 := by
    obtain ⟨L', q, rfl⟩ : ∃ L' q, L = L' ++ [q] := ⟨L.dropLast, L.getLast hL0, (List.dropLast_concat_getLast hL0).symm⟩
    exact ⟨q.1, lastCount_snoc _ _, (hok q (by simp)).1⟩
  obtain ⟨E, hE⟩ : ∃ E, E = (blocksOn L).length := ⟨_, rfl⟩
  have hE0 : 0 < E := by
    obtain ⟨q, r, rfl⟩ := List.exists_cons_of_ne_nil hL0
    rw [hE]; simp [blocksOn, blockOn]
  have BK : Hid (∀ w1 A1 n c1, OwnB w1 (.slice A1 n c1) b → Below w.heap.size w w1 → (∀ g, (Value.slice A1 n c1).ownBlock = some g → w.heap.size ≤ g) → Calls Tryz.prog 117 #[ptr bp] w1 fun e w' => ∃ bm, e = .returned (.tuple #[.map (some bm), I c, I E, I E, I 0]) ∧ CommT w w' bp bd bl G G R M P bm L (.slice A1 n c1) b w1.heap.size ∧ w1.heap.size ≤ w'.heap.size ∧ w'.cell? ⟨bp, 12, none⟩ = some (I P.sure) ∧ w'.cell? ⟨bp, 0, none⟩ = some (ptr bd) ∧ Calls Tryz.prog 118 #[ptr bd, .string ⟨#[98, 97, 115, 101, 45, 108, 111, 103]⟩] w' (DPost w' bd G (I (syncM M logN).1) (syncM M logN).2)) := by
    intro w1 A1 n c1 h1 h2 h3
    refine (blocks_any w1 bp bd M G (h.chg (Chg.of_below (S := Non) h2) fun _ _ => id) (pd.chg (Chg.of_below (S := Non) h2) id fun b hb => .inl hb) ho L hL hok).mono ?_
    rintro e w' ⟨bm, rfl, k1, k2, k3⟩
    have c2 : Chg Non w w' := (Chg.of_below h2).tr k2
    have hp2 := hp.chg c2 fun _ _ => id
    refine ⟨bm, by rw [hc, hE], ⟨h.chg c2 fun _ _ => id, ⟨_, _, _, _, hp2⟩, c2.mono fun _ hf => hf.elim, fun b hb => .inl hb, hp.lt, h1.chg k2 fun _ _ => id, fun g hg => ⟨h3 g hg, fun e => by have := h.olt _ e; have := h3 g hg; omega, ?_⟩, k1, ⟨Nat.le_trans h2.size k3, fun e => by have := h.olt _ e; have := h2.size; omega⟩⟩, k2.size, hp2.blk.cell 12, hp2.blk.cell 0, ?_⟩
    · rcases h1 with ⟨e', _⟩ | ⟨g', cap, cur, e', hb, _⟩
      · rw [e'] at hg; simp [Value.ownBlock] at hg
      · rw [e'] at hg; simp [Value.ownBlock] at hg; subst hg; exact hb.lt
    · have := sync_any w' bd M G (h.chg c2 fun _ _ => id) ht nLog good_log
      rw [show nLog.data.toList = logN from rfl] at this
      exact this
  have GR : Hid ((∀ b, G.F b → b < w.heap.size) ∧ (∀ b, R b ≠ 0 → ¬ G.F b)) := ⟨h.olt, hR⟩
  have OV : Hid (PgOk (overlay L) ∨ True) := .inr trivial
  have H := Lib.hid (And.intro hok (And.intro hL0 (And.intro hc hE)))
  clear h hp hR ho hj hL hb pd hm hok hL0 hc hE ht
  rw [← H.out.2.2.2] at hs
  have b9 : (P.sure != (E : Int)) = true := by simpa using hs
  clear hs
  generalize syncM M logN = Y at *
  obtain ⟨y1, Y⟩ := Y
  simp only at *
  have by1 : (y1 != 0) = true := by simpa using hy
  clear hy
  generalize hn : b.length = n at *
  have b1 : ((n : Int) % 512 != 0) = false := by simp; omega
  have b2 : decide ((2097152 : Int) < (n : Int)) = false := by simp; omega
  have b3 : decide ((0 : Int) < (E : Int)) = true := by simp; omega
  have HN := Lib.hid hn
  clear hn hb5
  go_enter Tryz.func69, Tryz.ntmps69
  go_wp2_with (first | (go_at_call 87; refine U.out.mono ?_; rintro e w' ⟨rfl, hw'⟩; have hw2 := hw'.symm; subst hw2) | (go_at_call 116; refine A.out.mono ?_; rintro e w1 ⟨v, t, rfl, h1, h2, h3⟩; obtain ⟨A1, c1, rfl, hc1⟩ := h1.form; have BK1 := Lib.hid (BK.out w1 _ _ _ h1 h2 h3); rw [HN.out] at BK1 ⊢; clear h1 h2 h3) | (go_at_call 117; refine BK1.out.mono ?_; rintro e wB ⟨bm, rfl, h1, h2, q12, q0, hsy⟩; have TB := Lib.hid (And.intro h1 h2); have SY := Lib.hid hsy; clear h1 h2 hsy) | (go_at_call 118; refine SY.out.mono ?_; rintro e ws ⟨G3, rfl, k1, k2, k3⟩; have DS := Lib.hid (And.intro k1 (And.intro k2 k3)); clear k1 k2 k3))
  go_ret2
  obtain ⟨_, _, _, _, tp⟩ := TB.out.1.p
  refine ⟨G3, _, rfl, .inl ⟨rfl, rfl⟩, fun g hg => by simp [Value.ownBlock] at hg, DS.out.1, ⟨_, _, _, _, tp.chg DS.out.2.1 GR.out.2⟩, TB.out.1.c.trans DS.out.2.1 fun b hb => .inl (.inl hb), fun b hb => ?_⟩
  rcases DS.out.2.2 b hb with e | e
  · exact .inl e
  · exact .inr (Nat.le_trans TB.out.1.c.size e)
end Go.Proofs.YtamhjjagjjdmoaaGreat
end

section
namespace Go.Proofs.YtamhjjagjjdmoaaGreat
open Go.RowKit Go.Maps

/-! ### pages as a list -/
def zpage : Bts := List.replicate 512 0
theorem length_zpage : zpage.length = 512 := List.length_replicate
def Pgs (V : List Bts) : Prop := ∀ x ∈ V, x.length = 512
def view (V : List Bts) (l : PgL) (c : Nat) : List Bts := (List.range c).map fun n : Nat => (pfind l (n : Int)).getD (V.getD n zpage)
def putV (V : List Bts) (n : Nat) (x : Bts) : List Bts := (V ++ List.replicate (n + 1 - V.length) zpage).set n x
/-- rising keys -/
def Rises (l : PgL) : Prop := l.Pairwise fun p q => p.1 < q.1

theorem length_view (V : List Bts) (l : PgL) (c : Nat) : (view V l c).length = c := by simp [view]
theorem view_getElem (V : List Bts) (l : PgL) (c n : Nat) (h : n < c) : (view V l c)[n]? = some ((pfind l (n : Int)).getD (V.getD n zpage)) := by
  simp [view, h]
theorem view_getD (V : List Bts) (l : PgL) (c n : Nat) : (view V l c).getD n zpage = if n < c then (pfind l (n : Int)).getD (V.getD n zpage) else zpage := by
  rw [List.getD_eq_getElem?_getD]
  split
  · next h => rw [view_getElem V l c n h]; rfl
  · next h => rw [List.getElem?_eq_none (by rw [length_view]; omega)]; rfl
theorem getD_lt (V : List Bts) (n : Nat) (h : n < V.length) : V.getD n zpage = V[n] := by
  rw [List.getD_eq_getElem?_getD, List.getElem?_eq_getElem h]; rfl
theorem ext_getD {U V : List Bts} (hl : U.length = V.length) (h : ∀ n, n < U.length → U.getD n zpage = V.getD n zpage) : U = V := by
  apply List.ext_getElem hl
  intro n h1 h2
  have := h n h1
  rw [getD_lt _ _ h1, getD_lt _ _ h2] at this
  exact this
theorem length_putV (V : List Bts) (n : Nat) (x : Bts) : (putV V n x).length = max V.length (n + 1) := by simp [putV]; omega
theorem getD_pad (V : List Bts) (k n : Nat) : (V ++ List.replicate k zpage).getD n zpage = V.getD n zpage := by
  rw [List.getD_eq_getElem?_getD, List.getD_eq_getElem?_getD]
  by_cases h : n < V.length
  · rw [List.getElem?_append_left h]
  · rw [List.getElem?_append_right (by omega), List.getElem?_eq_none (l := V) (by omega)]
    rw [List.getElem?_replicate]; split <;> rfl
theorem putV_getD (V : List Bts) (n m : Nat) (x : Bts) : (putV V n x).getD m zpage = if m = n then x else V.getD m zpage := by
  have hl : n < (V ++ List.replicate (n + 1 - V.length) zpage).length := by simp; omega
  unfold putV
  split
  · next h => subst h; rw [List.getD_eq_getElem?_getD, List.getElem?_set_self hl]; rfl
  · next h =>
    rw [List.getD_eq_getElem?_getD, List.getElem?_set_ne (fun e => h e.symm), ← List.getD_eq_getElem?_getD, getD_pad]
theorem Pgs.getD {V : List Bts} (h : Pgs V) (n : Nat) : (V.getD n zpage).length = 512 := by
  rw [List.getD_eq_getElem?_getD]
  cases e : V[n]? with
  | none => exact length_zpage
  | some x => exact h x (List.mem_of_getElem? e)
theorem Pgs.of_getD {V : List Bts} (h : ∀ n, n < V.length → (V.getD n zpage).length = 512) : Pgs V := by
  intro x hx
  obtain ⟨n, hn, rfl⟩ := List.getElem_of_mem hx
  have := h n hn
  rwa [getD_lt _ _ hn] at this
def Full (l : PgL) : Prop := ∀ p ∈ l, p.2.length = 512
theorem Full.find {l : PgL} (h : Full l) {k : Int} {x : Bts} (hx : pfind l k = some x) : x.length = 512 := h _ (pfind_mem hx)
theorem Pgs.view {V : List Bts} (h : Pgs V) {l : PgL} (hl : Full l) (c : Nat) : Pgs (view V l c) := by
  apply Pgs.of_getD
  intro n hn
  rw [length_view] at hn
  rw [view_getD, if_pos hn]
  cases e : pfind l (n : Int) with
  | none => exact h.getD n
  | some x => exact hl.find e
theorem Pgs.putV {V : List Bts} (h : Pgs V) (n : Nat) (x : Bts) (hx : x.length = 512) : Pgs (putV V n x) := by
  apply Pgs.of_getD
  intro m _
  rw [putV_getD]
  split
  · exact hx
  · exact h.getD m

theorem pfind_cons (p : Int × Bts) (l : PgL) (m : Int) : pfind (p :: l) m = if p.1 = m then some p.2 else pfind l m := by
  simp only [pfind, List.find?_cons]
  by_cases e : p.1 = m
  · simp [e]
  · have : (p.1 == m) = false := by simpa using e
    simp [e, this]
theorem pfind_pins (k : Int) (x : Bts) : ∀ (l : PgL) (m : Int), (∀ p ∈ l, p.1 ≠ k) → pfind (pins (k, x) l) m = if m = k then some x else pfind l m
  | [], m, _ => by
    simp only [pins, pfind_cons]
    by_cases e : m = k
    · simp [e]
    · have : ¬ k = m := fun h => e h.symm
      simp [e, this]
  | y :: r, m, h => by
    simp only [pins]
    split
    · rw [pfind_cons]; by_cases e : m = k
      · simp [e]
      · have : ¬ k = m := fun h => e h.symm
        simp [e, this]
    · rw [pfind_cons, pfind_pins k x r m (fun p hp => h p (List.mem_cons_of_mem _ hp)), pfind_cons]
      by_cases e : m = k
      · have := h y (by simp)
        simp [e, this]
      · simp [e]
theorem pfind_pdel (k : Int) : ∀ (l : PgL) (m : Int), m ≠ k → pfind (pdel l k) m = pfind l m
  | [], _, _ => rfl
  | y :: r, m, h => by
    have ih := pfind_pdel k r m h
    simp only [pdel] at ih
    simp only [pdel, List.filter_cons]
    by_cases e : y.1 = k
    · have : ¬ k = m := fun h' => h h'.symm
      simp [e, pfind_cons, ih, this]
    · simp [e, pfind_cons, ih]
theorem pfind_pput (l : PgL) (k : Int) (x : Bts) (m : Int) : pfind (pput l k x) m = if m = k then some x else pfind l m := by
  rw [pput, pfind_pins k x _ m (fun p hp => by simp [pdel] at hp; exact hp.2)]
  split
  · rfl
  · next h => exact pfind_pdel k l m h
theorem pfind_none_of {l : PgL} {m : Int} (h : ∀ p ∈ l, p.1 ≠ m) : pfind l m = none := by
  cases e : pfind l m with
  | none => rfl
  | some x => exact absurd rfl (h _ (pfind_mem e))
theorem pfind_pover : ∀ (l o : PgL), Rises l → ∀ m, pfind (pover o l) m = (pfind l m).or (pfind o m)
  | [], o, _, m => by simp [pover, pfind]
  | p :: r, o, h, m => by
    have h' := List.pairwise_cons.1 h
    have ih := pfind_pover r (pput o p.1 p.2) h'.2 m
    have e1 : pover o (p :: r) = pover (pput o p.1 p.2) r := rfl
    rw [e1, ih, pfind_pput, pfind_cons]
    by_cases e : p.1 = m
    · have hn : pfind r m = none := pfind_none_of fun q hq => by have := h'.1 q hq; omega
      simp [e, hn]
    · have : ¬ m = p.1 := fun h => e h.symm
      simp [e, this]

def KeysLt (l : PgL) (c : Nat) : Prop := ∀ p ∈ l, 0 ≤ p.1 ∧ p.1 < (c : Int)
theorem KeysLt.mono {l : PgL} {c c' : Nat} (h : KeysLt l c) (hc : c ≤ c') : KeysLt l c' := fun p hp => ⟨(h p hp).1, by have := (h p hp).2; omega⟩
theorem KeysLt.none {l : PgL} {c n : Nat} (h : KeysLt l c) (hn : c ≤ n) : pfind l (n : Int) = none := pfind_none_of fun p hp => by have := (h p hp).2; omega
theorem getD_out {V : List Bts} {n : Nat} (h : V.length ≤ n) : V.getD n zpage = zpage := by
  rw [List.getD_eq_getElem?_getD, List.getElem?_eq_none h]; rfl

theorem view_put (V : List Bts) (own : PgL) (c n : Nat) (x : Bts) (hk : KeysLt own c) (hV : V.length ≤ c) :
    view V (pput own (n : Int) x) (max c (n + 1)) = putV (view V own c) n x := by
  apply ext_getD
  · rw [length_view, length_putV, length_view]
  · intro m hm
    rw [length_view] at hm
    rw [view_getD, if_pos hm, pfind_pput, putV_getD]
    by_cases e : m = n
    · subst e; simp
    · have : ¬ (m : Int) = (n : Int) := by omega
      rw [if_neg this, if_neg e, view_getD]
      split
      · rfl
      · rw [hk.none (by omega), getD_out (by omega)]; rfl
theorem view_view (V : List Bts) (o l : PgL) (c' c : Nat) (ho : KeysLt o c') (_hc : c' ≤ c) (hV : V.length ≤ c') (hl : Rises l) :
    view (view V o c') l c = view V (pover o l) c := by
  apply ext_getD
  · rw [length_view, length_view]
  · intro m hm
    rw [length_view] at hm
    rw [view_getD, if_pos hm, view_getD V _ c, if_pos hm, pfind_pover l o hl, view_getD]
    cases pfind l (m : Int) with
    | some x => rfl
    | none =>
      simp only [Option.getD_none, Option.or]
      split
      · rfl
      · rw [ho.none (by omega), getD_out (by omega)]; rfl
theorem view_nil (V : List Bts) : view V [] V.length = V := by
  apply ext_getD
  · rw [length_view]
  · intro m hm
    rw [length_view] at hm
    rw [view_getD, if_pos hm]; rfl

/-- keys below a count that does not fall, and reaches its last key -/
structure Tops (v : Nat) (l : PgL) (c : Nat) : Prop where
  lt : KeysLt l c
  le : v ≤ c
  top : v < c → (pfind l ((c : Int) - 1)).isSome = true
def wfFrom : Nat → LogL → Prop
  | _, [] => True
  | v, (c, l) :: r => Tops v l c ∧ Rises l ∧ Full l ∧ wfFrom c r
def cntFrom : Nat → LogL → Nat
  | v, [] => v
  | _, (c, _) :: r => cntFrom c r
theorem wfFrom_snoc : ∀ (L : LogL) (v c : Nat) (l : PgL), wfFrom v (L ++ [(c, l)]) ↔ wfFrom v L ∧ Tops (cntFrom v L) l c ∧ Rises l ∧ Full l
  | [], v, c, l => by simp [wfFrom, cntFrom]
  | p :: r, v, c, l => by
    have ih := wfFrom_snoc r p.1 c l
    simp only [List.cons_append, wfFrom, cntFrom, ih, and_assoc]
theorem cntFrom_snoc : ∀ (L : LogL) (v c : Nat) (l : PgL), cntFrom v (L ++ [(c, l)]) = c
  | [], _, _, _ => rfl
  | p :: r, _, c, l => cntFrom_snoc r p.1 c l
theorem cntFrom_last (L : LogL) (v : Nat) : (cntFrom v L : Int) = if 0 ≤ lastCount L then lastCount L else v := by
  induction L generalizing v with
  | nil => simp [cntFrom, lastCount]
  | cons p r ih =>
    cases r with
    | nil => simp [cntFrom, lastCount]
    | cons q s =>
      have := ih p.1
      have e : lastCount (p :: q :: s) = lastCount (q :: s) := by simp [lastCount, List.getLast?_cons_cons]
      have h0 : 0 ≤ lastCount (q :: s) := by
        unfold lastCount
        cases h : (q :: s).getLast? with
        | none => simp at h
        | some y => simp
      rw [e]
      simp only [cntFrom] at this ⊢
      rw [this]; simp [h0]
theorem lastCount_nn {L : LogL} (h : L ≠ []) : 0 ≤ lastCount L := by
  unfold lastCount
  cases e : L.getLast? with
  | none => exact absurd (List.getLast?_eq_none_iff.1 e) h
  | some y => simp
theorem snoc_ind {P : LogL → Prop} (h0 : P []) (hs : ∀ L c l, P L → P (L ++ [(c, l)])) : ∀ (n : Nat) (L : LogL), L.length = n → P L
  | 0, L, h => by obtain rfl := List.eq_nil_of_length_eq_zero h; exact h0
  | n + 1, L, h => by
    have hne : L ≠ [] := fun e => by rw [e] at h; simp at h
    obtain ⟨L', ⟨c, l⟩, rfl⟩ : ∃ L' p, L = L' ++ [p] := ⟨L.dropLast, L.getLast hne, (List.dropLast_concat_getLast hne).symm⟩
    exact hs L' c l (snoc_ind h0 hs n L' (by simpa using h))
theorem wf_overlay (v : Nat) (L : LogL) : wfFrom v L → Tops v (overlay L) (cntFrom v L) ∧ Full (overlay L) := by
  refine snoc_ind (P := fun L => wfFrom v L → Tops v (overlay L) (cntFrom v L) ∧ Full (overlay L)) ?_ ?_ L.length L rfl
  · intro _
    exact ⟨⟨fun p hp => by simp [overlay] at hp, Nat.le_refl _, fun h => by simp [cntFrom] at h⟩, fun p hp => by simp [overlay] at hp⟩
  · intro L c l ih h
    obtain ⟨h1, h2, h3, h4⟩ := (wfFrom_snoc L v c l).1 h
    obtain ⟨ht, hf⟩ := ih h1
    rw [overlay_snoc, cntFrom_snoc]
    refine ⟨⟨fun p hp => ?_, Nat.le_trans ht.le h2.le, fun hv => ?_⟩, fun p hp => ?_⟩
    · rcases mem_pover _ _ _ hp with hp | hp
      · exact (ht.lt.mono h2.le) p hp
      · exact h2.lt p hp
    · rw [pfind_pover l _ h3]
      by_cases hc : cntFrom v L < c
      · have := h2.top hc
        cases e : pfind l ((c : Int) - 1) with
        | none => rw [e] at this; cases this
        | some x => rfl
      · have e : cntFrom v L = c := by have := h2.le; omega
        have := ht.top (by omega)
        rw [e] at this
        cases e : pfind l ((c : Int) - 1) with
        | none => simpa using this
        | some x => rfl
    · rcases mem_pover _ _ _ hp with hp | hp
      · exact hf p hp
      · exact h4 p hp
/-- the committed pages -/
def doneV (V : List Bts) (L : LogL) : List Bts := view V (overlay L) (cntFrom V.length L)
theorem doneV_nil (V : List Bts) : doneV V [] = V := view_nil V
theorem doneV_snoc (V : List Bts) (L : LogL) (c : Nat) (l : PgL) (h : wfFrom V.length (L ++ [(c, l)])) : doneV V (L ++ [(c, l)]) = view (doneV V L) l c := by
  obtain ⟨h1, h2, h3, h4⟩ := (wfFrom_snoc L V.length c l).1 h
  obtain ⟨ht, _⟩ := wf_overlay V.length L h1
  unfold doneV
  rw [overlay_snoc, cntFrom_snoc, view_view V _ l _ c ht.lt h2.le ht.le h3]
theorem length_doneV (V : List Bts) (L : LogL) : (doneV V L).length = cntFrom V.length L := length_view _ _ _

/-! ### pages in a row -/
theorem length_flat512 {V : List Bts} (h : Pgs V) : V.flatten.length = V.length * 512 := by
  induction V with
  | nil => rfl
  | cons a r ih =>
    have h1 := h a (by simp)
    have h2 := ih fun x hx => h x (List.mem_cons_of_mem _ hx)
    simp [h1, h2]; omega
theorem Pgs.take {V : List Bts} (h : Pgs V) (n : Nat) : Pgs (V.take n) := fun x hx => h x (List.mem_of_mem_take hx)
theorem Pgs.drop {V : List Bts} (h : Pgs V) (n : Nat) : Pgs (V.drop n) := fun x hx => h x (List.mem_of_mem_drop hx)
theorem Pgs.append {V W : List Bts} (h : Pgs V) (k : Pgs W) : Pgs (V ++ W) := fun x hx => (List.mem_append.1 hx).elim (h x) (k x)
theorem Pgs.zeros (k : Nat) : Pgs (List.replicate k zpage) := fun x hx => by rw [List.eq_of_mem_replicate hx]; exact length_zpage
theorem flat_take {V : List Bts} (h : Pgs V) (n : Nat) : V.flatten.take (n * 512) = (V.take n).flatten := by
  by_cases hn : n ≤ V.length
  · have e : V.flatten = (V.take n).flatten ++ (V.drop n).flatten := by rw [← List.flatten_append, List.take_append_drop]
    rw [e]
    exact List.take_left' (by rw [length_flat512 (h.take n), List.length_take, Nat.min_eq_left hn])
  · rw [List.take_of_length_le (by rw [length_flat512 h]; omega), List.take_of_length_le (by omega)]
theorem flat_drop {V : List Bts} (h : Pgs V) (n : Nat) : V.flatten.drop (n * 512) = (V.drop n).flatten := by
  by_cases hn : n ≤ V.length
  · have e : V.flatten = (V.take n).flatten ++ (V.drop n).flatten := by rw [← List.flatten_append, List.take_append_drop]
    rw [e]
    exact List.drop_left' (by rw [length_flat512 (h.take n), List.length_take, Nat.min_eq_left hn])
  · rw [List.drop_eq_nil_of_le (by rw [length_flat512 h]; omega), List.drop_eq_nil_of_le (by omega)]; rfl
theorem flat_zeros (k : Nat) : (List.replicate k zpage).flatten = List.replicate (k * 512) 0 := by
  rw [zpage, List.flatten_replicate_replicate]
theorem splice_flat {V : List Bts} (h : Pgs V) (n : Nat) (hn : n < V.length) (x : Bts) (hx : x.length = 512) : splice V.flatten (n * 512) x = (V.set n x).flatten := by
  unfold splice
  rw [hx, show n * 512 + 512 = (n + 1) * 512 by omega, flat_take h, flat_drop h, List.set_eq_take_append_cons_drop, if_pos hn]
  simp
theorem writeSeen_flat {V : List Bts} (h : Pgs V) (n : Nat) (x : Bts) (hx : x.length = 512) : writeSeen V.flatten (n * 512) x = (putV V n x).flatten := by
  unfold writeSeen longerM putV
  have e : V.flatten ++ List.replicate (n * 512 + x.length - V.flatten.length) 0 = (V ++ List.replicate (n + 1 - V.length) zpage).flatten := by
    rw [List.flatten_append, flat_zeros, length_flat512 h, hx]
    congr 2
    omega
  rw [e]
  exact splice_flat (h.append (Pgs.zeros _)) n (by simp; omega) x hx
theorem resize_flat {V : List Bts} (h : Pgs V) (c : Nat) : resize V.flatten (c * 512) = (V.take c ++ List.replicate (c - V.length) zpage).flatten := by
  unfold resize
  rw [flat_take h, length_flat512 h, List.flatten_append, flat_zeros]
  congr 2
  omega
theorem resize_pages {V : List Bts} (c : Nat) (hc : V.length ≤ c) : V.take c ++ List.replicate (c - V.length) zpage = view V [] c := by
  rw [List.take_of_length_le hc]
  apply ext_getD
  · rw [length_view]; simp; omega
  · intro n hn
    rw [getD_pad, view_getD, if_pos (by simp at hn; omega)]; rfl
theorem set_getD (V : List Bts) (n m : Nat) (x : Bts) (hn : n < V.length) : (V.set n x).getD m zpage = if m = n then x else V.getD m zpage := by
  split
  · next h => subst h; rw [List.getD_eq_getElem?_getD, List.getElem?_set_self hn]; rfl
  · next h => rw [List.getD_eq_getElem?_getD, List.getElem?_set_ne (fun e => h e.symm), ← List.getD_eq_getElem?_getD]
theorem copies_flat (c : Nat) : ∀ (l : PgL) (V : List Bts), Pgs V → c ≤ V.length → (∀ p ∈ l, 0 ≤ p.1) → Full l → Rises l →
    ∃ U, copies (c : Int) V.flatten l = U.flatten ∧ Pgs U ∧ U.length = V.length ∧ ∀ n, n < c → U.getD n zpage = (pfind l (n : Int)).getD (V.getD n zpage)
  | [], V, h, _, _, _, _ => ⟨V, rfl, h, rfl, fun n _ => rfl⟩
  | p :: r, V, h, hc, h0, hf, hr => by
    have hr' := List.pairwise_cons.1 hr
    have hp0 := h0 p (by simp)
    have hpf := hf p (by simp)
    by_cases hp : p.1 < (c : Int)
    · have hlt : p.1.toNat < V.length := by omega
      obtain ⟨U, e, hU, hl, hg⟩ := copies_flat c r (V.set p.1.toNat p.2) (fun x hx => by rcases List.mem_or_eq_of_mem_set hx with h1 | h1; exact h x h1; rw [h1]; exact hpf) (by simpa using hc)
        (fun q hq => h0 q (List.mem_cons_of_mem _ hq)) (fun q hq => hf q (List.mem_cons_of_mem _ hq)) hr'.2
      refine ⟨U, ?_, hU, by simpa using hl, fun n hn => ?_⟩
      · rw [← e, ← splice_flat h _ hlt _ hpf]; simp [copies, hp]
      · rw [hg n hn, set_getD _ _ _ _ hlt, pfind_cons]
        by_cases e : n = p.1.toNat
        · have e2 : p.1 = (n : Int) := by omega
          have hn : pfind r (n : Int) = none := pfind_none_of fun q hq => by have := hr'.1 q hq; omega
          rw [hn, if_pos e, if_pos e2]; rfl
        · have e2 : ¬ p.1 = (n : Int) := by omega
          rw [if_neg e, if_neg e2]
    · obtain ⟨U, e, hU, hl, hg⟩ := copies_flat c r V h hc (fun q hq => h0 q (List.mem_cons_of_mem _ hq)) (fun q hq => hf q (List.mem_cons_of_mem _ hq)) hr'.2
      refine ⟨U, ?_, hU, hl, fun n hn => ?_⟩
      · rw [← e]; simp [copies, hp]
      · have e2 : ¬ p.1 = (n : Int) := by omega
        rw [hg n hn, pfind_cons, if_neg e2]
theorem commB_flat {V : List Bts} (h : Pgs V) (L : LogL) (hw : wfFrom V.length L) (ho : Rises (overlay L)) : commB V.flatten L = (doneV V L).flatten ∧ Pgs (doneV V L) := by
  obtain ⟨ht, hf⟩ := wf_overlay V.length L hw
  refine ⟨?_, h.view hf _⟩
  by_cases hL : L = []
  · subst hL; rw [doneV_nil]; rfl
  · have h0 := lastCount_nn hL
    have hc := cntFrom_last L V.length
    rw [if_pos h0] at hc
    have hc' : (lastCount L).toNat = cntFrom V.length L := by omega
    unfold commB
    rw [if_pos h0, hc', ← hc, resize_flat h, resize_pages _ ht.le]
    have hv : Pgs (view V [] (cntFrom V.length L)) := h.view (fun p hp => by simp at hp) _
    obtain ⟨U, e, hU, hl, hg⟩ := copies_flat (cntFrom V.length L) (overlay L) _ hv (by rw [length_view]; exact Nat.le_refl _) (fun p hp => (ht.lt p hp).1) hf ho
    rw [e]
    congr 1
    rw [length_view] at hl
    apply ext_getD
    · rw [length_doneV]; exact hl
    · intro n hn
      rw [hl] at hn
      rw [hg n hn, doneV, view_getD, if_pos hn, view_getD, if_pos hn]; rfl
/-- pages put one behind the other -/
def putsV (V : List Bts) (l : PgL) : List Bts := l.foldl (fun V p => putV V p.1.toNat p.2) V
theorem putsV_ok : ∀ (l : PgL) (V : List Bts) (c : Nat), Rises l → KeysLt l c → V.length ≤ c → (∀ n : Nat, (putsV V l).getD n zpage = (pfind l (n : Int)).getD (V.getD n zpage)) ∧ (putsV V l).length ≤ c ∧ V.length ≤ (putsV V l).length ∧ ∀ p ∈ l, p.1.toNat + 1 ≤ (putsV V l).length
  | [], V, c, _, _, hv => ⟨fun _ => rfl, hv, Nat.le_refl _, fun p hp => by simp at hp⟩
  | p :: r, V, c, hr, hk, hv => by
    have hr' := List.pairwise_cons.1 hr
    have hp := hk p (by simp)
    obtain ⟨h1, h2, h3, h4⟩ := putsV_ok r (putV V p.1.toNat p.2) c hr'.2 (fun q hq => hk q (List.mem_cons_of_mem _ hq)) (by rw [length_putV]; omega)
    have e0 : putsV V (p :: r) = putsV (putV V p.1.toNat p.2) r := rfl
    rw [e0]
    rw [length_putV] at h3
    refine ⟨fun n => ?_, h2, by omega, fun q hq => ?_⟩
    · rw [h1 n, putV_getD, pfind_cons]
      by_cases e : n = p.1.toNat
      · have e2 : p.1 = (n : Int) := by omega
        have hn : pfind r (n : Int) = none := pfind_none_of fun q hq => by have := hr'.1 q hq; omega
        rw [hn, if_pos e, if_pos e2]; rfl
      · have e2 : ¬ p.1 = (n : Int) := by omega
        rw [if_neg e, if_neg e2]
    · rcases List.mem_cons.1 hq with rfl | hq
      · omega
      · exact h4 q hq
theorem putsV_view (V : List Bts) (l : PgL) (c : Nat) (ht : Tops V.length l c) (hr : Rises l) : putsV V l = view V l c := by
  obtain ⟨h1, h2, h3, h4⟩ := putsV_ok l V c hr ht.lt ht.le
  have hl : (putsV V l).length = c := by
    by_cases e : V.length < c
    · have := ht.top e
      cases e2 : pfind l ((c : Int) - 1) with
      | none => rw [e2] at this; cases this
      | some x => have := h4 _ (pfind_mem e2); simp at this; omega
    · have := ht.le; omega
  apply ext_getD
  · rw [length_view]; exact hl
  · intro n hn
    rw [h1 n, view_getD, if_pos (by omega)]
def wrB (b : Bts) (l : PgL) : Bts := l.foldl (fun b p => writeSeen b (p.1.toNat * 512) p.2) b
theorem wrB_flat : ∀ (l : PgL) (V : List Bts), Pgs V → Full l → wrB V.flatten l = (putsV V l).flatten ∧ Pgs (putsV V l)
  | [], V, h, _ => ⟨rfl, h⟩
  | p :: r, V, h, hf => by
    have hp := hf p (by simp)
    have := wrB_flat r (putV V p.1.toNat p.2) (h.putV _ _ hp) (fun q hq => hf q (List.mem_cons_of_mem _ hq))
    refine ⟨?_, this.2⟩
    rw [show putsV V (p :: r) = putsV (putV V p.1.toNat p.2) r from rfl, ← this.1, ← writeSeen_flat h _ _ hp]
    rfl
end Go.Proofs.YtamhjjagjjdmoaaGreat
end

section
namespace Go.Proofs.YtamhjjagjjdmoaaGreat
open Go.RowKit Go.Maps

/-! ### rising lists stay rising -/
theorem rises_pins (k : Int) (x : Bts) : ∀ l : PgL, Rises l → (∀ p ∈ l, p.1 ≠ k) → Rises (pins (k, x) l)
  | [], _, _ => by simp [pins, Rises]
  | y :: r, h, hn => by
    have h' := List.pairwise_cons.1 h
    simp only [pins]
    have hy := hn y (by simp)
    split
    · next hlt => exact List.pairwise_cons.2 ⟨fun p hp => by
        rcases List.mem_cons.1 hp with rfl | hp
        · exact hlt
        · exact Int.lt_trans hlt (h'.1 p hp), h⟩
    · next hlt =>
      refine List.pairwise_cons.2 ⟨fun p hp => ?_, rises_pins k x r h'.2 fun p hp => hn p (List.mem_cons_of_mem _ hp)⟩
      rcases mem_pins _ _ _ hp with rfl | hp
      · simp only at hlt ⊢; omega
      · exact h'.1 p hp
theorem rises_pput {l : PgL} (h : Rises l) (k : Int) (x : Bts) : Rises (pput l k x) :=
  rises_pins k x _ (List.Pairwise.filter _ h) fun p hp => by simp [pdel] at hp; exact hp.2
theorem rises_pover : ∀ (l o : PgL), Rises o → Rises (pover o l)
  | [], _, h => h
  | p :: r, o, h => rises_pover r (pput o p.1 p.2) (rises_pput h _ _)
theorem rises_overlay (L : LogL) : Rises (overlay L) := by
  refine snoc_ind (P := fun L => Rises (overlay L)) ?_ (fun L c l ih => ?_) L.length L rfl
  · exact .nil
  · rw [overlay_snoc]; exact rises_pover l _ ih
theorem Full.pput {l : PgL} (h : Full l) (k : Int) {x : Bts} (hx : x.length = 512) : Full (pput l k x) := fun p hp => by
  rcases mem_pput hp with rfl | hp
  · exact hx
  · exact h p hp
theorem KeysLt.pput {l : PgL} {c : Nat} (h : KeysLt l c) (k : Nat) (x : Bts) (hk : k < c) : KeysLt (pput l (k : Int) x) c := fun p hp => by
  rcases mem_pput hp with rfl | hp
  · simp only; omega
  · exact h p hp
theorem pgOk_of {l : PgL} {c : Nat} (hr : Rises l) (hf : Full l) (hk : KeysLt l c) (hc : c ≤ 4096) : PgOk l := by
  refine ⟨?_, fun p hp => ⟨(hk p hp).1, by have := (hk p hp).2; omega, hf p hp⟩⟩
  have := pair_len 4096 l 0 hr fun p hp => ⟨(hk p hp).1, by have := (hk p hp).2; omega⟩
  omega

/-! ### a disk of a base, a journal, a log, without troubles -/
inductive F3 where
  | b | j | l
deriving DecidableEq
def F3.nm : F3 → Bts
  | .b => baseN
  | .j => journalN
  | .l => logN
abbrev D3 := F3 → Option FileM
def D3.names (d : D3) : List Bts := (if (d .b).isSome then [baseN] else []) ++ (if (d .j).isSome then [journalN] else []) ++ (if (d .l).isSome then [logN] else [])
structure Rep (M : DiskM) (d : D3) : Prop where
  off : M.off = false
  tr : M.tr = []
  names : M.names = D3.names d
  file : ∀ i f, d i = some f → M.file i.nm = f
theorem F3.nm_inj {i k : F3} (h : i ≠ k) : i.nm ≠ k.nm := by
  cases i <;> cases k <;> first | exact absurd rfl h | decide
theorem D3.mem (d : D3) (i : F3) : i.nm ∈ D3.names d ↔ (d i).isSome = true := by
  have e1 : baseN ≠ journalN := by decide
  have e2 : baseN ≠ logN := by decide
  have e3 : journalN ≠ logN := by decide
  unfold D3.names
  cases hb : (d .b).isSome <;> cases hj : (d .j).isSome <;> cases hl : (d .l).isSome <;> cases i <;> simp [F3.nm, hb, hj, hl, e1, e2, e3, e1.symm, e2.symm, e3.symm]
theorem D3.len (d : D3) : (D3.names d).length ≤ 3 := by
  unfold D3.names
  cases (d .b).isSome <;> cases (d .j).isSome <;> cases (d .l).isSome <;> simp
theorem D3.ins (d : D3) (i : F3) (f : FileM) (h : d i = none) : nins i.nm (D3.names d) = D3.names (upd d i (some f)) := by
  unfold D3.names
  cases i <;> simp only [upd, h, F3.nm, reduceCtorEq, if_true, if_false, Option.isSome_some, Option.isSome_none, Bool.false_eq_true, List.nil_append, List.append_nil]
  · cases (d .j).isSome <;> cases (d .l).isSome <;> decide
  · cases (d .b).isSome <;> cases (d .l).isSome <;> decide
  · cases (d .b).isSome <;> cases (d .j).isSome <;> decide
theorem D3.same (d : D3) (i : F3) (f : FileM) (h : (d i).isSome = true) : D3.names (upd d i (some f)) = D3.names d := by
  unfold D3.names
  cases i <;> simp [upd, h]
theorem D3.rm (d : D3) (i : F3) : (D3.names d).filter (fun m => m != i.nm) = D3.names (upd d i none) := by
  unfold D3.names
  cases i <;> simp only [upd, F3.nm, reduceCtorEq, if_true, if_false, Option.isSome_none, Bool.false_eq_true, List.nil_append, List.append_nil]
  · cases (d .b).isSome <;> cases (d .j).isSome <;> cases (d .l).isSome <;> decide
  · cases (d .b).isSome <;> cases (d .j).isSome <;> cases (d .l).isSome <;> decide
  · cases (d .b).isSome <;> cases (d .j).isSome <;> cases (d .l).isSome <;> decide
def D3.seen (d : D3) (i : F3) : Bts := match d i with | some f => f.seen | none => []
def D3.safe (d : D3) (i : F3) : Bts := match d i with | some f => f.safe | none => []

section
variable {M : DiskM} {d : D3}
theorem Rep.tick (h : Rep M d) : Rep M.tick d := ⟨h.off, h.tr, h.names, h.file⟩
theorem Rep.stroke (h : Rep M d) (x : Int × DiskM) (safe : DiskM → DiskM) (hx : x.1 = 0) : strokeAll M x safe = (0, safe x.2) := by
  have ht : M.trouble M.tick.strokes = 0 := by simp [DiskM.trouble, h.tr, mfind]
  unfold strokeAll
  simp [h.off, ht, hx]
theorem Rep.set (h : Rep M d) (i : F3) (f : FileM) (hi : (d i).isSome = true) : Rep (M.set i.nm f) (upd d i (some f)) where
  off := h.off
  tr := h.tr
  names := by rw [D3.same d i f hi]; exact h.names
  file k g hk := by
    unfold DiskM.set
    by_cases e : k = i
    · subst e
      rw [upd_same] at hk
      injection hk with hk
      exact (upd_same _ _ _).trans hk
    · rw [upd_other _ _ e] at hk
      simp only [upd_other _ _ (F3.nm_inj e)]
      exact h.file k g hk
theorem Rep.new (h : Rep M d) (i : F3) (hi : d i = none) : Rep (M.new i.nm) (upd d i (some ⟨[], []⟩)) where
  off := h.off
  tr := h.tr
  names := by rw [← D3.ins d i ⟨[], []⟩ hi, ← h.names]; rfl
  file k g hk := by
    unfold DiskM.new
    by_cases e : k = i
    · subst e
      rw [upd_same] at hk
      injection hk with hk
      exact (upd_same _ _ _).trans hk
    · rw [upd_other _ _ e] at hk
      simp only [upd_other _ _ (F3.nm_inj e)]
      exact h.file k g hk
theorem upd_upd {α β : Type} [DecidableEq α] (f : α → β) (a : α) (b c : β) : upd (upd f a b) a c = upd f a c := by
  funext x; simp only [upd]; split <;> rfl
theorem Rep.write (h : Rep M d) (i : F3) (at_ : Nat) (b : Bts) (hb : 0 < b.length) (hl : at_ + b.length ≤ 4194304) :
    ∃ M', writeM M i.nm at_ b = (0, M') ∧ Rep M' (upd d i (some ⟨D3.safe d i, writeSeen (D3.seen d i) at_ b⟩)) := by
  have ht := h.tick
  unfold writeM
  rw [if_pos ⟨hl, hb⟩]
  unfold writeDo
  cases hd : d i with
  | none =>
    have hn : i.nm ∉ M.tick.names := fun e => by rw [ht.names, D3.mem, hd] at e; cases e
    have hc : ¬ M.tick.names.length = 16 := by rw [ht.names]; have := D3.len d; omega
    rw [if_neg hn, if_neg hc, h.stroke _ _ rfl]
    refine ⟨_, rfl, ?_⟩
    have h1 := ht.new i hd
    have h2 := h1.file i ⟨[], []⟩ (upd_same _ _ _)
    have h3 := h1.set i ⟨[], writeSeen [] at_ b⟩ (by rw [upd_same]; rfl)
    rw [upd_upd] at h3
    simp only [D3.safe, D3.seen, hd]
    have e : ((M.tick.new i.nm).file i.nm) = ⟨[], []⟩ := h2
    simp only [e, id]
    exact h3
  | some f =>
    have hn : i.nm ∈ M.tick.names := by rw [ht.names, D3.mem, hd]; rfl
    rw [if_pos hn, h.stroke _ _ rfl]
    refine ⟨_, rfl, ?_⟩
    have e : M.tick.file i.nm = f := ht.file i f hd
    simp only [e, id, D3.safe, D3.seen, hd]
    exact ht.set i _ (by rw [hd]; rfl)
theorem Rep.sync (h : Rep M d) (i : F3) (f : FileM) (hi : d i = some f) : ∃ M', syncM M i.nm = (0, M') ∧ Rep M' (upd d i (some ⟨f.seen, f.seen⟩)) := by
  have ht := h.tick
  have hn : i.nm ∈ M.names := by rw [h.names, D3.mem, hi]; rfl
  unfold syncM
  rw [h.stroke _ _ (by simp [thereM, hn])]
  refine ⟨_, rfl, ?_⟩
  have e : M.tick.file i.nm = f := ht.file i f hi
  simp only [syncSafe, e]
  exact ht.set i _ (by rw [hi]; rfl)
theorem Rep.delete (h : Rep M d) (i : F3) (hi : (d i).isSome = true) : ∃ M', deleteM M i.nm = (0, M') ∧ Rep M' (upd d i none) := by
  have ht := h.tick
  have hn : i.nm ∈ M.names := by rw [h.names, D3.mem, hi]
  unfold deleteM
  rw [h.stroke _ _ (by simp [thereM, hn])]
  refine ⟨_, rfl, ht.off, ht.tr, ?_, fun k g hk => ?_⟩
  · rw [← D3.rm d i, ← ht.names]; rfl
  · by_cases e : k = i
    · subst e; rw [upd_same] at hk; cases hk
    · rw [upd_other _ _ e] at hk
      exact ht.file k g hk
theorem Rep.lay (h : Rep M d) (i : F3) (at_ : Nat) (b : Bts) (hb : 0 < b.length) (hl : at_ + b.length ≤ 4194304) (s : Bts) (hs : writeSeen (writeSeen (D3.seen d i) at_ b) at_ [1] = s) :
    ∃ M', layM M i.nm at_ b = (0, M') ∧ Rep M' (upd d i (some ⟨s, s⟩)) := by
  obtain ⟨M1, e1, r1⟩ := h.write i at_ b hb hl
  obtain ⟨M2, e2, r2⟩ := r1.sync i _ (upd_same _ _ _)
  rw [upd_upd] at r2
  obtain ⟨M3, e3, r3⟩ := r2.write i at_ [1] (by simp) (by simp; omega)
  simp only [D3.safe, D3.seen, upd_same, upd_upd] at r3
  obtain ⟨M4, e4, r4⟩ := r3.sync i _ (upd_same _ _ _)
  simp only [upd_upd] at r4
  refine ⟨M4, ?_, ?_⟩
  · simp [layM, layLeft, layStep, e1, e2, e3, e4]
  · rw [← hs]; exact r4
theorem Rep.goes : ∀ (l : PgL), (∀ p ∈ l, 0 ≤ p.1 ∧ p.1 < 4096 ∧ p.2.length = 512) → l ≠ [] → ∀ {M : DiskM} {d : D3}, Rep M d → ∃ M' s, writesGo M l = (0, M') ∧ Rep M' (upd d .b (some ⟨s, wrB (D3.seen d .b) l⟩))
  | [], _, hne, _, _, _ => absurd rfl hne
  | p :: r, hl, _, M, d, h => by
    have hp := hl p (by simp)
    obtain ⟨M1, e1, r1⟩ := h.write .b (p.1.toNat * 512) p.2 (by omega) (by omega)
    have e1' : writeM M baseN (p.1.toNat * 512) p.2 = (0, M1) := e1
    by_cases hr : r = []
    · subst hr
      refine ⟨M1, _, ?_, r1⟩
      simp [writesGo, e1']
    · obtain ⟨M2, s, e2, r2⟩ := Rep.goes r (fun q hq => hl q (List.mem_cons_of_mem _ hq)) hr r1
      refine ⟨M2, s, ?_, ?_⟩
      · simp [writesGo, e1', e2]
      · simp only [D3.seen, upd_same, upd_upd] at r2
        exact r2
theorem Rep.writes (h : Rep M d) (l : PgL) (hl : ∀ p ∈ l, 0 ≤ p.1 ∧ p.1 < 4096 ∧ p.2.length = 512) (hne : l ≠ []) : ∃ M', writesM M l = (0, M') ∧ Rep M' (upd d .b (some ⟨wrB (D3.seen d .b) l, wrB (D3.seen d .b) l⟩)) := by
  obtain ⟨M1, s, e1, r1⟩ := Rep.goes l hl hne h
  obtain ⟨M2, e2, r2⟩ := r1.sync .b _ (upd_same _ _ _)
  simp only [upd_upd] at r2
  refine ⟨M2, ?_, r2⟩
  have e2' : syncM M1 baseN = (0, M2) := e2
  simp [writesM, e1, hne, e2']
theorem Rep.writes_nil (M : DiskM) : writesM M [] = (0, M) := by simp [writesM, writesGo]
end
theorem splice_one (s r : Bts) (y x : UInt8) : splice (s ++ y :: r) s.length [x] = s ++ x :: r := by
  unfold splice
  rw [List.take_left' rfl]
  congr 1
  have : (s ++ y :: r).drop (s.length + [x].length) = r := by
    rw [show s ++ y :: r = (s ++ [y]) ++ r by simp]
    exact List.drop_left' (by simp)
  rw [this]; rfl
theorem writeSeen_end (s x : Bts) : writeSeen s s.length x = s ++ x := by
  unfold writeSeen longerM splice
  rw [Nat.add_sub_cancel_left, List.take_left' rfl, List.drop_of_length_le (by simp)]
  simp
theorem writeSeen_one (s r : Bts) (y x : UInt8) : writeSeen (s ++ y :: r) s.length [x] = s ++ x :: r := by
  unfold writeSeen longerM
  have : s.length + [x].length - (s ++ y :: r).length = 0 := by
    rw [List.length_append, List.length_cons, List.length_cons, List.length_nil]; omega
  rw [this, List.replicate_zero, List.append_nil]
  exact splice_one s r y x
theorem lay_seen (s : Bts) (c : Nat) (l : PgL) : writeSeen (writeSeen s s.length (blockM c l)) s.length [1] = s ++ blockOn c l := by
  have e2 : blockM c l = 0 :: (bytes4 c ++ (bytes4 l.length ++ l.flatMap pgBytes)) := by simp [blockM]
  rw [writeSeen_end, e2, writeSeen_one]
  rfl

/-! ### the store: committed pages on a disk -/
structure Store (M : DiskM) (V : List Bts) (L : LogL) : Prop where
  rep : ∃ d, Rep M d ∧ d .j = none ∧ ((d .b = none ∧ V = []) ∨ d .b = some ⟨V.flatten, V.flatten⟩) ∧ ((d .l = none ∧ L = []) ∨ d .l = some ⟨blocksOn L, blocksOn L⟩)
  pgs : Pgs V
  wf : wfFrom V.length L
  cnt : cntFrom V.length L ≤ 4096
theorem cntFrom_le : ∀ (L : LogL) (v : Nat), wfFrom v L → v ≤ cntFrom v L
  | [], _, _ => Nat.le_refl _
  | (c, _) :: r, _, h => Nat.le_trans h.1.le (cntFrom_le r c h.2.2.2)
theorem wf_logOk : ∀ (L : LogL) (v : Nat), wfFrom v L → cntFrom v L ≤ 4096 → LogOk L
  | [], _, _, _ => fun p hp => by simp at hp
  | (c, l) :: r, v, h, hc => fun p hp => by
    have h1 := cntFrom_le r c h.2.2.2
    have hc' : cntFrom c r ≤ 4096 := hc
    rcases List.mem_cons.1 hp with rfl | hp
    · exact ⟨by simp only; omega, pgOk_of h.2.1 h.2.2.1 h.1.lt (by omega), h.2.1⟩
    · exact wf_logOk r c h.2.2.2 hc' p hp
section
variable {M : DiskM} {V : List Bts} {L : LogL}
theorem Store.off (h : Store M V L) : M.off = false := by obtain ⟨⟨d, r, _⟩, _⟩ := h; exact r.off
theorem Store.nj (h : Store M V L) : journalN ∉ M.names := by
  obtain ⟨⟨d, r, hj, _⟩, _⟩ := h
  intro e
  rw [r.names] at e
  have := (D3.mem d .j).1 e
  rw [hj] at this; cases this
theorem Store.base (h : Store M V L) : BaseIs M V.flatten := by
  obtain ⟨⟨d, r, hj, hb, hl⟩, _⟩ := h
  rcases hb with ⟨hb, rfl⟩ | hb
  · exact .inl ⟨(fun e => by
      rw [r.names] at e
      have := (D3.mem d .b).1 e
      rw [hb] at this
      exact Bool.noConfusion this), rfl⟩
  · exact .inr ⟨by rw [r.names]; exact (D3.mem d .b).2 (by rw [hb]; rfl), by
      have := r.file .b _ hb
      simp only [F3.nm] at this
      rw [this]⟩
theorem Store.log (h : Store M V L) : LogIs M L := by
  obtain ⟨⟨d, r, hj, hb, hl⟩, _⟩ := h
  rcases hl with ⟨hl, rfl⟩ | hl
  · exact .inl ⟨(fun e => by
      rw [r.names] at e
      have := (D3.mem d .l).1 e
      rw [hl] at this
      exact Bool.noConfusion this), rfl⟩
  · exact .inr ⟨by rw [r.names]; exact (D3.mem d .l).2 (by rw [hl]; rfl), by
      have := r.file .l _ hl
      simp only [F3.nm] at this
      rw [this]⟩
theorem Store.logOk (h : Store M V L) : LogOk L := wf_logOk L _ h.wf h.cnt
theorem Store.vlen (h : Store M V L) : V.length ≤ 4096 := Nat.le_trans (cntFrom_le L _ h.wf) h.cnt
theorem Store.b5 (h : Store M V L) : V.flatten.length % 512 = 0 := by rw [length_flat512 h.pgs]; omega
theorem Store.b2 (h : Store M V L) : V.flatten.length ≤ 2097152 := by rw [length_flat512 h.pgs]; have := h.vlen; omega
theorem Store.tr (h : Store M V L) : M.tr = [] := by obtain ⟨⟨d, r, _⟩, _⟩ := h; exact r.tr
theorem Store.comm (h : Store M V L) : commB V.flatten L = (doneV V L).flatten := (commB_flat h.pgs L h.wf (rises_overlay L)).1
theorem Store.dpgs (h : Store M V L) : Pgs (doneV V L) := (commB_flat h.pgs L h.wf (rises_overlay L)).2
theorem Store.dlen (h : Store M V L) : (doneV V L).length ≤ 4096 := by rw [length_doneV]; exact h.cnt
theorem Store.dflat (h : Store M V L) : (doneV V L).flatten.length = (doneV V L).length * 512 := length_flat512 h.dpgs

theorem Store.sync (h : Store M V L) (hL : L ≠ []) : ∃ M', syncM M logN = (0, M') ∧ Store M' V L := by
  obtain ⟨⟨d, r, hj, hb, hl⟩, h1, h2, h3⟩ := h
  rcases hl with ⟨_, e⟩ | hl
  · exact absurd e hL
  · obtain ⟨M', e, r'⟩ := r.sync .l _ hl
    exact ⟨M', e, ⟨_, r', by rw [upd_other _ _ (by decide)]; exact hj, by rw [upd_other _ _ (by decide)]; exact hb, .inr (upd_same _ _ _)⟩, h1, h2, h3⟩
theorem Store.fold (h : Store M V L) (s : Int) : ∃ M' s', foldM M L s = (0, M', s') ∧ Store M' (doneV V L) [] := by
  have hd := h.dpgs
  have hdl := h.dlen
  have hlog := h.log
  obtain ⟨⟨d, r, hj, hb, hl⟩, h1, h2, h3⟩ := h
  obtain ⟨ht, hf⟩ := wf_overlay V.length L h2
  have fin : ∀ {M' : DiskM} {d' : D3}, Rep M' d' → d' .j = none → ((d' .b = none ∧ doneV V L = []) ∨ d' .b = some ⟨(doneV V L).flatten, (doneV V L).flatten⟩) → d' .l = none → Store M' (doneV V L) [] := fun r' k1 k2 k3 =>
    ⟨⟨_, r', k1, k2, .inl ⟨k3, rfl⟩⟩, hd, True.intro, hdl⟩
  rcases hl with ⟨hl, rfl⟩ | hl
  · refine ⟨M, s, ?_, ?_⟩
    · have : logN ∉ M.names := fun e => by
        rw [r.names] at e
        have := (D3.mem d .l).1 e
        rw [hl] at this; cases this
      simp [foldM, this]
    · exact fin r hj (by rw [doneV_nil]; exact hb) hl
  · have hn : logN ∈ M.names := by rw [r.names]; exact (D3.mem d .l).2 (by rw [hl]; rfl)
    by_cases ho : overlay L = []
    · obtain ⟨M2, e2, r2⟩ := r.delete .l (by rw [hl]; rfl)
      have e2' : deleteM M logN = (0, M2) := e2
      refine ⟨M2, -1, ?_, ?_⟩
      · simp [foldM, hn, ho, Rep.writes_nil, e2']
      · have hc : cntFrom V.length L = V.length := by
          by_cases hlt : V.length < cntFrom V.length L
          · have := ht.top hlt
            rw [ho] at this; simp [pfind] at this
          · have := ht.le; omega
        have hdV : doneV V L = V := by unfold doneV; rw [ho, hc]; exact view_nil V
        rw [hdV] at fin ⊢
        exact fin r2 (by rw [upd_other _ _ (by decide)]; exact hj) (by rw [upd_other _ _ (by decide)]; exact hb) (upd_same _ _ _)
    · obtain ⟨M1, e1, r1⟩ := r.writes (overlay L) (fun p hp => ⟨(ht.lt p hp).1, by have := (ht.lt p hp).2; omega, hf p hp⟩) ho
      obtain ⟨M2, e2, r2⟩ := r1.delete .l (by rw [upd_other _ _ (by decide), hl]; rfl)
      have e2' : deleteM M1 logN = (0, M2) := e2
      refine ⟨M2, -1, ?_, ?_⟩
      · simp [foldM, hn, e1, e2']
      · refine fin r2 (by rw [upd_other _ _ (by decide), upd_other _ _ (by decide)]; exact hj) (.inr ?_) (upd_same _ _ _)
        rw [upd_other _ _ (by decide), upd_same]
        have hs : D3.seen d .b = V.flatten := by
          rcases hb with ⟨hb, rfl⟩ | hb
          · simp [D3.seen, hb]
          · simp [D3.seen, hb]
        have hw : wrB (D3.seen d .b) (overlay L) = (doneV V L).flatten := by
          rw [hs, (wrB_flat (overlay L) V h1 hf).1, putsV_view V _ _ ht (rises_overlay L)]; rfl
        rw [hw]
theorem length_blockM (c : Nat) (l : PgL) (hf : Full l) : (blockM c l).length = 9 + l.length * 516 := by
  have : (l.flatMap pgBytes).length = l.length * 516 := by
    clear c
    induction l with
    | nil => rfl
    | cons p r ih =>
      have := ih fun q hq => hf q (List.mem_cons_of_mem _ hq)
      have hp := hf p (by simp)
      simp [pgBytes, bytes4, hp, this]; omega
  simp [blockM, bytes4, this]; omega
/-- one more block of the log -/
theorem Store.byLog (h : Store M V L) (c : Nat) (l : PgL) (ht : Tops (doneV V L).length l c) (hr : Rises l) (hf : Full l) (hc : c ≤ 4096) (hlen : (blocksOn L).length + (blockM c l).length ≤ 4194304) :
    ∃ M', layM M logN (blocksOn L).length (blockM c l) = (0, M') ∧ Store M' V (L ++ [(c, l)]) ∧ doneV V (L ++ [(c, l)]) = view (doneV V L) l c := by
  obtain ⟨⟨d, r, hj, hb, hl⟩, h1, h2, h3⟩ := h
  rw [length_doneV] at ht
  have hw := (wfFrom_snoc L V.length c l).2 ⟨h2, ht, hr, hf⟩
  have hs : D3.seen d .l = blocksOn L := by
    rcases hl with ⟨hl, rfl⟩ | hl
    · simp [D3.seen, hl, blocksOn]
    · simp [D3.seen, hl]
  obtain ⟨M', e, r'⟩ := r.lay .l (blocksOn L).length (blockM c l) (by simp [blockM]) hlen (blocksOn L ++ blockOn c l) (by rw [hs]; exact lay_seen _ _ _)
  refine ⟨M', e, ⟨⟨_, r', by rw [upd_other _ _ (by decide)]; exact hj, by rw [upd_other _ _ (by decide)]; exact hb, .inr ?_⟩, h1, hw, by rw [cntFrom_snoc]; exact hc⟩, doneV_snoc V L c l hw⟩
  rw [upd_same]
  simp [blocksOn]
/-- a commit by a journal -/
theorem Store.byJournal (h : Store M V []) (n : Nat) (old : PgL) (ho : Full old) (hol : old.length ≤ 4096) (c : Nat) (l : PgL) (ht : Tops V.length l c) (hr : Rises l) (hf : Full l) (hc : c ≤ 4096) (hl0 : l ≠ []) :
    ∃ M1 M2 M3, layM M journalN 0 (blockM n old) = (0, M1) ∧ writesM M1 l = (0, M2) ∧ deleteM M2 journalN = (0, M3) ∧ Store M3 (view V l c) [] := by
  obtain ⟨⟨d, r, hj, hb, hl⟩, h1, h2, h3⟩ := h
  have hlen := length_blockM n old ho
  obtain ⟨M1, e1, r1⟩ := r.lay .j 0 (blockM n old) (by simp [blockM]) (by omega) (blockOn n old) (by
    have : D3.seen d .j = [] := by simp [D3.seen, hj]
    rw [this]; exact lay_seen [] n old)
  obtain ⟨M2, e2, r2⟩ := r1.writes l (fun p hp => ⟨(ht.lt p hp).1, by have := (ht.lt p hp).2; omega, hf p hp⟩) hl0
  obtain ⟨M3, e3, r3⟩ := r2.delete .j (by rw [upd_other _ _ (by decide), upd_same]; rfl)
  refine ⟨M1, M2, M3, e1, e2, e3, ⟨_, r3, upd_same _ _ _, .inr ?_, ?_⟩, h1.view hf c, True.intro, ?_⟩
  · rw [upd_other _ _ (by decide), upd_same]
    have hs : D3.seen (upd d .j (some ⟨blockOn n old, blockOn n old⟩)) .b = V.flatten := by
      have : upd d F3.j (some ⟨blockOn n old, blockOn n old⟩) .b = d .b := upd_other _ _ (by decide)
      simp only [D3.seen, this]
      rcases hb with ⟨hb, rfl⟩ | hb
      · simp [hb]
      · simp [hb]
    rw [hs, (wrB_flat l V h1 hf).1, putsV_view V l c ht hr]
  · rw [upd_other _ _ (by decide), upd_other _ _ (by decide), upd_other _ _ (by decide)]
    exact hl
  · simp only [cntFrom, length_view]; exact hc
end

/-! ### what is new -/
def newsL (W : List Bts) (own : PgL) : PgL := own.filter fun p => decide ((W.length : Int) ≤ p.1) || p.2 != W.getD p.1.toNat zpage
theorem pfind_filter (f : Int × Bts → Bool) : ∀ (l : PgL) (m : Int), Rises l → pfind (l.filter f) m = match pfind l m with | some x => if f (m, x) then some x else none | none => none
  | [], _, _ => rfl
  | p :: r, m, h => by
    have h' := List.pairwise_cons.1 h
    have ih := pfind_filter f r m h'.2
    rw [pfind_cons, List.filter_cons]
    by_cases e : p.1 = m
    · have hn : pfind r m = none := pfind_none_of fun q hq => by have := h'.1 q hq; omega
      subst e
      cases hf : f p
      · have hf' : f (p.1, p.2) = false := hf
        simp [hf', ih, hn]
      · have hf' : f (p.1, p.2) = true := hf
        simp [hf', pfind_cons]
    · cases hf : f p
      · simp [e, ih]
      · simp [e, pfind_cons, ih]
theorem view_news (W : List Bts) (own : PgL) (c : Nat) (hr : Rises own) : view W (newsL W own) c = view W own c := by
  apply ext_getD
  · rw [length_view, length_view]
  · intro n hn
    rw [length_view] at hn
    rw [view_getD, if_pos hn, view_getD, if_pos hn, newsL, pfind_filter _ _ _ hr]
    cases e : pfind own (n : Int) with
    | none => rfl
    | some x =>
      simp only
      by_cases hx : x = W.getD n zpage
      · split
        · rfl
        · simp [hx]
      · have hf : (decide ((W.length : Int) ≤ (n : Int)) || x != W.getD n zpage) = true := by
          have : (x != W.getD n zpage) = true := by simpa using hx
          rw [this]; simp
        simp only [Int.toNat_natCast, hf, if_true]
theorem tops_news {W : List Bts} {own : PgL} {c : Nat} (h : Tops W.length own c) (hr : Rises own) : Tops W.length (newsL W own) c := by
  refine ⟨fun p hp => h.lt p (List.mem_filter.1 hp).1, h.le, fun hlt => ?_⟩
  have := h.top hlt
  rw [newsL, pfind_filter _ _ _ hr]
  cases e : pfind own ((c : Int) - 1) with
  | none => rw [e] at this; cases this
  | some x =>
    have : (W.length : Int) ≤ (c : Int) - 1 := by omega
    simp [this]
theorem news_nil {W : List Bts} {own : PgL} {c : Nat} (h : Tops W.length own c) (hr : Rises own) (hn : newsL W own = []) : view W own c = W := by
  have h1 := tops_news h hr
  rw [← view_news W own c hr, hn]
  have hc : c = W.length := by
    by_cases hlt : W.length < c
    · have := h1.top hlt
      rw [hn] at this; simp [pfind] at this
    · have := h.le; omega
  rw [hc]; exact view_nil W
/-! ### rising lists are told by what is found in them -/
theorem rises_ext : ∀ (a b : PgL), Rises a → Rises b → (∀ m, pfind a m = pfind b m) → a = b
  | [], [], _, _, _ => rfl
  | [], q :: b, _, _, h => by have := h q.1; rw [pfind_cons, if_pos rfl] at this; cases this
  | p :: a, [], _, _, h => by have := h p.1; rw [pfind_cons, if_pos rfl] at this; cases this
  | p :: a, q :: b, ha, hb, h => by
    have ha' := List.pairwise_cons.1 ha
    have hb' := List.pairwise_cons.1 hb
    have hpq : p.1 = q.1 := by
      by_cases hlt : p.1 < q.1
      · have := h p.1
        rw [pfind_cons, if_pos rfl, pfind_cons, if_neg (by omega), pfind_none_of (l := b) (fun r hr => by have := hb'.1 r hr; omega)] at this
        cases this
      · by_cases hgt : q.1 < p.1
        · have := h q.1
          rw [pfind_cons, if_neg (by omega), pfind_none_of (l := a) (fun r hr => by have := ha'.1 r hr; omega), pfind_cons, if_pos rfl] at this
          cases this
        · omega
    have h2 : p.2 = q.2 := by
      have := h p.1
      rw [pfind_cons, if_pos rfl, pfind_cons, if_pos hpq.symm] at this
      injection this
    have ht : a = b := rises_ext a b ha'.2 hb'.2 fun m => by
      by_cases e : p.1 = m
      · rw [pfind_none_of (l := a) (fun r hr => by have := ha'.1 r hr; omega), pfind_none_of (l := b) (fun r hr => by have := hb'.1 r hr; omega)]
      · have := h m
        rw [pfind_cons, if_neg e, pfind_cons, if_neg (by omega)] at this
        exact this
    rw [ht]
    congr 1
    exact Prod.ext hpq h2
theorem Rises.filter {l : PgL} (h : Rises l) (f : Int × Bts → Bool) : Rises (l.filter f) := List.Pairwise.filter _ h
/-- what has come of a ranged map, and is kept -/
theorem kept_step (l : PgL) (hl : Rises l) (left : Int → Bool) (f : Int × Bts → Bool) (k : Int) (x : Bts) (hk : left k = true) (hx : pfind l k = some x) :
    l.filter (fun p => !(left p.1 && !(p.1 == k)) && f p) = if f (k, x) then pput (l.filter fun p => !left p.1 && f p) k x else l.filter fun p => !left p.1 && f p := by
  split
  · next hf =>
    apply rises_ext _ _ (hl.filter _) (rises_pput (hl.filter _) _ _)
    intro m
    rw [pfind_pput, pfind_filter _ _ _ hl, pfind_filter _ _ _ hl]
    by_cases e : m = k
    · subst e; rw [hx]; simp [hf]
    · cases pfind l m with
      | none => simp [e]
      | some y => simp [e]
  · next hf =>
    apply rises_ext _ _ (hl.filter _) (hl.filter _)
    intro m
    rw [pfind_filter _ _ _ hl, pfind_filter _ _ _ hl]
    by_cases e : m = k
    · subst e; rw [hx]; simp [hf, hk]
    · cases pfind l m with
      | none => rfl
      | some y => simp [e]
theorem kept_start (l : PgL) (f : Int × Bts → Bool) (left : Int → Bool) (h : ∀ p ∈ l, left p.1 = true) : l.filter (fun p => !left p.1 && f p) = [] := by
  rw [List.filter_eq_nil_iff]
  intro p hp
  simp [h p hp]
theorem kept_end (l : PgL) (f : Int × Bts → Bool) (left : Int → Bool) (h : ∀ k, left k = false) : l.filter (fun p => !left p.1 && f p) = l.filter f := by
  congr 1; funext p; simp [h p.1]
/-- the pages that stood where new ones come -/
def oldL (W : List Bts) (l : PgL) : PgL := (l.filter fun p => decide (p.1 < (W.length : Int))).map fun p => (p.1, W.getD p.1.toNat zpage)
theorem pfind_map (g : Int → Bts) : ∀ (l : PgL) (m : Int), pfind (l.map fun p => (p.1, g p.1)) m = (pfind l m).map fun _ => g m
  | [], _ => rfl
  | p :: r, m => by
    rw [List.map_cons, pfind_cons, pfind_cons, pfind_map g r m]
    by_cases e : p.1 = m
    · simp [e]
    · simp [e]
theorem rises_map (g : Int → Bts) {l : PgL} (h : Rises l) : Rises (l.map fun p => (p.1, g p.1)) := by
  unfold Rises; rw [List.pairwise_map]; exact h
theorem Full.oldL {W : List Bts} (h : Pgs W) (l : PgL) : Full (oldL W l) := fun p hp => by
  obtain ⟨q, _, rfl⟩ := List.mem_map.1 hp
  exact h.getD _
/-- keys that have come -/
theorem old_step (l : PgL) (hl : Rises l) (W : List Bts) (left : Int → Bool) (k : Int) (x : Bts) (hk : left k = true) (hx : pfind l k = some x) :
    oldL W (l.filter fun p => !(left p.1 && !(p.1 == k))) = if k < (W.length : Int) then pput (oldL W (l.filter fun p => !left p.1)) k (W.getD k.toNat zpage) else oldL W (l.filter fun p => !left p.1) := by
  have hR : ∀ f : Int × Bts → Bool, Rises (oldL W (l.filter f)) := fun f => rises_map (fun m => W.getD m.toNat zpage) ((hl.filter f).filter _)
  have hF : ∀ (f : Int × Bts → Bool) m, pfind (oldL W (l.filter f)) m = if m < (W.length : Int) then (match pfind l m with | some y => if f (m, y) then some (W.getD m.toNat zpage) else none | none => none) else none := fun f m => by
    refine (pfind_map (fun m : Int => W.getD m.toNat zpage) ((l.filter f).filter fun p => decide (p.1 < (W.length : Int))) m).trans ?_
    rw [pfind_filter _ _ _ (hl.filter f), pfind_filter _ _ _ hl]
    cases pfind l m with
    | none => simp
    | some y => by_cases h1 : f (m, y) = true <;> by_cases h2 : m < (W.length : Int) <;> simp [h1, h2]
  split
  · next h =>
    apply rises_ext _ _ (hR _) (rises_pput (hR _) _ _)
    intro m
    rw [pfind_pput, hF, hF]
    by_cases e : m = k
    · subst e; rw [hx]; simp [h]
    · simp [e]
  · next h =>
    apply rises_ext _ _ (hR _) (hR _)
    intro m
    rw [hF, hF]
    by_cases e : m = k
    · subst e; simp [h]
    · simp [e]
end Go.Proofs.YtamhjjagjjdmoaaGreat
end

section
namespace Go.Proofs.YtamhjjagjjdmoaaGreat
open Go.RowKit Go.Maps Go.Shelf Go.Sort

/-- what stands against a call within a transaction -/
def askM (P : PagerM) : Int := if P.dead then 9 else if P.inn then 0 else 11

set_option maxHeartbeats 1000000 in
set_option maxRecDepth 100000 in
theorem ask_any (w : World) (bp bd bl : Nat) (P : PagerM) (R : Nat → Nat) (hp : PagerW w bp bd bl P R) :
    Calls Tryz.prog 72 #[ptr bp] w fun e w' => e = .returned (I (askM P)) ∧ w' = w := by
  obtain ⟨vwas, vown, vmarks, mb, hp⟩ := hp
  have c4 : w.cell? ⟨bp, 4, none⟩ = some (.bool P.dead) := hp.blk.cell 4
  have c5 : w.cell? ⟨bp, 5, none⟩ = some (.bool P.inn) := hp.blk.cell 5
  clear hp
  unfold askM
  cases hd : P.dead
  · rw [hd] at c4
    cases hi : P.inn
    · rw [hi] at c5
      clear hd hi
      go_enter Tryz.func72, Tryz.ntmps72
      go_wp2_with fail
      go_ret
      exact ⟨rfl, rfl⟩
    · rw [hi] at c5
      clear hd hi
      go_enter Tryz.func72, Tryz.ntmps72
      go_wp2_with fail
      go_ret
      exact ⟨rfl, rfl⟩
  · rw [hd] at c4
    clear hd
    go_enter Tryz.func72, Tryz.ntmps72
    go_wp2_with fail
    go_ret
    exact ⟨rfl, rfl⟩

set_option maxHeartbeats 1000000 in
theorem pgood_any (w : World) (n : Int) (b : Bool) (hb : b = (decide (0 ≤ n) && decide (n < 4096))) : Calls Tryz.prog 73 #[I n] w fun e w' => e = .returned (.bool b) ∧ w' = w := by
  by_cases h1 : 0 ≤ n
  · by_cases h2 : n < 4096
    · obtain rfl : b = true := by rw [hb]; simp [h1, h2]
      clear hb
      go_enter Tryz.func73, Tryz.ntmps73
      go_wp2_with fail
      go_ret
      exact ⟨rfl, rfl⟩
    · obtain rfl : b = false := by rw [hb]; simp [h2]
      clear hb
      go_enter Tryz.func73, Tryz.ntmps73
      go_wp2_with fail
      go_ret
      exact ⟨rfl, rfl⟩
  · obtain rfl : b = false := by rw [hb]; simp [h1]
    clear hb
    go_enter Tryz.func73, Tryz.ntmps73
    go_wp2_with fail
    go_ret
    exact ⟨rfl, rfl⟩

set_option maxHeartbeats 1000000 in
theorem count_any (w : World) (bp bd bl : Nat) (P : PagerM) (R : Nat → Nat) (hp : PagerW w bp bd bl P R) :
    Calls Tryz.prog 28 #[ptr bp] w fun e w' => e = .returned (I P.count) ∧ w' = w := by
  obtain ⟨vwas, vown, vmarks, mb, hp⟩ := hp
  have c9 : w.cell? ⟨bp, 9, none⟩ = some (I P.count) := hp.blk.cell 9
  clear hp
  go_enter Tryz.func28, Tryz.ntmps28
  go_wp2_with fail
  go_ret
  exact ⟨rfl, rfl⟩

/-- the pager and the locks' table -/
def idleM (P : PagerM) : PagerM := { P with inn := false, wrote := false, was := [], own := none, count := 0, marks := [] }
/-- levels that may be -/
def LvOk (L : Nat → Int) : Prop := ∀ k, 0 ≤ L k ∧ L k ≤ 4
theorem PagerAt.idle {w : World} {bp bd bl : Nat} {P : PagerM} {R : Nat → Nat} {vwas vown vmarks : Value} {mb : List Nat} (h : PagerAt w bp bd bl P R vwas vown vmarks mb) {w' : World} (c : Chg (fun b => b = bp) w w')
    (hb : Blk w' bp 140 #[ptr bd, I P.mode, ptr bl, I P.c, .bool P.dead, .bool false, .bool false, .slice none 0 0, .map none, I 0, .slice none 0 0, I P.next, I P.sure]) : PagerAt w' bp bd bl (idleM P) R (.slice none 0 0) (.map none) (.slice none 0 0) [] :=
  ⟨hb, h.r1, .inl ⟨rfl, rfl⟩, fun g hg => by simp [Value.ownBlock] at hg, .inl ⟨rfl, rfl⟩, ⟨rfl, .inl ⟨rfl, rfl⟩⟩, fun g hg => by simp [Value.ownBlock] at hg, True.intro, fun b hb => Nat.lt_of_lt_of_le (h.lt b hb) c.size⟩

set_option maxHeartbeats 1000000 in
set_option maxRecDepth 100000 in
theorem end_any (w : World) (bp bd bl : Nat) (P : PagerM) (R : Nat → Nat) (hp : PagerW w bp bd bl P R) (L : Nat → Int) (hl : Blk w bl 135 (lvls L)) (hL : LvOk L) (hc : P.c < 4) (hbl : R bl = 0) :
    Calls Tryz.prog 78 #[ptr bp] w fun e w' => e = .returned (.tuple #[]) ∧ PagerW w' bp bd bl (idleM P) R ∧ Blk w' bl 135 (lvls (lowerM L P.c)) ∧ Chg (fun b => b = bp ∨ b = bl) w w' := by
  obtain ⟨vwas, vown, vmarks, mb, hp⟩ := hp
  have hne : bl ≠ bp := fun e => by rw [e, hp.r1] at hbl; cases hbl
  have c2 : w.cell? ⟨bp, 2, none⟩ = some (ptr bl) := hp.blk.cell 2
  have c3 : w.cell? ⟨bp, 3, none⟩ = some (I P.c) := hp.blk.cell 3
  have q5 : w.cell? ⟨bp, 5, none⟩ = some (.bool P.inn) := hp.blk.cell 5
  have q6 : w.cell? ⟨bp, 6, none⟩ = some (.bool P.wrote) := hp.blk.cell 6
  have q7 : w.cell? ⟨bp, 7, none⟩ = some vwas := hp.blk.cell 7
  have q8 : w.cell? ⟨bp, 8, none⟩ = some vown := hp.blk.cell 8
  have q9 : w.cell? ⟨bp, 9, none⟩ = some (I P.count) := hp.blk.cell 9
  have q10 : w.cell? ⟨bp, 10, none⟩ = some vmarks := hp.blk.cell 10
  have f5 : w.frozen? ⟨bp, 5, none⟩ = false := hp.blk.frozen 5
  have f6 : w.frozen? ⟨bp, 6, none⟩ = false := hp.blk.frozen 6
  have f7 : w.frozen? ⟨bp, 7, none⟩ = false := hp.blk.frozen 7
  have f8 : w.frozen? ⟨bp, 8, none⟩ = false := hp.blk.frozen 8
  have f9 : w.frozen? ⟨bp, 9, none⟩ = false := hp.blk.frozen 9
  have f10 : w.frozen? ⟨bp, 10, none⟩ = false := hp.blk.frozen 10
  obtain ⟨W, hW⟩ : ∃ W, W = (((((w.setCell ⟨bp, 5, none⟩ (.bool false)).setCell ⟨bp, 6, none⟩ (.bool false)).setCell ⟨bp, 7, none⟩ (.slice none 0 0)).setCell ⟨bp, 8, none⟩ (.map none)).setCell ⟨bp, 9, none⟩ (I 0)).setCell ⟨bp, 10, none⟩ (.slice none 0 0) := ⟨_, rfl⟩
  have cs : ∀ (u : World) (i : Nat) (v : Value), Chg (fun b => b = bp) w u → Chg (fun b => b = bp) w (u.setCell ⟨bp, i, none⟩ v) := fun u i v h => Chg.setCell (S := fun b => b = bp) (p := ⟨bp, i, none⟩) h (.inl rfl) _
  have cW : Chg (fun b => b = bp) w W := by rw [hW]; exact cs _ _ _ (cs _ _ _ (cs _ _ _ (cs _ _ _ (cs _ _ _ (cs _ _ _ (Chg.refl _ w))))))
  have bW : Blk W bp 140 #[ptr bd, I P.mode, ptr bl, I P.c, .bool P.dead, .bool false, .bool false, .slice none 0 0, .map none, I 0, .slice none 0 0, I P.next, I P.sure] := by
    have := (((((hp.blk.set_ 5 (.bool false)).set_ 6 (.bool false)).set_ 7 (.slice none 0 0)).set_ 8 (.map none)).set_ 9 (I 0)).set_ 10 (.slice none 0 0)
    rw [hW]; simpa using this
  have hpW := hp.idle cW bW
  have d2 : W.cell? ⟨bp, 2, none⟩ = some (ptr bl) := bW.cell 2
  have d3 : W.cell? ⟨bp, 3, none⟩ = some (I P.c) := bW.cell 3
  have LO := Lib.hid (lower_any W.drew bl P.c L (Blk.chg (S := fun b => b = bp) hl cW.drew hne) hL hc)
  have FIN : Hid (∀ w', Chg (fun b => b = bl) W.drew w' → PagerW w' bp bd bl (idleM P) R ∧ Chg (fun b => b = bp ∨ b = bl) w w') := fun w' h =>
    ⟨⟨_, _, _, _, (hpW.chg ((Chg.refl (fun b => b = bl) W).drew.tr h) fun b hb e => hb (by rw [e]; exact hbl))⟩, (cW.mono fun b hb => .inl (.inl hb)).trans ((Chg.refl (fun b => b = bl) W).drew.tr h) fun b hb => .inl (.inr hb)⟩
  have HW := Lib.hid hW
  have K2 : Hid (∀ w', Chg (fun b => b = bl) W.drew w' → w'.cell? ⟨bp, 2, none⟩ = some (ptr bl) ∧ w'.cell? ⟨bp, 3, none⟩ = some (I P.c)) := fun w' h =>
    ⟨(h.cell (a := ⟨bp, 2, none⟩) bW.lt (fun e => hne e.symm)).trans d2, (h.cell (a := ⟨bp, 3, none⟩) bW.lt (fun e => hne e.symm)).trans d3⟩
  clear hp hl hL hc hbl hne cs cW bW hpW hW
  go_enter Tryz.func78, Tryz.ntmps78
  go_wp2_with fail
  rw [← HW.out]
  go_region_held3 (fun w' => w'.cell? ⟨bp, 2, none⟩ = some (ptr bl) ∧ w'.cell? ⟨bp, 3, none⟩ = some (I P.c)) (go_keep) (first | (go_at_call 86; refine LO.out.mono ?_; rintro e w5 ⟨rfl, h1, h2⟩; obtain ⟨r2, r3⟩ := K2.out w5 h2; have F := Lib.hid (And.intro (FIN.out w5 h2) h1); clear h1 h2))
  go_wp2_with fail
  go_end0
  exact ⟨rfl, F.out.1.1, F.out.2, F.out.1.2⟩

set_option maxHeartbeats 1000000 in
set_option maxRecDepth 100000 in
theorem out_any (w : World) (bp bd bl : Nat) (P : PagerM) (R : Nat → Nat) (hp : PagerW w bp bd bl P R) (L : Nat → Int) (hl : Blk w bl 135 (lvls L)) (hL : LvOk L) (hc : P.c < 4) (hbl : R bl = 0) (x : Int) :
    Calls Tryz.prog 71 #[ptr bp, I x] w fun e w' => e = .returned (I x) ∧ PagerW w' bp bd bl (idleM { P with dead := true }) R ∧ Blk w' bl 135 (lvls (lowerM L P.c)) ∧ Chg (fun b => b = bp ∨ b = bl) w w' := by
  obtain ⟨vwas, vown, vmarks, mb, hp⟩ := hp
  have hne : bl ≠ bp := fun e => by rw [e, hp.r1] at hbl; cases hbl
  have q4 : w.cell? ⟨bp, 4, none⟩ = some (.bool P.dead) := hp.blk.cell 4
  have f4 : w.frozen? ⟨bp, 4, none⟩ = false := hp.blk.frozen 4
  have cW : Chg (fun b => b = bp) w (w.setCell ⟨bp, 4, none⟩ (.bool true)) := Chg.setCell (S := fun b => b = bp) (p := ⟨bp, 4, none⟩) (Chg.refl _ w) (.inl rfl) _
  have E := Lib.hid (end_any (w.setCell ⟨bp, 4, none⟩ (.bool true)) bp bd bl { P with dead := true } R ⟨_, _, _, _, hp.dead_ true⟩ L (Blk.chg (S := fun b => b = bp) hl cW hne) hL hc hbl)
  have CW := Lib.hid cW
  clear hp hl hL hc hbl hne cW
  go_enter Tryz.func71, Tryz.ntmps71
  go_wp2_with (go_at_call 78; refine E.out.mono ?_; rintro e w5 ⟨rfl, h1, h2, h3⟩; have F := Lib.hid (And.intro h1 (And.intro h2 ((CW.out.mono (S' := fun b => b = bp ∨ b = bl) fun b hb => .inl (.inl hb)).tr h3))); clear h1 h2 h3)
  go_ret
  exact ⟨rfl, F.out⟩
end Go.Proofs.YtamhjjagjjdmoaaGreat
end

section
namespace Go.Proofs.YtamhjjagjjdmoaaGreat
open Go.RowKit Go.Maps Go.Shelf Go.Sort

set_option maxHeartbeats 1000000 in
set_option maxRecDepth 100000 in
theorem begin_dead (w : World) (bp bd bl : Nat) (P : PagerM) (R : Nat → Nat) (hp : PagerW w bp bd bl P R) (hd : P.dead = true) :
    Calls Tryz.prog 22 #[ptr bp] w fun e w' => e = .returned (I 9) ∧ w' = w := by
  obtain ⟨vwas, vown, vmarks, mb, hp⟩ := hp
  have c4 : w.cell? ⟨bp, 4, none⟩ = some (.bool P.dead) := hp.blk.cell 4
  rw [hd] at c4
  clear hp hd
  go_enter Tryz.func22, Tryz.ntmps22
  go_wp2_with fail
  go_ret
  exact ⟨rfl, rfl⟩

set_option maxHeartbeats 1000000 in
set_option maxRecDepth 100000 in
theorem begin_in (w : World) (bp bd bl : Nat) (P : PagerM) (R : Nat → Nat) (hp : PagerW w bp bd bl P R) (hd : P.dead = false) (hi : P.inn = true) :
    Calls Tryz.prog 22 #[ptr bp] w fun e w' => e = .returned (I 11) ∧ w' = w := by
  obtain ⟨vwas, vown, vmarks, mb, hp⟩ := hp
  have c4 : w.cell? ⟨bp, 4, none⟩ = some (.bool P.dead) := hp.blk.cell 4
  have c5 : w.cell? ⟨bp, 5, none⟩ = some (.bool P.inn) := hp.blk.cell 5
  rw [hd] at c4
  rw [hi] at c5
  clear hp hd hi
  go_enter Tryz.func22, Tryz.ntmps22
  go_wp2_with fail
  go_ret
  exact ⟨rfl, rfl⟩

set_option maxHeartbeats 1000000 in
set_option maxRecDepth 100000 in
theorem begin_busy (w : World) (bp bd bl : Nat) (P : PagerM) (R : Nat → Nat) (hp : PagerW w bp bd bl P R) (hd : P.dead = false) (hi : P.inn = false) (L : Nat → Int) (hl : Blk w bl 135 (lvls L)) (hL : LvOk L) (hc : P.c < 4) (hbl : R bl = 0) (hb : ¬ (raiseM L P.c 1).1 = 0) :
    Calls Tryz.prog 22 #[ptr bp] w fun e w' => e = .returned (I (raiseM L P.c 1).1) ∧ PagerW w' bp bd bl P R ∧ Blk w' bl 135 (lvls (raiseM L P.c 1).2) ∧ Chg (fun b => b = bl) w w' := by
  obtain ⟨vwas, vown, vmarks, mb, hp⟩ := hp
  have hne : bl ≠ bp := fun e => by rw [e, hp.r1] at hbl; cases hbl
  have c4 : w.cell? ⟨bp, 4, none⟩ = some (.bool P.dead) := hp.blk.cell 4
  have c5 : w.cell? ⟨bp, 5, none⟩ = some (.bool P.inn) := hp.blk.cell 5
  have c2 : w.cell? ⟨bp, 2, none⟩ = some (ptr bl) := hp.blk.cell 2
  have c3 : w.cell? ⟨bp, 3, none⟩ = some (I P.c) := hp.blk.cell 3
  rw [hd] at c4
  rw [hi] at c5
  have RA := Lib.hid (raise_any w.drew bl P.c L 1 hl.drew hL hc (.inl rfl))
  have K2 : Hid (∀ w', Chg (fun b => b = bl) w.drew w' → (w'.cell? ⟨bp, 2, none⟩ = some (ptr bl) ∧ w'.cell? ⟨bp, 3, none⟩ = some (I P.c)) ∧ PagerW w' bp bd bl P R ∧ Chg (fun b => b = bl) w w') := fun w' h =>
    ⟨⟨(h.cell (a := ⟨bp, 2, none⟩) hp.blk.lt (fun e => hne e.symm)).trans c2, (h.cell (a := ⟨bp, 3, none⟩) hp.blk.lt (fun e => hne e.symm)).trans c3⟩,
      ⟨_, _, _, _, hp.chg ((Chg.refl (fun b => b = bl) w).drew.tr h) fun b hb e => hb (by rw [e]; exact hbl)⟩, (Chg.refl (fun b => b = bl) w).drew.tr h⟩
  have bb : ((raiseM L P.c 1).1 != 0) = true := by simpa using hb
  generalize raiseM L P.c 1 = X at *
  obtain ⟨x1, X2⟩ := X
  simp only at bb
  clear hp hd hi hl hL hc hbl hne hb
  go_enter Tryz.func22, Tryz.ntmps22
  go_wp2_with fail
  go_region_held3 (fun w' => w'.cell? ⟨bp, 2, none⟩ = some (ptr bl) ∧ w'.cell? ⟨bp, 3, none⟩ = some (I P.c)) (go_keep) (first | (go_at_call 70; refine RA.out.mono ?_; rintro e w5 ⟨rfl, h1, h2⟩; obtain ⟨⟨r2, r3⟩, h3⟩ := K2.out w5 h2; have F := Lib.hid (And.intro h3 h1); clear h1 h2 h3))
  go_wp2_with fail
  go_ret
  exact ⟨rfl, F.out.1.1, F.out.2, F.out.1.2⟩
end Go.Proofs.YtamhjjagjjdmoaaGreat
end

section
namespace Go.Proofs.YtamhjjagjjdmoaaGreat
open Go.RowKit Go.Maps Go.Shelf Go.Sort

/-- roles behind Begin -/
def begR (R : Nat → Nat) (v : Value) (g0 : Nat) : Nat → Nat := fun g => if g = g0 then 2 else if v.ownBlock = some g then 5 else R g
/-- the pager behind Begin: bytes b -/
def begM (P : PagerM) (b : Bts) : PagerM := { P with inn := true, was := b, own := some [], count := ((b.length / 512 : Nat) : Int) }

theorem PagerAt.begin {w : World} {bp bd bl : Nat} {P : PagerM} {R : Nat → Nat} {vwas vown vmarks : Value} {mb : List Nat} (h : PagerAt w bp bd bl P R vwas vown vmarks mb) (v : Value) (b : Bts) (hv : OwnB w v b) (hvR : ∀ g, v.ownBlock = some g → R g = 0) {w' : World}
    (c : Chg (fun b => b = bp) w w') (hm : PgW w' (fun _ => False) w.heap.size []) 
    (hb : Blk w' bp 140 #[ptr bd, I P.mode, ptr bl, I P.c, .bool P.dead, .bool true, .bool P.wrote, v, .map (some w.heap.size), I ((b.length / 512 : Nat) : Int), vmarks, I P.next, I P.sure]) :
    PagerAt w' bp bd bl (begM P b) (begR R v w.heap.size) v (.map (some w.heap.size)) vmarks mb := by
  have vlt : ∀ g, v.ownBlock = some g → g < w.heap.size := fun g hg => by
    rcases hv with ⟨e, _⟩ | ⟨g', cap, cur, e, hb', _⟩
    · rw [e] at hg; simp [Value.ownBlock] at hg
    · rw [e] at hg; simp [Value.ownBlock] at hg; subst hg; exact hb'.lt
  have keep : ∀ g, R g ≠ 0 → begR R v w.heap.size g = R g := fun g hg => by
    have h1 := h.lt g hg
    unfold begR
    rw [if_neg (by omega), if_neg (fun e => hg (hvR g e))]
  have rbp : R bp ≠ 0 := by rw [h.r1]; decide
  have ne1 : ∀ g r, R g = r → r ≠ 0 → r ≠ 1 → ¬ g = bp := fun g r hg _ h1 e => by rw [e, h.r1] at hg; exact h1 hg.symm
  refine ⟨hb, by rw [keep bp rbp]; exact h.r1, ?_, fun g hg => ?_, .inr ⟨w.heap.size, [], rfl, rfl, hm.mono fun _ hf => hf.elim, by simp [begR]⟩, ?_, fun g hg => ?_, ?_, fun g hg => ?_⟩
  · exact hv.sl.chg c fun g hg e => by have := hvR g hg; rw [e, h.r1] at this; cases this
  · have := vlt g hg
    unfold begR; rw [if_neg (by omega), if_pos hg]
  · exact World.ownsRow.keep_ h.row fun g hg => c.block g (h.lt g (by rw [h.rr g hg]; decide)) (ne1 g 3 (h.rr g hg) (by decide) (by decide))
  · rw [keep g (by rw [h.rr g hg]; decide)]; exact h.rr g hg
  · refine All2.imp' h.marks fun b' m hbm => ⟨(hbm.1.chg c (ne1 b' 4 hbm.2 (by decide) (by decide)) fun g hg => ne1 g 5 hg (by decide) (by decide)).mono fun g hg => ?_, ?_⟩
    · show begR R v w.heap.size g = 5
      rw [keep g (by rw [hg]; decide)]; exact hg
    · rw [keep b' (by rw [hbm.2]; decide)]; exact hbm.2
  · unfold begR at hg
    have hm' := hm.lt
    split at hg
    · next e => rw [e]; exact hm'
    · split at hg
      · next e => exact Nat.lt_of_lt_of_le (vlt g e) c.size
      · exact Nat.lt_of_lt_of_le (h.lt g hg) c.size
end Go.Proofs.YtamhjjagjjdmoaaGreat
end

section
namespace Go.Proofs.YtamhjjagjjdmoaaGreat
open Go.RowKit Go.Maps Go.Shelf Go.Sort

/-- what a call on the pager, its disk and its locks leaves -/
def BPost (w : World) (bp bd bl : Nat) (G : DG) (R : Nat → Nat) (v : Value) (M' : DiskM) (P' : PagerM) (L' : Nat → Int) (e : Ending) (w' : World) : Prop :=
  ∃ (G' : DG) (R' : Nat → Nat), e = .returned v ∧ DiskAt w' bd M' G' ∧ PagerW w' bp bd bl P' R' ∧ Blk w' bl 135 (lvls L') ∧ Chg (fun b => G.F b ∨ R b ≠ 0 ∨ b = bl) w w' ∧
    (∀ b, G'.F b → G.F b ∨ w.heap.size ≤ b) ∧ (∀ b, R' b ≠ 0 → R b ≠ 0 ∨ w.heap.size ≤ b) ∧ (∀ b, R' b ≠ 0 → ¬ G'.F b) ∧ R' bl = 0 ∧ ¬ G'.F bl

set_option maxHeartbeats 2000000 in
set_option maxRecDepth 100000 in
theorem begin_ok (w : World) (bp bd bl : Nat) (M : DiskM) (G : DG) (P : PagerM) (R : Nat → Nat) (h : DiskAt w bd M G) (hp : PagerW w bp bd bl P R) (hR : ∀ b, R b ≠ 0 → ¬ G.F b) (hd : P.dead = false) (hi : P.inn = false) (L : Nat → Int) (hl : Blk w bl 135 (lvls L)) (hL : LvOk L) (hc : P.c < 4) (hbl : R bl = 0) (hblG : ¬ G.F bl)
    (hb : (raiseM L P.c 1).1 = 0) (b : Bts) (M' : DiskM) (P' : PagerM) (hP' : P'.dead = false) (hbn : b.length ≤ 2097152)
    (CM : ∀ w5, DiskAt w5 bd M G → PagerW w5 bp bd bl P R → Calls Tryz.prog 69 #[ptr bp] w5 (CPost w5 bp bd bl G R 0 b M' P')) :
    Calls Tryz.prog 22 #[ptr bp] w (BPost w bp bd bl G R (I 0) M' (begM P' b) (raiseM L P.c 1).2) := by
  obtain ⟨vwas, vown, vmarks, mb, hp⟩ := hp
  have hne : bl ≠ bp := fun e => by rw [e, hp.r1] at hbl; cases hbl
  have c4 : w.cell? ⟨bp, 4, none⟩ = some (.bool P.dead) := hp.blk.cell 4
  have c5 : w.cell? ⟨bp, 5, none⟩ = some (.bool P.inn) := hp.blk.cell 5
  have c2 : w.cell? ⟨bp, 2, none⟩ = some (ptr bl) := hp.blk.cell 2
  have c3 : w.cell? ⟨bp, 3, none⟩ = some (I P.c) := hp.blk.cell 3
  rw [hd] at c4
  rw [hi] at c5
  have RA := raise_any w.drew bl P.c L 1 hl.drew hL hc (.inl rfl)
  rw [hb] at RA
  have RA := Lib.hid RA
  have K2 : Hid (∀ w', Chg (fun b => b = bl) w.drew w' → (w'.cell? ⟨bp, 2, none⟩ = some (ptr bl) ∧ w'.cell? ⟨bp, 3, none⟩ = some (I P.c)) ∧ PagerW w' bp bd bl P R ∧ DiskAt w' bd M G ∧ Chg (fun b => b = bl) w w') := fun w' h' =>
    ⟨⟨(h'.cell (a := ⟨bp, 2, none⟩) hp.blk.lt (fun e => hne e.symm)).trans c2, (h'.cell (a := ⟨bp, 3, none⟩) hp.blk.lt (fun e => hne e.symm)).trans c3⟩,
      ⟨_, _, _, _, hp.chg ((Chg.refl (fun b => b = bl) w).drew.tr h') fun b hb e => hb (by rw [e]; exact hbl)⟩, h.chg ((Chg.refl (fun b => b = bl) w).drew.tr h') (fun b hb e => hblG (by rw [← e]; exact hb)), (Chg.refl (fun b => b = bl) w).drew.tr h'⟩
  have CH := Lib.hid CM
  have H := Lib.hid (And.intro h.olt (And.intro hp.lt (And.intro hR (And.intro hbl (And.intro hblG (And.intro hP' hl.lt))))))
  generalize raiseM L P.c 1 = X at *
  obtain ⟨x1, X2⟩ := X
  clear h hp hd hi hl hL hc hbl hne hb CM hR hblG hP'
  generalize hn : b.length = n at *
  have HN := Lib.hid hn
  clear hn
  go_enter Tryz.func22, Tryz.ntmps22
  go_wp2_with fail
  go_region_held3 (fun w' => w'.cell? ⟨bp, 2, none⟩ = some (ptr bl) ∧ w'.cell? ⟨bp, 3, none⟩ = some (I P.c)) (go_keep) (first | (go_at_call 70; refine RA.out.mono ?_; rintro e w5 ⟨rfl, h1, h2⟩; obtain ⟨⟨r2, r3⟩, h3⟩ := K2.out w5 h2; have F := Lib.hid (And.intro h3 h1); clear h1 h2 h3))
  go_wp2_with (go_at_call 69; refine (CH.out _ F.out.1.2.1 F.out.1.1).mono ?_; rintro e w6 ⟨G6, v, rfl, h1, h2, h3, h4, h5, h6⟩; obtain ⟨A6, c6, rfl, _⟩ := h1.form; obtain ⟨vw6, vo6, vm6, mb6, h4⟩ := h4; obtain ⟨w7, hw7⟩ : ∃ w7, w7 = w6.alloc (.map #[] 0) := ⟨_, rfl⟩; have hmk := makeMap_run w6; rw [← hw7] at hmk; have B7 : Blk w7 bp 140 _ := (by rw [hw7]; exact h4.blk.alloc _); have f5 : w7.frozen? ⟨bp, 5, none⟩ = false := B7.frozen 5; have f7 : w7.frozen? ⟨bp, 7, none⟩ = false := B7.frozen 7; have f8 : w7.frozen? ⟨bp, 8, none⟩ = false := B7.frozen 8; have f9 : w7.frozen? ⟨bp, 9, none⟩ = false := B7.frozen 9; have g5 : w7.cell? ⟨bp, 5, none⟩ = some (.bool P'.inn) := B7.cell 5; have g7 : w7.cell? ⟨bp, 7, none⟩ = some vw6 := B7.cell 7; have g8 : w7.cell? ⟨bp, 8, none⟩ = some vo6 := B7.cell 8; have g9 : w7.cell? ⟨bp, 9, none⟩ = some (I P'.count) := B7.cell 9; have HW7 := Lib.hid (And.intro hw7 B7); clear hw7 B7; rw [HN.out]; have C6 := Lib.hid (And.intro h1 (And.intro h2 (And.intro h3 (And.intro h4 (And.intro h5 h6))))); clear h1 h2 h3 h4 h5 h6)
  go_ret
  obtain ⟨hw7, hB7⟩ := HW7.out
  obtain ⟨h1, h2, h3, h4, h5, h6⟩ := C6.out
  obtain ⟨k1, k2, k3, k4, k5, k6, k7⟩ := H.out
  obtain ⟨⟨_, _, hc5⟩, hl5⟩ := F.out
  have cs : ∀ (u : World) (i : Nat) (v : Value), Chg (fun b => b = bp) w6 u → Chg (fun b => b = bp) w6 (u.setCell ⟨bp, i, none⟩ v) := fun u i v h => Chg.setCell (S := fun b => b = bp) (p := ⟨bp, i, none⟩) h (.inl rfl) _
  obtain ⟨w8, hw8⟩ : ∃ w8, w8 = (((w7.setCell ⟨bp, 5, none⟩ (.bool true)).setCell ⟨bp, 7, none⟩ (.slice A6 n c6)).setCell ⟨bp, 8, none⟩ (.map (some w6.heap.size))).setCell ⟨bp, 9, none⟩ (I ((n : Int) / 512)) := ⟨_, rfl⟩
  have c8 : Chg (fun b => b = bp) w6 w8 := by rw [hw8]; exact cs _ _ _ (cs _ _ _ (cs _ _ _ (cs _ _ _ (by rw [hw7]; exact (Chg.refl _ w6).alloc _))))
  have hbp := h4.lt bp (by rw [h4.r1]; decide)
  have hm8 : PgW w8 (fun _ => False) w6.heap.size [] := by
    have h0 : PgW w7 (fun _ => False) w6.heap.size [] := by rw [hw7]; exact PgW.made w6 _
    have c78 : Chg (fun b => b = bp) w7 w8 := by
      rw [hw8]
      have cs7 : ∀ (u : World) (i : Nat) (v : Value), Chg (fun b => b = bp) w7 u → Chg (fun b => b = bp) w7 (u.setCell ⟨bp, i, none⟩ v) := fun u i v h => Chg.setCell (S := fun b => b = bp) (p := ⟨bp, i, none⟩) h (.inl rfl) _
      exact cs7 _ _ _ (cs7 _ _ _ (cs7 _ _ _ (cs7 _ _ _ (Chg.refl _ w7))))
    exact h0.chg c78 (by omega) fun _ hf => hf.elim
  have hb8 := ((((hB7.set_ 5 (.bool true)).set_ 7 (.slice A6 n c6)).set_ 8 (.map (some w6.heap.size))).set_ 9 (I ((n : Int) / 512)))
  rw [← hw8] at hb8
  rw [HN.out] at h1 h2
  have hR0 : ∀ g, w.heap.size ≤ g → R g = 0 := fun g hg => by
    by_cases e : R g = 0
    · exact e
    · have := k2 g e; omega
  have s5 := hc5.size
  have hPA := h4.begin (.slice A6 n c6) b h1 (fun g hg => hR0 g (Nat.le_trans s5 (h2 g hg).1)) c8 hm8 (by rw [HN.out]; simpa using hb8)
  have e8 : w8 = (((w7.setCell ⟨bp, 5, none⟩ (.bool true)).setCell ⟨bp, 7, none⟩ (.slice A6 n c6)).setCell ⟨bp, 8, none⟩ (.map (some w6.heap.size))).setCell ⟨bp, 9, none⟩ (.int .i64 ((n : Int) / 512)) := hw8
  rw [← e8]
  have hbG6 : ¬ G6.F bp := fun e => by
    rcases h6 bp e with e | e
    · exact k3 bp (by rw [h4.r1]; decide) e
    · have := k2 bp (by rw [h4.r1]; decide); omega
  have hbl6 : w6.heap[bl]? = w5.heap[bl]? := h5.block bl hl5.lt (fun e => by
    rcases e with e | e
    · exact k5 e
    · rw [e, h4.r1] at k4; cases k4)
  have hl6 : Blk w6 bl 135 (lvls X2) := hbl6.trans hl5
  have hblbp : bl ≠ bp := fun e => by rw [e, h4.r1] at k4; cases k4
  have hblv : ∀ g, (Value.slice A6 n c6).ownBlock = some g → g ≠ bl := fun g hg e => by have := (h2 g hg).1; rw [e] at this; omega
  refine ⟨G6, begR R (.slice A6 n c6) w6.heap.size, rfl, h3.chg c8 fun b hb e => hbG6 (by rw [← e]; exact hb), ⟨_, _, _, _, hPA⟩, Blk.chg (S := fun b => b = bp) hl6 c8 hblbp, ?_, fun b hb => ?_, fun b hb => ?_, fun b hb => ?_, ?_, fun e => ?_⟩
  · refine ((hc5.mono (S' := fun b => G.F b ∨ R b ≠ 0 ∨ b = bl) fun b hb => .inl (.inr (.inr hb))).trans h5 fun b hb => ?_).trans c8 fun b hb => .inl (.inr (.inl (by rw [hb, h4.r1]; decide)))
    rcases hb with e | e
    · exact .inl (.inl e)
    · exact .inl (.inr (.inl (by rw [e, h4.r1]; decide)))
  · rcases h6 b hb with e | e
    · exact .inl e
    · exact .inr (Nat.le_trans s5 e)
  · unfold begR at hb
    split at hb
    · next e => exact .inr (by rw [e]; exact Nat.le_trans s5 h5.size)
    · split at hb
      · next e => exact .inr (Nat.le_trans s5 (h2 b e).1)
      · exact .inl hb
  · unfold begR at hb
    split at hb
    · next e => exact fun h' => by have := h3.olt _ h'; omega
    · split at hb
      · next e => exact (h2 b e).2
      · exact fun h' => by
          rcases h6 b h' with e | e
          · exact k3 b hb e
          · have := k2 b hb; omega
  · unfold begR
    have := hl6.lt
    rw [if_neg (by omega), if_neg (fun e => hblv bl e rfl)]; exact k4
  · rcases h6 bl e with e | e
    · exact k5 e
    · have := hl5.lt; omega
end Go.Proofs.YtamhjjagjjdmoaaGreat
end

section
namespace Go.Proofs.YtamhjjagjjdmoaaGreat
open Go.RowKit Go.Maps Go.Shelf Go.Sort

set_option maxHeartbeats 2000000 in
set_option maxRecDepth 100000 in
theorem begin_bad (w : World) (bp bd bl : Nat) (M : DiskM) (G : DG) (P : PagerM) (R : Nat → Nat) (h : DiskAt w bd M G) (hp : PagerW w bp bd bl P R) (hR : ∀ b, R b ≠ 0 → ¬ G.F b) (hd : P.dead = false) (hi : P.inn = false) (L : Nat → Int) (hl : Blk w bl 135 (lvls L)) (hL : LvOk L) (hL2 : LvOk (raiseM L P.c 1).2) (hc : P.c < 4) (hbl : R bl = 0) (hblG : ¬ G.F bl)
    (hb : (raiseM L P.c 1).1 = 0) (M' : DiskM) (P' : PagerM) (hc' : P'.c < 4) (x : Int) (b : Bts) (hx : ¬ x = 0)
    (CM : ∀ w5, DiskAt w5 bd M G → PagerW w5 bp bd bl P R → Calls Tryz.prog 69 #[ptr bp] w5 (CPost w5 bp bd bl G R x b M' P')) :
    Calls Tryz.prog 22 #[ptr bp] w (BPost w bp bd bl G R (I x) M' (idleM { P' with dead := true }) (lowerM (raiseM L P.c 1).2 P'.c)) := by
  obtain ⟨vwas, vown, vmarks, mb, hp⟩ := hp
  have hne : bl ≠ bp := fun e => by rw [e, hp.r1] at hbl; cases hbl
  have c4 : w.cell? ⟨bp, 4, none⟩ = some (.bool P.dead) := hp.blk.cell 4
  have c5 : w.cell? ⟨bp, 5, none⟩ = some (.bool P.inn) := hp.blk.cell 5
  have c2 : w.cell? ⟨bp, 2, none⟩ = some (ptr bl) := hp.blk.cell 2
  have c3 : w.cell? ⟨bp, 3, none⟩ = some (I P.c) := hp.blk.cell 3
  rw [hd] at c4
  rw [hi] at c5
  have RA := raise_any w.drew bl P.c L 1 hl.drew hL hc (.inl rfl)
  rw [hb] at RA
  have RA := Lib.hid RA
  have K2 : Hid (∀ w', Chg (fun b => b = bl) w.drew w' → (w'.cell? ⟨bp, 2, none⟩ = some (ptr bl) ∧ w'.cell? ⟨bp, 3, none⟩ = some (I P.c)) ∧ PagerW w' bp bd bl P R ∧ DiskAt w' bd M G ∧ Chg (fun b => b = bl) w w') := fun w' h' =>
    ⟨⟨(h'.cell (a := ⟨bp, 2, none⟩) hp.blk.lt (fun e => hne e.symm)).trans c2, (h'.cell (a := ⟨bp, 3, none⟩) hp.blk.lt (fun e => hne e.symm)).trans c3⟩,
      ⟨_, _, _, _, hp.chg ((Chg.refl (fun b => b = bl) w).drew.tr h') fun b hb e => hb (by rw [e]; exact hbl)⟩, h.chg ((Chg.refl (fun b => b = bl) w).drew.tr h') (fun b hb e => hblG (by rw [← e]; exact hb)), (Chg.refl (fun b => b = bl) w).drew.tr h'⟩
  have CH := Lib.hid CM
  have H := Lib.hid (And.intro h.olt (And.intro hp.lt (And.intro hR (And.intro hbl (And.intro hblG (And.intro hp.r1 hl.lt))))))
  have H2 := Lib.hid (And.intro hL2 hc')
  generalize raiseM L P.c 1 = X at *
  obtain ⟨x1, X2⟩ := X
  have bx : (x != 0) = true := by simpa using hx
  clear h hp hd hi hl hL hc hbl hne hb CM hR hblG hL2 hc' hx
  go_enter Tryz.func22, Tryz.ntmps22
  go_wp2_with fail
  go_region_held3 (fun w' => w'.cell? ⟨bp, 2, none⟩ = some (ptr bl) ∧ w'.cell? ⟨bp, 3, none⟩ = some (I P.c)) (go_keep) (first | (go_at_call 70; refine RA.out.mono ?_; rintro e w5 ⟨rfl, h1, h2⟩; obtain ⟨⟨r2, r3⟩, h3⟩ := K2.out w5 h2; have F := Lib.hid (And.intro h3 h1); clear h1 h2 h3))
  obtain ⟨⟨hpw5, hd5, hc5⟩, hl5⟩ := F.out
  obtain ⟨k1, k2, k3, k4, k5, k6, k7⟩ := H.out
  have OUT : Hid (∀ w6 G6, DiskAt w6 bd M' G6 → PagerW w6 bp bd bl P' R → Chg (fun b => G.F b ∨ b = bp) w5 w6 → (∀ b, G6.F b → G.F b ∨ w5.heap.size ≤ b) → Calls Tryz.prog 71 #[ptr bp, I x] w6 (BPost w bp bd bl G R (I x) M' (idleM { P' with dead := true }) (lowerM X2 P'.c))) := by
    intro w6 G6 h3 h4 h5 h6
    have s5 := hc5.size
    have hl6 : Blk w6 bl 135 (lvls X2) := (h5.block bl hl5.lt (fun e => by
      rcases e with e | e
      · exact k5 e
      · rw [e, k6] at k4; cases k4)).trans hl5
    refine (out_any w6 bp bd bl P' R h4 X2 hl6 H2.out.1 H2.out.2 k4 x).mono ?_
    rintro e w7 ⟨rfl, q1, q2, q3⟩
    have hR6 : ∀ b, R b ≠ 0 → ¬ G6.F b := fun b hb e => by
      rcases h6 b e with e | e
      · exact k3 b hb e
      · have := k2 b hb; omega
    have hbl6 : ¬ G6.F bl := fun e => by
      rcases h6 bl e with e | e
      · exact k5 e
      · have := hl5.lt; omega
    refine ⟨G6, R, rfl, h3.chg q3 fun b hb e => ?_, q1, q2, ?_, fun b hb => ?_, fun b hb => .inl hb, hR6, k4, hbl6⟩
    · rcases e with e | e
      · exact hR6 b (by rw [e, k6]; decide) hb
      · exact hbl6 (by rw [← e]; exact hb)
    · refine ((hc5.mono (S' := fun b => G.F b ∨ R b ≠ 0 ∨ b = bl) fun b hb => .inl (.inr (.inr hb))).trans h5 fun b hb => ?_).trans q3 fun b hb => ?_
      · rcases hb with e | e
        · exact .inl (.inl e)
        · exact .inl (.inr (.inl (by rw [e, k6]; decide)))
      · rcases hb with e | e
        · exact .inl (.inr (.inl (by rw [e, k6]; decide)))
        · exact .inl (.inr (.inr e))
    · rcases h6 b hb with e | e
      · exact .inl e
      · exact .inr (Nat.le_trans s5 e)
  clear hpw5 hd5 hc5 hl5 k1 k2 k3 k4 k5 k6 k7
  go_wp2_with (first | (go_at_call 69; refine (CH.out _ F.out.1.2.1 F.out.1.1).mono ?_; rintro e w6 ⟨G6, v, rfl, h1, h2, h3, h4, h5, h6⟩; have OC := Lib.hid (OUT.out w6 G6 h3 h4 h5 h6); obtain ⟨A6, c6, rfl, _⟩ := h1.form; clear h1 h2 h3 h4 h5 h6) | (go_at_call 71; refine OC.out.mono ?_; rintro e w7 hq; have FIN := Lib.hid hq; obtain ⟨G7, R7, rfl, _⟩ := hq))
  go_ret
  exact FIN.out
end Go.Proofs.YtamhjjagjjdmoaaGreat
end

section
namespace Go.Proofs.YtamhjjagjjdmoaaGreat
open Go.RowKit Go.Maps Go.Shelf Go.Sort

/-- copy onto bytes of one's own, of what there is room for -/
theorem wpList_copyB2 {w : World} {ops : Array Oper} {rest : List Oper} {o : Oper} {a : Act} {Q : Exit → Act → World → Prop} (hgd : o.guard = none) (d s : Operand)
    (ho : o.op = .call { callee := .builtin .copy, args := #[d, s], argTypes := #[48, 48] }) (g n cap off dl dc : Nat) (l x : Bts) (sv : Value)
    (hd : a.eval d = .slice (some ⟨g, off, none⟩) dl dc) (hs : a.eval s = sv) (hown : OwnB w (.slice (some ⟨g, 0, none⟩) n cap) l) (hdl : dl = n - off) (hoff : off ≤ n) (hsl : Sl w sv x) (hx : 0 < x.length)
    (h : ∀ w', OwnB w' (.slice (some ⟨g, 0, none⟩) n cap) (splice l off (x.take dl)) → Chg (fun b => b = g) w w' → wpList Tryz.prog ops Q rest (a.put o.dst (I (min x.length dl : Nat))) w') :
    wpList Tryz.prog ops Q (o :: rest) a w := by
  obtain ⟨gs, os, cs, rfl, _, _, hc⟩ := hsl.cells_at hx
  have hn := hown.len.1
  have hlt : (x.take dl).length = min x.length dl := by rw [List.length_take, Nat.min_comm]
  have hfit : off + (x.take dl).length ≤ l.length := by omega
  rcases hown with ⟨e, _⟩ | ⟨g', cap', cur, e, hb, h1, h2, h3, h4⟩
  · cases e
  · injection e with e1 e2 e3
    injection e1 with e1; injection e1 with e1
    subst e1; subst e2; subst e3
    have hlen : ((x.take dl).map B).length = min x.length dl := by rw [List.length_map, hlt]
    refine wpList_copy_own hgd d s _ _ ho 5 Tryz.underlying48 (by kernel_rfl) g off dl dc ⟨gs, os, none⟩ x.length cs hd hs cur 5 hb ((x.take dl).map B) (by rw [hlen]) (fun j u hu => ?_) (by rw [hlen]; omega) (B_one _) ?_
    · rw [addr_add]
      rw [List.getElem?_map, List.getElem?_take] at hu
      split at hu
      · cases hj : x[j]? with
        | none => simp [hj] at hu
        | some y =>
          obtain ⟨hj1, rfl⟩ := List.getElem?_eq_some_iff.1 hj
          rw [hc j hj1]; simpa [hj] using hu
      · cases hu
    · have e2 : ∀ L : List Value, L.toArray.size = L.length := fun L => List.size_toArray
      have hcl : cur.toList.length = cur.size := Array.length_toList
      have hgo : goInt ((x.take dl).map B).length = I (min x.length dl : Nat) := by rw [hlen]; rfl
      rw [hgo, hlen]
      refine h _ (.inr ⟨g, cap, _, ?_, setRow_heap w g cur _ _ _ hb, ?_, ?_, h3, ?_⟩) (Chg.grown (S := fun b => b = g) (row := some g) (Chg.refl _ w) ⟨rfl, rfl, rfl, by simp [World.setRow], fun k _ hk => setRow_other _ g k _ (fun e => hk (by rw [e]))⟩ fun k hk => .inl (Option.some.inj hk).symm)
      · rw [length_splice _ _ _ hfit]
      · rw [length_splice _ _ _ hfit]; exact h1
      · rw [e2, List.length_append, List.length_append, List.length_take, List.length_drop, hlen]; omega
      · rw [length_splice _ _ _ hfit, map_splice, ← h4]
        unfold splice
        have hcl2 : l.length ≤ cur.toList.length := by omega
        simp only [hlen]
        rw [List.take_append, List.take_append, List.length_take, List.take_take, List.take_take, hlen, List.take_of_length_le (l := (x.take dl).map B) (by rw [hlen]; omega), List.drop_take]
        congr 1
        · rw [show min l.length off = off by omega, show min off l.length = off by omega]
        · rw [show min off cur.toList.length = off by omega, show l.length - off - min x.length dl = l.length - (off + min x.length dl) by omega]

theorem madeB (n : Nat) : madeCells #[Value.int .u8 0] n = ((List.replicate n (0 : UInt8)).map B).toArray := by
  rw [List.map_replicate]
  apply Array.ext
  · simp [madeCells]
  · intro i h1 h2
    simp [madeCells, B, Nat.mod_one]
theorem make_page (w : World) : ∃ Z, (Instr.makeSlice 48 (I 512) (I 512)).run Tryz.prog w = .ok (.slice (some ⟨w.heap.size, 0, none⟩) 512 512) (w.alloc (.cells Z 5)) ∧ OwnB (w.alloc (.cells Z 5)) (.slice (some ⟨w.heap.size, 0, none⟩) 512 512) zpage := by
  have h := run_make_row' (P := Tryz.prog) 48 5 (.int .u8 0) 1 Tryz.underlying48 infoU8 rfl .i64 .i64 512 (by omega) (by omega) w
  refine ⟨_, h, .inr ⟨w.heap.size, 512, _, ?_, Blk.new w _ _, ?_, ?_, by decide, ?_⟩⟩
  · rw [length_zpage]
  · rw [length_zpage]; exact Nat.le_refl _
  · rw [madeB, List.size_toArray, List.length_map, List.length_replicate]; exact Nat.le_refl _
  · rw [madeB, length_zpage]
    exact List.take_of_length_le (by rw [List.length_map, List.length_replicate]; exact Nat.le_refl _)
theorem page_bytes {W : List Bts} (h : Pgs W) (n : Nat) (hn : n < W.length) : ((W.flatten.drop (n * 512)).take 512) = W.getD n zpage := by
  rw [flat_drop h, List.drop_eq_getElem_cons hn, getD_lt _ _ hn, List.flatten_cons]
  exact List.take_left' (h _ (List.getElem_mem hn))
theorem splice_whole (l x : Bts) (h : x.length = l.length) : splice l 0 x = x := by
  unfold splice
  rw [List.take_zero, Nat.zero_add, h, List.drop_of_length_le (Nat.le_refl _)]; simp

set_option maxHeartbeats 1000000 in
set_option maxRecDepth 100000 in
theorem page_any (w : World) (bp bd bl : Nat) (P : PagerM) (R : Nat → Nat) (hp : PagerW w bp bd bl P R) (W : List Bts) (hW : Pgs W) (hw : P.was = W.flatten) (_hl : W.length ≤ 4096) (n : Nat) (hn : n < 4096) :
    Calls Tryz.prog 74 #[ptr bp, I n] w fun e w' => e = .returned (.slice (some ⟨w.heap.size, 0, none⟩) 512 512) ∧ OwnB w' (.slice (some ⟨w.heap.size, 0, none⟩) 512 512) (W.getD n zpage) ∧ Chg Non w w' := by
  obtain ⟨vwas, vown, vmarks, mb, hp⟩ := hp
  have c7 : w.cell? ⟨bp, 7, none⟩ = some vwas := hp.blk.cell 7
  have hs := hp.was
  rw [hw] at hs
  have hbp := hp.blk.lt
  obtain ⟨A, c, rfl, hc⟩ := hs.form
  have hfl := length_flat512 hW
  clear hp hw
  obtain ⟨Z, hmk, hown⟩ := make_page w
  obtain ⟨w1, hw1⟩ : ∃ w1, w1 = w.alloc (.cells Z 5) := ⟨_, rfl⟩
  rw [← hw1] at hmk hown
  have cw : Chg Non w w1 := by rw [hw1]; exact (Chg.refl _ w).alloc _
  have d7 : w1.cell? ⟨bp, 7, none⟩ = some (.slice A W.flatten.length c) := (cw.cell (a := ⟨bp, 7, none⟩) hbp id).trans c7
  have sz := Lib.hid (show w1.heap.size = w.heap.size + 1 by rw [hw1]; simp)
  have hs1 := hs.chg cw fun _ _ => id
  clear hw1 c7 hbp hs
  by_cases hlt : n < W.length
  · have t1 : decide (((n : Int) + 1) * 512 ≤ ((W.flatten.length : Nat) : Int)) = true := by rw [hfl]; simp; omega
    obtain ⟨g, o, c', e, h1, h2, h3⟩ := hs1.cells_at (by omega)
    injection e with e1 e2 e3
    subst e1; subst e3
    have hsub := Sl.sub hs1 (n * 512) W.flatten.length (by omega) (Nat.le_refl _)
    rw [List.take_length] at hsub
    have hpg := page_bytes hW n hlt
    have HP := Lib.hid hW
    have HS := Lib.hid (And.intro hown (And.intro hsub (And.intro hpg (And.intro hfl (And.intro cw hlt)))))
    clear hs1 h3
    generalize hN : W.flatten.length = N at *
    have HN := Lib.hid hN
    clear hN
    have i1 : (n : Int) * 512 ≤ (N : Int) := by omega
    have i2 : ¬ c = n * 512 := by omega
    clear hown hsub hpg hfl cw hW hlt e2
    go_enter Tryz.func74, Tryz.ntmps74
    go_wp2_with (first | (refine wpList_copyB2 rfl (.tmp 16) (.tmp 23) rfl w.heap.size 512 512 0 512 512 zpage (W.flatten.drop (n * 512)) (.slice (some ⟨g, o + n * 512, none⟩) (N - n * 512) (c - n * 512)) rfl rfl HS.out.1 rfl (Nat.zero_le _) HS.out.2.1 (by rw [List.length_drop, HN.out]; have := HS.out.2.2.2.1; have := HS.out.2.2.2.2.2; omega) ?_; intro w5 k1 k2; have K := Lib.hid (And.intro k1 k2); clear k1 k2))
    go_ret
    refine ⟨rfl, ?_, HS.out.2.2.2.2.1.trans K.out.2 fun b hb => .inr (by rw [hb]; exact Nat.le_refl _)⟩
    rw [← HS.out.2.2.1]
    have := K.out.1
    rw [splice_whole _ _ (by rw [HS.out.2.2.1]; exact (length_zpage.trans (Pgs.getD HP.out n).symm).symm)] at this
    exact this
  · have t1 : decide (((n : Int) + 1) * 512 ≤ ((W.flatten.length : Nat) : Int)) = false := by rw [hfl]; simp; omega
    have e : W.getD n zpage = zpage := getD_out (by omega)
    rw [e]
    have HS := Lib.hid (And.intro hown cw)
    generalize W.flatten.length = N at *
    clear hown cw hs1 hW hlt e hfl
    go_enter Tryz.func74, Tryz.ntmps74
    go_wp2_with fail
    go_ret
    exact ⟨rfl, HS.out⟩
end Go.Proofs.YtamhjjagjjdmoaaGreat
end
