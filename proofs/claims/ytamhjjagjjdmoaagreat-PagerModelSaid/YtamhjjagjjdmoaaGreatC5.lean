/- the pager's calls on a disk without troubles -/
import Derived.Test.YtamhjjagjjdmoaaGreatC4
import Derived.Test.YtamhjjagjjdmoaaGreatC1
import Derived.OrdersHeld
import Derived.StillTail
section
namespace Go.Proofs.YtamhjjagjjdmoaaGreat
open Go.RowKit Go.Maps Go.Shelf Go.Sort

/-- a mark that may be -/
def MarkOk (W : List Bts) (m : MarkM) : Prop := ∃ c : Nat, m.count = (c : Int) ∧ Tops W.length m.own c ∧ Rises m.own ∧ Full m.own ∧ c ≤ 4096
/-- within a transaction over committed pages W: own pages, a count -/
structure InTx (P : PagerM) (W : List Bts) (own : PgL) (c : Nat) : Prop where
  edead : P.dead = false
  einn : P.inn = true
  ewas : P.was = W.flatten
  eown : P.own = some own
  ecount : P.count = (c : Int)
  pgs : Pgs W
  len : W.length ≤ 4096
  tops : Tops W.length own c
  rises : Rises own
  full : Full own
  c4 : c ≤ 4096
  marks : ∀ m ∈ P.marks, MarkOk W m
/-- a page as it is seen -/
def pgV (W : List Bts) (own : PgL) (n : Nat) : Bts := (pfind own (n : Int)).getD (W.getD n zpage)
theorem InTx.page {P : PagerM} {W : List Bts} {own : PgL} {c : Nat} (h : InTx P W own c) (n : Nat) : (pgV W own n).length = 512 := by
  unfold pgV
  cases e : pfind own (n : Int) with
  | none => exact h.pgs.getD n
  | some x => exact h.full.find e
theorem wfNat (n : Nat) (hn : n < 4096) : (Lit.int .i64 (n : Int)).wf = true := WalkArith.wf_i64 (by omega)
/-- 'v, there := m[k]' -/
theorem PgW.look2 {w : World} {F : Nat → Prop} {b : Nat} {l : PgL} (h : PgW w F b l) (k : Int) (hk : (Lit.int .i64 k).wf = true) :
    (pfind l k = none ∧ (Instr.lookup 137 (.map (some b)) (I k) true).run Tryz.prog w = .ok (.tuple #[.slice none 0 0, .bool false]) w) ∨
    ∃ x v, pfind l k = some x ∧ (Instr.lookup 137 (.map (some b)) (I k) true).run Tryz.prog w = .ok (.tuple #[v, .bool true]) w ∧ PgV w F v x := by
  obtain ⟨m, h1, h2⟩ := h
  rcases PgE.find h2 k with ⟨e1, e2⟩ | ⟨x, v, e1, e2, e3⟩
  · exact .inl ⟨e1, by rw [h1.lookOk keyI Tryz.underlying137 (zeroBytes w) (keyOfI k hk), e2]; rfl⟩
  · exact .inr ⟨x, v, e1, by rw [h1.lookOk keyI Tryz.underlying137 (zeroBytes w) (keyOfI k hk), e2]; rfl, e3⟩
theorem PagerAt.ownMap {w : World} {bp bd bl : Nat} {P : PagerM} {R : Nat → Nat} {vwas vown vmarks : Value} {mb : List Nat} (h : PagerAt w bp bd bl P R vwas vown vmarks mb) {own : PgL} (ho : P.own = some own) : ∃ b, vown = .map (some b) ∧ PgW w (fun g => R g = 5) b own ∧ R b = 2 := by
  rcases h.own with ⟨h1, _⟩ | ⟨b, l, h1, h2, h3, h4⟩
  · rw [ho] at h1; cases h1
  · rw [ho] at h1; injection h1 with h1; subst h1; exact ⟨b, h2, h3, h4⟩

set_option maxHeartbeats 1000000 in
set_option maxRecDepth 100000 in
theorem read_any (w : World) (bp bd bl : Nat) (P : PagerM) (R : Nat → Nat) (hp : PagerW w bp bd bl P R) (W : List Bts) (own : PgL) (c : Nat) (hI : InTx P W own c) (n : Nat) (hn : n < 4096) :
    Calls Tryz.prog 26 #[ptr bp, I n] w fun e w' => ∃ v, e = .returned (.tuple #[v, I 0]) ∧ OwnB w' v (pgV W own n) ∧ Chg Non w w' ∧ ∀ g, v.ownBlock = some g → w.heap.size ≤ g := by
  have AS := ask_any w bp bd bl P R hp
  rw [show askM P = 0 by simp [askM, hI.edead, hI.einn]] at AS
  have AS := Lib.hid AS
  have GD := Lib.hid (pgood_any w n true (by simp; omega))
  have PG := Lib.hid (page_any w bp bd bl P R hp W hI.pgs hI.ewas hI.len n hn)
  obtain ⟨vwas, vown, vmarks, mb, hp⟩ := hp
  obtain ⟨b, rfl, hm, hb2⟩ := hp.ownMap hI.eown
  have c8 : w.cell? ⟨bp, 8, none⟩ = some (.map (some b)) := hp.blk.cell 8
  rcases hm.look2 (n : Int) (wfNat n hn) with ⟨e, hlk⟩ | ⟨x, v, e, hlk, hv⟩
  · have ep : pgV W own n = W.getD n zpage := by simp [pgV, e]
    rw [ep]
    clear hp hm hb2 e ep hI hn
    go_enter Tryz.func26, Tryz.ntmps26
    go_wp2_with (first | (go_at_call 72; refine AS.out.mono ?_; rintro e w' ⟨rfl, hw'⟩; have hw2 := hw'.symm; subst hw2) | (go_at_call 73; refine GD.out.mono ?_; rintro e w' ⟨rfl, hw'⟩; have hw2 := hw'.symm; subst hw2) | (go_at_call 74; refine PG.out.mono ?_; rintro e w5 ⟨rfl, h1, h2⟩; have F := Lib.hid (And.intro h1 h2); clear h1 h2))
    go_ret2
    exact ⟨_, rfl, F.out.1, F.out.2, fun g hg => by simp [Value.ownBlock] at hg; omega⟩
  · have ep : pgV W own n = x := by simp [pgV, e]
    rw [ep]
    have hxl : x.length = 512 := hI.full.find e
    have CL := Lib.hid (clone_sl w v x hv.1 (by omega))
    clear hp hm hb2 e ep hI hn hxl hv
    go_enter Tryz.func26, Tryz.ntmps26
    go_wp2_with (first | (go_at_call 72; refine AS.out.mono ?_; rintro e w' ⟨rfl, hw'⟩; have hw2 := hw'.symm; subst hw2) | (go_at_call 73; refine GD.out.mono ?_; rintro e w' ⟨rfl, hw'⟩; have hw2 := hw'.symm; subst hw2) | (go_at_call 67; refine CL.out.mono ?_; rintro e w5 ⟨v5, rfl, h1, h2, h3⟩; have F := Lib.hid (And.intro h1 (And.intro h2 h3)); clear h1 h2 h3))
    go_ret2
    exact ⟨_, rfl, F.out.1, Chg.of_below F.out.2.1, F.out.2.2⟩

/-- without a transaction, or put out -/
theorem read_ask (w : World) (bp bd bl : Nat) (P : PagerM) (R : Nat → Nat) (hp : PagerW w bp bd bl P R) (n : Int) (ha : ¬ askM P = 0) :
    Calls Tryz.prog 26 #[ptr bp, I n] w fun e w' => e = .returned (.tuple #[.slice none 0 0, I (askM P)]) ∧ w' = w := by
  have AS := ask_any w bp bd bl P R hp
  generalize askM P = x at *
  have AS := Lib.hid AS
  have bx : (x != 0) = true := by simpa using ha
  clear hp ha
  go_enter Tryz.func26, Tryz.ntmps26
  go_wp2_with (first | (go_at_call 72; refine AS.out.mono ?_; rintro e w' ⟨rfl, hw'⟩; have hw2 := hw'.symm; subst hw2))
  go_ret2
  exact ⟨rfl, rfl⟩
/-- a number that is none -/
theorem read_bad (w : World) (bp bd bl : Nat) (P : PagerM) (R : Nat → Nat) (hp : PagerW w bp bd bl P R) (n : Int) (ha : askM P = 0) (hn : n < 0 ∨ 4096 ≤ n) :
    Calls Tryz.prog 26 #[ptr bp, I n] w fun e w' => e = .returned (.tuple #[.slice none 0 0, I 1]) ∧ w' = w := by
  have AS := ask_any w bp bd bl P R hp
  rw [ha] at AS
  have AS := Lib.hid AS
  have GD := Lib.hid (pgood_any w n false (by simp; omega))
  clear hp ha hn
  go_enter Tryz.func26, Tryz.ntmps26
  go_wp2_with (first | (go_at_call 72; refine AS.out.mono ?_; rintro e w' ⟨rfl, hw'⟩; have hw2 := hw'.symm; subst hw2) | (go_at_call 73; refine GD.out.mono ?_; rintro e w' ⟨rfl, hw'⟩; have hw2 := hw'.symm; subst hw2))
  go_ret2
  exact ⟨rfl, rfl⟩
end Go.Proofs.YtamhjjagjjdmoaaGreat
end

section
namespace Go.Proofs.YtamhjjagjjdmoaaGreat
open Go.RowKit Go.Maps Go.Shelf Go.Sort

def writeP (P : PagerM) (own : PgL) (c n : Nat) (x : Bts) : PagerM := { P with wrote := true, own := some (pput own (n : Int) x), count := ((max c (n + 1) : Nat) : Int) }
def rolePg (R : Nat → Nat) (v : Value) : Nat → Nat := fun g => if v.ownBlock = some g then 5 else R g
theorem InTx.write {P : PagerM} {W : List Bts} {own : PgL} {c : Nat} (h : InTx P W own c) (n : Nat) (hn : n < 4096) (x : Bts) (hx : x.length = 512) : InTx (writeP P own c n x) W (pput own (n : Int) x) (max c (n + 1)) where
  edead := h.edead
  einn := h.einn
  ewas := h.ewas
  eown := rfl
  ecount := rfl
  pgs := h.pgs
  len := h.len
  tops := ⟨(h.tops.lt.mono (Nat.le_max_left _ _)).pput n x (by omega), Nat.le_trans h.tops.le (Nat.le_max_left _ _), fun hlt => by
    rw [pfind_pput]
    by_cases e : c ≤ n
    · rw [if_pos (by omega)]; rfl
    · rw [show max c (n + 1) = c by omega] at hlt ⊢
      split
      · rfl
      · exact h.tops.top hlt⟩
  rises := rises_pput h.rises _ _
  full := h.full.pput _ hx
  c4 := by have := h.c4; omega
  marks := h.marks
theorem InTx.owlen {P : PagerM} {W : List Bts} {own : PgL} {c : Nat} (h : InTx P W own c) : own.length ≤ 4096 := (pgOk_of h.rises h.full h.tops.lt h.c4).1

/-- the map of own pages with one more -/
theorem PagerAt.write {w w6 : World} {bp bd bl : Nat} {P : PagerM} {R : Nat → Nat} {vwas vmarks : Value} {b : Nat} {mb : List Nat} (h : PagerAt w bp bd bl P R vwas (.map (some b)) vmarks mb) (v : Value) (own' : PgL)
    (hvR : ∀ g, v.ownBlock = some g → R g = 0 ∧ g < w6.heap.size) (hm : PgW w6 (fun g => rolePg R v g = 5) b own') (c6 : Chg (fun g => g = b) w w6) (hb2 : R b = 2) (c' : Nat) :
    PagerAt (w6.setCell ⟨bp, 9, none⟩ (I c')) bp bd bl { P with own := some own', count := (c' : Int) } (rolePg R v) vwas (.map (some b)) vmarks mb := by
  have keep : ∀ g, R g ≠ 0 → rolePg R v g = R g := fun g hg => by
    unfold rolePg; rw [if_neg (fun e => hg (hvR g e).1)]
  have rbp : R bp ≠ 0 := by rw [h.r1]; decide
  have hbpb : bp ≠ b := fun e => by rw [← e, h.r1] at hb2; cases hb2
  have cW : Chg (fun g => g = bp) w6 (w6.setCell ⟨bp, 9, none⟩ (I c')) := Chg.setCell (S := fun g => g = bp) (p := ⟨bp, 9, none⟩) (Chg.refl _ _) (.inl rfl) _
  have hb6 : Blk w6 bp _ _ := h.blk.chg c6 hbpb
  have hb8 := hb6.set_ 9 (I c')
  generalize w6.setCell ⟨bp, 9, none⟩ (I c') = w8 at *
  have ne : ∀ g r, R g = r → r ≠ 0 → r ≠ 1 → ¬ g = bp := fun g r hg _ h1 e => by rw [e, h.r1] at hg; exact h1 hg.symm
  have ne2 : ∀ g r, R g = r → r ≠ 2 → ¬ g = b := fun g r hg h1 e => by rw [e, hb2] at hg; exact h1 hg.symm
  have c8 : Chg (fun g => g = b ∨ g = bp) w w8 := (c6.mono fun g hg => .inl (.inl hg)).tr (cW.mono fun g hg => .inl (.inr hg))
  have nn : ∀ g r, R g = r → r ≠ 0 → r ≠ 1 → r ≠ 2 → ¬ (g = b ∨ g = bp) := fun g r hg h0 h1 h2 e => e.elim (ne2 g r hg h2) (ne g r hg h0 h1)
  refine ⟨by simpa using hb8, by rw [keep bp rbp]; exact h.r1, h.was.chg c8 fun g hg => nn g 5 (h.rw_ g hg) (by decide) (by decide) (by decide), fun g hg => by rw [keep g (by rw [h.rw_ g hg]; decide)]; exact h.rw_ g hg, .inr ⟨b, _, rfl, rfl, ?_, by rw [keep b (by rw [hb2]; decide)]; exact hb2⟩, ?_, fun g hg => by rw [keep g (by rw [h.rr g hg]; decide)]; exact h.rr g hg, ?_, fun g hg => ?_⟩
  · refine hm.chg cW (fun e => hbpb e.symm) fun g hg e => ?_
    rw [e, keep bp rbp, h.r1] at hg; cases hg
  · exact World.ownsRow.keep_ h.row fun g hg => c8.block g (h.lt g (by rw [h.rr g hg]; decide)) (nn g 3 (h.rr g hg) (by decide) (by decide) (by decide))
  · refine All2.imp' h.marks fun b' m hbm => ⟨(hbm.1.chg c8 (nn b' 4 hbm.2 (by decide) (by decide) (by decide)) fun g hg => nn g 5 hg (by decide) (by decide) (by decide)).mono fun g hg => ?_, ?_⟩
    · show rolePg R v g = 5
      rw [keep g (by rw [hg]; decide)]; exact hg
    · rw [keep b' (by rw [hbm.2]; decide)]; exact hbm.2
  · unfold rolePg at hg
    split at hg
    · next e => exact Nat.lt_of_lt_of_le (hvR g e).2 cW.size
    · exact Nat.lt_of_lt_of_le (h.lt g hg) c8.size

theorem write_ask (w : World) (bp bd bl : Nat) (P : PagerM) (R : Nat → Nat) (hp : PagerW w bp bd bl P R) (n : Int) (v : Value) (ha : ¬ askM P = 0) :
    Calls Tryz.prog 23 #[ptr bp, I n, v] w fun e w' => e = .returned (I (askM P)) ∧ w' = w := by
  have AS := ask_any w bp bd bl P R hp
  generalize askM P = x at *
  have AS := Lib.hid AS
  have bx : (x != 0) = true := by simpa using ha
  clear hp ha
  go_enter Tryz.func23, Tryz.ntmps23
  go_wp2_with (first | (go_at_call 72; refine AS.out.mono ?_; rintro e w' ⟨rfl, hw'⟩; have hw2 := hw'.symm; subst hw2))
  go_ret
  exact ⟨rfl, rfl⟩
theorem write_bad (w : World) (bp bd bl : Nat) (P : PagerM) (R : Nat → Nat) (hp : PagerW w bp bd bl P R) (n : Int) (A : Option Addr) (m c : Nat) (ha : askM P = 0) (hn : (n < 0 ∨ 4096 ≤ n) ∨ m ≠ 512) :
    Calls Tryz.prog 23 #[ptr bp, I n, .slice A m c] w fun e w' => e = .returned (I 1) ∧ w' = w := by
  have AS := ask_any w bp bd bl P R hp
  rw [ha] at AS
  have AS := Lib.hid AS
  by_cases h : n < 0 ∨ 4096 ≤ n
  · have GD := Lib.hid (pgood_any w n false (by simp; omega))
    clear hp ha hn h
    go_enter Tryz.func23, Tryz.ntmps23
    go_wp2_with (first | (go_at_call 72; refine AS.out.mono ?_; rintro e w' ⟨rfl, hw'⟩; have hw2 := hw'.symm; subst hw2) | (go_at_call 73; refine GD.out.mono ?_; rintro e w' ⟨rfl, hw'⟩; have hw2 := hw'.symm; subst hw2))
    go_ret
    exact ⟨rfl, rfl⟩
  · have GD := Lib.hid (pgood_any w n true (by simp; omega))
    have b1 : ((m : Int) != 512) = true := by rcases hn with hn | hn; exact absurd hn h; simp; omega
    clear hp ha hn h
    go_enter Tryz.func23, Tryz.ntmps23
    go_wp2_with (first | (go_at_call 72; refine AS.out.mono ?_; rintro e w' ⟨rfl, hw'⟩; have hw2 := hw'.symm; subst hw2) | (go_at_call 73; refine GD.out.mono ?_; rintro e w' ⟨rfl, hw'⟩; have hw2 := hw'.symm; subst hw2))
    go_ret
    exact ⟨rfl, rfl⟩

set_option maxHeartbeats 1000000 in
set_option maxRecDepth 100000 in
/-- the lock cannot be had -/
theorem write_busy (w : World) (bp bd bl : Nat) (P : PagerM) (R : Nat → Nat) (hp : PagerW w bp bd bl P R) (ha : askM P = 0) (n : Nat) (hn : n < 4096) (A : Option Addr) (cp : Nat) (L : Nat → Int) (hl : Blk w bl 135 (lvls L)) (hL : LvOk L) (hc : P.c < 4) (hbl : R bl = 0) (hb : ¬ (raiseM L P.c 2).1 = 0) :
    Calls Tryz.prog 23 #[ptr bp, I n, .slice A 512 cp] w fun e w' => e = .returned (I (raiseM L P.c 2).1) ∧ PagerW w' bp bd bl P R ∧ Blk w' bl 135 (lvls (raiseM L P.c 2).2) ∧ Chg (fun b => b = bl) w w' := by
  have AS := ask_any w bp bd bl P R hp
  rw [ha] at AS
  have AS := Lib.hid AS
  have GD := Lib.hid (pgood_any w n true (by simp; omega))
  obtain ⟨vwas, vown, vmarks, mb, hp⟩ := hp
  have hne : bl ≠ bp := fun e => by rw [e, hp.r1] at hbl; cases hbl
  have c2 : w.cell? ⟨bp, 2, none⟩ = some (ptr bl) := hp.blk.cell 2
  have c3 : w.cell? ⟨bp, 3, none⟩ = some (I P.c) := hp.blk.cell 3
  have RA := Lib.hid (raise_any w.drew bl P.c L 2 hl.drew hL hc (.inr (.inl rfl)))
  have K2 : Hid (∀ w', Chg (fun b => b = bl) w.drew w' → (w'.cell? ⟨bp, 2, none⟩ = some (ptr bl) ∧ w'.cell? ⟨bp, 3, none⟩ = some (I P.c)) ∧ PagerW w' bp bd bl P R ∧ Chg (fun b => b = bl) w w') := fun w' h =>
    ⟨⟨(h.cell (a := ⟨bp, 2, none⟩) hp.blk.lt (fun e => hne e.symm)).trans c2, (h.cell (a := ⟨bp, 3, none⟩) hp.blk.lt (fun e => hne e.symm)).trans c3⟩,
      ⟨_, _, _, _, hp.chg ((Chg.refl (fun b => b = bl) w).drew.tr h) fun b hb e => hb (by rw [e]; exact hbl)⟩, (Chg.refl (fun b => b = bl) w).drew.tr h⟩
  have bb : ((raiseM L P.c 2).1 != 0) = true := by simpa using hb
  generalize raiseM L P.c 2 = X at *
  obtain ⟨x1, X2⟩ := X
  simp only at bb
  clear hp ha hl hL hc hbl hne hb hn
  go_enter Tryz.func23, Tryz.ntmps23
  go_wp2_with (first | (go_at_call 72; refine AS.out.mono ?_; rintro e w' ⟨rfl, hw'⟩; have hw2 := hw'.symm; subst hw2) | (go_at_call 73; refine GD.out.mono ?_; rintro e w' ⟨rfl, hw'⟩; have hw2 := hw'.symm; subst hw2))
  go_region_held3 (fun w' => w'.cell? ⟨bp, 2, none⟩ = some (ptr bl) ∧ w'.cell? ⟨bp, 3, none⟩ = some (I P.c)) (go_keep) (first | (go_at_call 70; refine RA.out.mono ?_; rintro e w5 ⟨rfl, h1, h2⟩; obtain ⟨⟨r2, r3⟩, h3⟩ := K2.out w5 h2; have F := Lib.hid (And.intro h3 h1); clear h1 h2 h3))
  go_wp2_with fail
  go_ret
  exact ⟨rfl, F.out.1.1, F.out.2, F.out.1.2⟩

set_option maxHeartbeats 2000000 in
set_option maxRecDepth 100000 in
theorem write_ok (w : World) (bp bd bl : Nat) (M : DiskM) (G : DG) (P : PagerM) (R : Nat → Nat) (h : DiskAt w bd M G) (hp : PagerW w bp bd bl P R) (hR : ∀ b, R b ≠ 0 → ¬ G.F b) (W : List Bts) (own : PgL) (c : Nat) (hI : InTx P W own c) (n : Nat) (hn : n < 4096) (v : Value) (x : Bts) (hv : Sl w v x) (hx : x.length = 512)
    (L : Nat → Int) (hl : Blk w bl 135 (lvls L)) (hL : LvOk L) (hc : P.c < 4) (hbl : R bl = 0) (hblG : ¬ G.F bl) (hvl : v.ownBlock ≠ some bl) (hvR : ∀ g, v.ownBlock = some g → R g = 0) (hb : (raiseM L P.c 2).1 = 0) :
    Calls Tryz.prog 23 #[ptr bp, I n, v] w (BPost w bp bd bl G R (I 0) M (writeP P own c n x) (raiseM L P.c 2).2) := by
  have AS := ask_any w bp bd bl P R hp
  rw [show askM P = 0 by simp [askM, hI.edead, hI.einn]] at AS
  have AS := Lib.hid AS
  have GD := Lib.hid (pgood_any w n true (by simp; omega))
  obtain ⟨vwas, vown, vmarks, mb, hp⟩ := hp
  obtain ⟨b, rfl, hm, hb2⟩ := hp.ownMap hI.eown
  obtain ⟨A, cp, rfl, hcp⟩ := hv.form
  rw [hx] at hcp ⊢
  have hne : bl ≠ bp := fun e => by rw [e, hp.r1] at hbl; cases hbl
  have c2 : w.cell? ⟨bp, 2, none⟩ = some (ptr bl) := hp.blk.cell 2
  have c3 : w.cell? ⟨bp, 3, none⟩ = some (I P.c) := hp.blk.cell 3
  have RA := raise_any w.drew bl P.c L 2 hl.drew hL hc (.inr (.inl rfl))
  rw [hb] at RA
  have RA := Lib.hid RA
  have K2 : Hid (∀ w', Chg (fun b => b = bl) w.drew w' → (w'.cell? ⟨bp, 2, none⟩ = some (ptr bl) ∧ w'.cell? ⟨bp, 3, none⟩ = some (I P.c)) ∧ PagerAt w' bp bd bl P R vwas (.map (some b)) vmarks mb ∧ DiskAt w' bd M G ∧ Sl w' (.slice A 512 cp) x ∧ Chg (fun b => b = bl) w w') := fun w' h' =>
    ⟨⟨(h'.cell (a := ⟨bp, 2, none⟩) hp.blk.lt (fun e => hne e.symm)).trans c2, (h'.cell (a := ⟨bp, 3, none⟩) hp.blk.lt (fun e => hne e.symm)).trans c3⟩,
      hp.chg ((Chg.refl (fun b => b = bl) w).drew.tr h') fun b hb e => hb (by rw [e]; exact hbl), h.chg ((Chg.refl (fun b => b = bl) w).drew.tr h') (fun b hb e => hblG (by rw [← e]; exact hb)),
      by rw [hx] at hv hvl; exact hv.chg ((Chg.refl (fun b => b = bl) w).drew.tr h') fun g hg e => hvl (by rw [hg, e]), (Chg.refl (fun b => b = bl) w).drew.tr h'⟩
  have hmx : max (P.count) ((n : Int) + 1) = ((max c (n + 1) : Nat) : Int) := by rw [hI.ecount]; omega
  have hcnt := hI.ecount
  have H := Lib.hid (And.intro h.olt (And.intro hR (And.intro hbl (And.intro hblG (And.intro hI (And.intro hb2 (And.intro hx (And.intro hn (And.intro hne (And.intro hvR hvl))))))))))
  generalize raiseM L P.c 2 = X at *
  obtain ⟨x1, X2⟩ := X
  generalize hC : max c (n + 1) = C at *
  rw [hcnt] at hmx
  have HC := Lib.hid (And.intro hC hcnt)
  clear h hp hR hI hL hc hbl hblG hne hb hm hb2 hv hvl hl hC hcnt hx hvR
  go_enter Tryz.func23, Tryz.ntmps23
  go_wp2_with (first | (go_at_call 72; refine AS.out.mono ?_; rintro e w' ⟨rfl, hw'⟩; have hw2 := hw'.symm; subst hw2) | (go_at_call 73; refine GD.out.mono ?_; rintro e w' ⟨rfl, hw'⟩; have hw2 := hw'.symm; subst hw2))
  go_region_held3 (fun w' => w'.cell? ⟨bp, 2, none⟩ = some (ptr bl) ∧ w'.cell? ⟨bp, 3, none⟩ = some (I P.c)) (go_keep) (first | (go_at_call 70; refine RA.out.mono ?_; rintro e w5 ⟨rfl, h1, h2⟩; obtain ⟨⟨r2, r3⟩, h3⟩ := K2.out w5 h2; have F := Lib.hid (And.intro h3 h1); clear h1 h2 h3))
  have b6 : Blk w5 bp 140 _ := F.out.1.1.blk
  have f6 : w5.frozen? ⟨bp, 6, none⟩ = false := b6.frozen 6
  have g6 : w5.cell? ⟨bp, 6, none⟩ = some (.bool P.wrote) := b6.cell 6
  have g8 : w5.cell? ⟨bp, 8, none⟩ = some (.map (some b)) := b6.cell 8
  have g9 : w5.cell? ⟨bp, 9, none⟩ = some (I P.count) := b6.cell 9
  clear b6
  go_wp2_with fail
  have HW : Hid (∃ u, u = w5.setCell ⟨bp, 6, none⟩ (.bool true)) := ⟨_, rfl⟩
  obtain ⟨u, hu⟩ := HW.out
  clear HW
  rw [← hu]
  have ST : Hid (u.cell? ⟨bp, 8, none⟩ = some (.map (some b)) ∧ (∀ u1, Chg Non u u1 → Calls Tryz.prog 67 #[.slice A 512 cp] u1 fun e w' => ∃ v', e = .returned v' ∧ OwnB w' v' x ∧ Chg Non u w' ∧ w'.cell? ⟨bp, 8, none⟩ = some (.map (some b)) ∧
      ∃ w6, (Instr.mapUpdate 137 (.map (some b)) (I n) v').run Tryz.prog w' = .ok () w6 ∧ w6.cell? ⟨bp, 8, none⟩ = some (.map (some b)) ∧ w6.cell? ⟨bp, 9, none⟩ = some (I c) ∧ w6.frozen? ⟨bp, 9, none⟩ = false ∧ BPost w bp bd bl G R (I 0) M (writeP P own c n x) X2 (.returned (I 0)) (w6.setCell ⟨bp, 9, none⟩ (I C)))) := by
    obtain ⟨⟨p5, d5, s5, c5⟩, l5⟩ := F.out
    obtain ⟨k1, k2, k3, k4, hI, hb2, hx, _, hne, hvR, hvl⟩ := H.out
    have pu := p5.wrote_ true
    have cu : Chg (fun b => b = bp) w5 u := by rw [hu]; exact Chg.setCell (S := fun b => b = bp) (p := ⟨bp, 6, none⟩) (Chg.refl _ w5) (.inl rfl) _
    rw [← hu] at pu
    have rbp : R bp ≠ 0 := by rw [p5.r1]; decide
    have du := d5.chg cu fun g hg e => k2 bp rbp (by rw [← e]; exact hg)
    have su : Sl u (.slice A 512 cp) x := s5.chg cu fun g hg e => rbp (by rw [← e]; exact hvR g (by rw [hx]; exact hg))
    have lu : Blk u bl 135 (lvls X2) := Blk.chg (S := fun b => b = bp) l5 cu hne
    refine ⟨pu.blk.cell 8, fun u1 hu1 => ?_⟩
    refine (clone_sl u1 _ x (su.chg hu1 fun _ _ => id) (by omega)).mono ?_
    rintro e w' ⟨v', rfl, q1, q2, q3⟩
    have c1 : Chg Non u w' := hu1.tr (Chg.of_below q2)
    have q3' : ∀ g, v'.ownBlock = some g → u.heap.size ≤ g := fun g hg => Nat.le_trans hu1.size (q3 g hg)
    have pw := pu.chg c1 fun _ _ => id
    refine ⟨v', rfl, q1, c1, pw.blk.cell 8, ?_⟩
    have hR0 : ∀ g, u.heap.size ≤ g → R g = 0 := fun g hg => by
      by_cases e : R g = 0
      · exact e
      · have := pu.lt g e; omega
    obtain ⟨b', e', hm', hb2'⟩ := pw.ownMap (own := own) hI.eown
    injection e' with e'; injection e' with e'; subst e'
    have hvlt : ∀ g, v'.ownBlock = some g → g < w'.heap.size := fun g hg => by
      rcases q1 with ⟨e, _⟩ | ⟨g', cap, cur, e, hb', _⟩
      · rw [e] at hg; simp [Value.ownBlock] at hg
      · rw [e] at hg; simp [Value.ownBlock] at hg; subst hg; exact hb'.lt
    have keep : ∀ g, R g ≠ 0 → rolePg R v' g = R g := fun g hg => by
      unfold rolePg; rw [if_neg (fun e => hg (hR0 g (q3' g e)))]
    obtain ⟨w6, hmu, hm6, hg6⟩ := (hm'.mono (F' := fun g => rolePg R v' g = 5) fun g hg => by
      show rolePg R v' g = 5
      rw [keep g (by rw [hg]; decide)]; exact hg).put (n : Int) (wfNat n hn) v' x ⟨q1.sl, fun g hg => ⟨by show rolePg R v' g = 5; unfold rolePg; rw [if_pos hg], hvlt g hg⟩⟩ (by have := hI.owlen; unfold maxLen; omega)
    have c6 : Chg (fun g => g = b) w' w6 := Chg.grown (S := fun g => g = b) (Chg.refl _ w') hg6 fun g hg => .inl (Option.some.inj hg).symm
    have hbpb : bp ≠ b := fun e => by rw [← e, p5.r1] at hb2; cases hb2
    have b6 : Blk w6 bp 140 _ := pw.blk.chg c6 hbpb
    refine ⟨w6, hmu, b6.cell 8, ?_, b6.frozen 9, ?_⟩
    · have := b6.cell 9
      rw [this]
      show some (I P.count) = _
      rw [HC.out.2]
    · have pf := pw.write v' (pput own (n : Int) x) (fun g hg => ⟨hR0 g (q3' g hg), Nat.lt_of_lt_of_le (hvlt g hg) c6.size⟩) hm6 c6 hb2 C
      have c9 : Chg (fun g => g = bp) w6 (w6.setCell ⟨bp, 9, none⟩ (I C)) := Chg.setCell (S := fun g => g = bp) (p := ⟨bp, 9, none⟩) (Chg.refl _ _) (.inl rfl) _
      have cA : Chg (fun g => g = b ∨ g = bp) u (w6.setCell ⟨bp, 9, none⟩ (I C)) := ((c1.mono fun _ hf => hf.elim).tr (c6.mono fun g hg => .inl (.inl hg))).tr (c9.mono fun g hg => .inl (.inr hg))
      have rb : R b ≠ 0 := by rw [hb2]; decide
      have hs5 := c5.size
      have hsu := cu.size
      refine ⟨G, rolePg R v', rfl, du.chg cA fun g hg e => ?_, ⟨_, _, _, _, by rw [← HC.out.1] at pf ⊢; exact pf⟩, Blk.chg (S := fun g => g = b ∨ g = bp) lu cA (fun e => e.elim (fun e => rb (by rw [← e]; exact k3)) hne), ?_, fun g hg => .inl hg, fun g hg => ?_, fun g hg => ?_, ?_, k4⟩
      · rcases e with e | e
        · exact k2 b rb (by rw [← e]; exact hg)
        · exact k2 bp rbp (by rw [← e]; exact hg)
      · refine ((c5.mono (S' := fun b => G.F b ∨ R b ≠ 0 ∨ b = bl) fun g hg => .inl (.inr (.inr hg))).trans cu fun g hg => .inl (.inr (.inl (by rw [hg]; exact rbp)))).trans cA fun g hg => .inl (.inr (.inl ?_))
        rcases hg with e | e
        · rw [e]; exact rb
        · rw [e]; exact rbp
      · unfold rolePg at hg
        split at hg
        · next e => exact .inr (by have := q3' g e; omega)
        · exact .inl hg
      · unfold rolePg at hg
        split at hg
        · next e => exact fun hG => by have := k1 g hG; have := q3' g e; omega
        · exact k2 g hg
      · unfold rolePg
        rw [if_neg (fun e => by have := q3' bl e; have := lu.lt; omega)]; exact k3
  obtain ⟨q8, CL⟩ := ST.out
  have CL := Lib.hid CL
  clear ST hu f6 g6 g8 g9
  go_region_held3 (fun w' => w'.cell? ⟨bp, 8, none⟩ = some (.map (some b))) (go_keep) (first | (go_at_call 67; refine (CL.out _ (by exact (Chg.refl _ _).drew)).mono ?_; rintro e w7 ⟨v7, rfl, h1, h2, h3, w8, hmu, r8, h4, h5, h6⟩; have FIN := Lib.hid h6; clear h1 h2 h6))
  go_wp2_with fail
  go_ret
  exact FIN.out
end Go.Proofs.YtamhjjagjjdmoaaGreat
end

section
namespace Go.Proofs.YtamhjjagjjdmoaaGreat
open Go.RowKit Go.Maps Go.Shelf Go.Sort

theorem rollback_ask (w : World) (bp bd bl : Nat) (P : PagerM) (R : Nat → Nat) (hp : PagerW w bp bd bl P R) (ha : ¬ askM P = 0) :
    Calls Tryz.prog 30 #[ptr bp] w fun e w' => e = .returned (I (askM P)) ∧ w' = w := by
  have AS := ask_any w bp bd bl P R hp
  generalize askM P = x at *
  have AS := Lib.hid AS
  have bx : (x != 0) = true := by simpa using ha
  clear hp ha
  go_enter Tryz.func30, Tryz.ntmps30
  go_wp2_with (first | (go_at_call 72; refine AS.out.mono ?_; rintro e w' ⟨rfl, hw'⟩; have hw2 := hw'.symm; subst hw2))
  go_ret
  exact ⟨rfl, rfl⟩
theorem rollback_in (w : World) (bp bd bl : Nat) (P : PagerM) (R : Nat → Nat) (hp : PagerW w bp bd bl P R) (ha : askM P = 0) (L : Nat → Int) (hl : Blk w bl 135 (lvls L)) (hL : LvOk L) (hc : P.c < 4) (hbl : R bl = 0) :
    Calls Tryz.prog 30 #[ptr bp] w fun e w' => e = .returned (I 0) ∧ PagerW w' bp bd bl (idleM P) R ∧ Blk w' bl 135 (lvls (lowerM L P.c)) ∧ Chg (fun b => b = bp ∨ b = bl) w w' := by
  have AS := ask_any w bp bd bl P R hp
  rw [ha] at AS
  have AS := Lib.hid AS
  have E := Lib.hid (end_any w bp bd bl P R hp L hl hL hc hbl)
  clear hp ha hl hL hc hbl
  go_enter Tryz.func30, Tryz.ntmps30
  go_wp2_with (first | (go_at_call 72; refine AS.out.mono ?_; rintro e w' ⟨rfl, hw'⟩; have hw2 := hw'.symm; subst hw2) | (go_at_call 78; refine E.out.mono ?_; rintro e w5 ⟨rfl, h1⟩; have F := Lib.hid h1; clear h1))
  go_ret
  exact ⟨rfl, F.out⟩

/-- what news keeps -/
def newF (W : List Bts) : Int × Bts → Bool := fun p => decide ((W.length : Int) ≤ p.1) || p.2 != W.getD p.1.toNat zpage
theorem newsL_eq (W : List Bts) (own : PgL) : newsL W own = own.filter (newF W) := rfl

set_option maxHeartbeats 2000000 in
set_option maxRecDepth 100000 in
theorem news_any (w : World) (bp bd bl : Nat) (P : PagerM) (R : Nat → Nat) (hp : PagerW w bp bd bl P R) (W : List Bts) (own : PgL) (c : Nat) (hI : InTx P W own c) :
    Calls Tryz.prog 75 #[ptr bp] w fun e w' => ∃ bm, e = .returned (.map (some bm)) ∧ PgW w' (fun g => R g = 5) bm (newsL W own) ∧ Chg Non w w' ∧ w.heap.size ≤ bm := by
  obtain ⟨vwas, vown, vmarks, mb, hp⟩ := hp
  obtain ⟨b, rfl, hm, hb2⟩ := hp.ownMap hI.eown
  obtain ⟨A, cp, hvw, hcp⟩ := hp.was.form
  rw [hI.ewas] at hvw hcp
  have hfl := length_flat512 hI.pgs
  have c8 : w.cell? ⟨bp, 8, none⟩ = some (.map (some b)) := hp.blk.cell 8
  have c7 : w.cell? ⟨bp, 7, none⟩ = some vwas := hp.blk.cell 7
  rw [hvw] at c7
  obtain ⟨w1, hw1⟩ : ∃ w1, w1 = w.alloc (.map #[] 0) := ⟨_, rfl⟩
  have hmk := makeMap_run w
  rw [← hw1] at hmk
  have cw : Chg Non w w1 := by rw [hw1]; exact (Chg.refl _ w).alloc _
  have d8 : w1.cell? ⟨bp, 8, none⟩ = some (.map (some b)) := (cw.cell (a := ⟨bp, 8, none⟩) hp.blk.lt id).trans c8
  have m1 : PgW w1 (fun g => R g = 5) w.heap.size [] := by rw [hw1]; exact PgW.made w _
  have o1 := hm.chg cw id fun _ _ => id
  have R1 := Lib.hid (And.intro o1 (And.intro m1 (And.intro cw (And.intro hp (And.intro hI (And.intro hb2 (And.intro hvw hfl)))))))
  have sz : w1.heap.size = w.heap.size + 1 := by rw [hw1]; simp
  have SZ := Lib.hid sz
  have hbw := hm.lt
  have HB := Lib.hid hbw
  clear hw1 hm hb2 hp hI c8 c7 hvw hcp hfl cw m1 o1 sz hbw
  go_enter Tryz.func75, Tryz.ntmps75
  go_wp2_with (first | (at_range; refine wpList_pgRange rfl _ rfl rfl R1.out.1 ?_; intro w2 hr5 hc5 _; have R2 := Lib.hid (And.intro hr5 hc5); clear hr5 hc5))
  try go_frame
  go_loopw [4, 5] (fun _ _ wr => ∃ left cnt, PgR wr (fun g => R g = 5) b w1.heap.size own left cnt ∧ PgW wr (fun g => R g = 5) w.heap.size (own.filter fun p => !left p.1 && newF W p) ∧ Chg (fun g => g = w.heap.size ∨ g = w1.heap.size) w2 wr) (fun _ _ wr => wr.rangeLeft b w1.heap.size)
  case atStart =>
    obtain ⟨o1, m1, cw, hp, hI, hb2, _, _⟩ := R1.out
    have e : own.filter (fun p => !(pfind own p.1).isSome && newF W p) = [] := kept_start own (newF W) (fun k => (pfind own k).isSome) fun p hp => by
      obtain ⟨i, hi, rfl⟩ := List.getElem_of_mem hp
      rw [pfind_at hI.rises i hi]; rfl
    exact ⟨_, _, R2.out.1, by rw [e]; exact m1.chg R2.out.2 id fun _ _ => id, Chg.refl _ _⟩
  case round =>
    obtain ⟨left, cnt, hr, hn, hch⟩ := hrel
    have HR := Lib.hid (And.intro hr (And.intro hn hch))
    clear hr hn hch
    have RL : Hid (∀ g, R g ≠ 0 → g ≠ w.heap.size ∧ g ≠ w1.heap.size) := fun g hg => by
      obtain ⟨o1, m1, cw, hp, hI, hb2, _, _⟩ := R1.out
      have := hp.lt g hg
      have := SZ.out
      omega
    have NS : Hid (Chg (fun g => g = w.heap.size ∨ g = w1.heap.size) w wr) := by
      obtain ⟨o1, m1, cw, hp, hI, hb2, _, _⟩ := R1.out
      exact ((cw.tr R2.out.2).mono fun _ hf => hf.elim).trans HR.out.2.2 fun g hg => .inl hg
    go_wp2_with (first | (at_next; refine wpList_pgNext rfl _ rfl rfl HR.out.1 ?_ ?_))
    · intro hall
      have HA := Lib.hid hall
      clear hall
      go_wp2_with fail
      go_ret
      have e := kept_end own (newF W) left HA.out
      refine ⟨_, rfl, by rw [newsL_eq, ← e]; exact HR.out.2.1, NS.out.mono fun g hg => .inr ?_, Nat.le_refl _⟩
      have := SZ.out
      rcases hg with e | e <;> omega
    · intro k v x w6 cnt' hk hx hv hwf hr6 hlt6 hc6 hsz6 hen
      obtain ⟨o1, m1, cw, hp, hI, hb2, hvw, hfl⟩ := R1.out
      have hks := hI.tops.lt _ (pfind_mem hx)
      have hxl : x.length = 512 := hI.full.find hx
      simp only at hks
      obtain ⟨q, rfl⟩ : ∃ q : Nat, k = (q : Int) := ⟨k.toNat, by omega⟩
      have hc4 := hI.c4
      have hq4 : q < 4096 := by omega
      have rbp : R bp ≠ 0 := by rw [hp.r1]; decide
      have cw6 : Chg (fun g => g = w.heap.size ∨ g = w1.heap.size) w w6 := NS.out.trans hc6 fun g hg => .inl (.inr hg)
      have hp6 : PagerAt w6 bp bd bl P R vwas (.map (some b)) vmarks mb := hp.chg cw6 fun g hg e => e.elim (RL.out g hg).1 (RL.out g hg).2
      have d7 : w6.cell? ⟨bp, 7, none⟩ = some (.slice A W.flatten.length cp) := by rw [← hvw]; exact hp6.blk.cell 7
      have n6 : PgW w6 (fun g => R g = 5) w.heap.size (own.filter fun p => !left p.1 && newF W p) := HR.out.2.1.chg hc6 (by have := SZ.out; omega) fun g hg e => (RL.out g (by rw [hg]; decide)).2 e
      have hst := kept_step own hI.rises left (newF W) q x hk hx
      have hlenF : (own.filter fun p => !left p.1 && newF W p).length < maxLen := by
        have h1 : (own.filter fun p => !left p.1 && newF W p).length ≤ own.length := List.length_filter_le _ _
        have := hI.owlen; unfold maxLen; omega
      -- one more kept page
      have PUT : Hid (newF W ((q : Int), x) = true → ∀ u, Chg Non w6 u → ∃ w8, (Instr.mapUpdate 137 (.map (some w.heap.size)) (I q) v).run Tryz.prog u = .ok () w8 ∧ PgR w8 (fun g => R g = 5) b w1.heap.size own (fun z => left z && !(z == (q : Int))) cnt' ∧ PgW w8 (fun g => R g = 5) w.heap.size (own.filter fun p => !(left p.1 && !(p.1 == (q : Int))) && newF W p) ∧ Chg (fun g => g = w.heap.size ∨ g = w1.heap.size) w2 w8) := by
        intro hf u cu
        obtain ⟨w8, h1, h2, h3⟩ := (n6.chg cu id fun _ _ => id).put (q : Int) hwf v x (hv.chg cu fun _ _ => id) hlenF
        have c8 : Chg (fun g => g = w.heap.size) u w8 := Chg.grown (S := fun g => g = w.heap.size) (Chg.refl _ u) h3 fun g hg => .inl (Option.some.inj hg).symm
        refine ⟨w8, h1, (hr6.chg cu id id fun _ _ => id).chg c8 (by have := HB.out; omega) (by have := SZ.out; omega) fun g hg e => (RL.out g (by rw [hg]; decide)).1 e, ?_, ?_⟩
        · rw [hst, if_pos hf]; exact h2
        · exact ((HR.out.2.2.trans hc6 fun g hg => .inl (.inr hg)).trans cu fun _ hf => hf.elim).trans c8 fun g hg => .inl (.inl hg)
      have SKIP : Hid (newF W ((q : Int), x) = false → ∀ u, Chg Non w6 u → PgR u (fun g => R g = 5) b w1.heap.size own (fun z => left z && !(z == (q : Int))) cnt' ∧ PgW u (fun g => R g = 5) w.heap.size (own.filter fun p => !(left p.1 && !(p.1 == (q : Int))) && newF W p) ∧ Chg (fun g => g = w.heap.size ∨ g = w1.heap.size) w2 u) := by
        intro hf u cu
        refine ⟨hr6.chg cu id id fun _ _ => id, ?_, (HR.out.2.2.trans hc6 fun g hg => .inl (.inr hg)).trans cu fun _ hf => hf.elim⟩
        rw [hst, hf]; exact n6.chg cu id fun _ _ => id
      have PG := Lib.hid (page_any w6 bp bd bl P R ⟨_, _, _, _, hp6⟩ W hI.pgs hI.ewas hI.len q hq4)
      have MS : Hid (cnt' < cnt ∧ wr.rangeLeft b w1.heap.size = cnt) := ⟨hlt6, HR.out.1.left_eq⟩
      have hpw : (W.getD q zpage).length = 512 := hI.pgs.getD q
      have bN : W.flatten.length ≤ 2097152 := by have := hI.len; omega
      have VX := Lib.hid (And.intro hv.1 (And.intro hxl hpw))
      by_cases hWq : W.length ≤ q
      · have hf : newF W ((q : Int), x) = true := by simp [newF]; omega
        obtain ⟨w8, hmu, P8⟩ := PUT.out hf w6 (Chg.refl _ _)
        have P8 := Lib.hid P8
        have b6 : decide (((W.flatten.length : Nat) : Int) / 512 ≤ (q : Int)) = true := by rw [hfl]; simp; omega
        clear o1 m1 cw hp hI hb2 hvw hfl hks hxl hp6 n6 hst hlenF hv hr6 hc6 hsz6 hx hk hwf cw6 hf hWq PUT SKIP hpw hlt6 rbp
        generalize W.flatten.length = N at *
        go_wp2_with fail
        try go_frame
        go_roundw
        case rel => exact ⟨_, _, P8.out⟩
        case measure => rw [P8.out.1.left_eq, MS.out.2]; exact MS.out.1
      · have b6 : decide (((W.flatten.length : Nat) : Int) / 512 ≤ (q : Int)) = false := by rw [hfl]; simp; omega
        have EQ : Hid (∀ u v2, Sl u v2 (W.getD q zpage) → Sl u v x → Calls Tryz.prog 120 #[v, v2] u fun e w' => e = .returned (.bool (x == W.getD q zpage)) ∧ ∃ m, w' = u.drewN m) := fun u v2 h1 h2 =>
          equal_any u v v2 x (W.getD q zpage) h2 h1 (by omega) (by omega) (by omega) (by omega)
        have hnf : newF W ((q : Int), x) = !(x == W.getD q zpage) := by
          have h1 : decide ((W.length : Int) ≤ (q : Int)) = false := by simp; omega
          simp only [newF, h1, Bool.false_or, Int.toNat_natCast]; rfl
        rw [hnf] at PUT SKIP
        clear o1 m1 cw hp hI hb2 hvw hfl hks hxl hp6 n6 hst hlenF hv hr6 hc6 hsz6 hx hk hwf cw6 hWq hpw hlt6 hnf rbp
        generalize W.flatten.length = N at *
        cases hxe : (x == W.getD q zpage)
        · rw [hxe] at EQ PUT
          clear SKIP hxe
          go_wp2_with (first | (go_at_call 74; refine PG.out.mono ?_; rintro e w7 ⟨rfl, h1, h2⟩; have F := Lib.hid (And.intro h1 h2); clear h1 h2) | (go_at_call 120; refine (EQ.out _ _ F.out.1.sl (VX.out.1.chg F.out.2 fun _ _ => id)).mono ?_; rintro e w8 ⟨rfl, m, rfl⟩; obtain ⟨w9, hmu, P9⟩ := PUT.out rfl _ ((F.out.2).drewN m); have P8 := Lib.hid P9; clear P9))
          try go_frame
          go_roundw
          case rel => exact ⟨_, _, P8.out⟩
          case measure => rw [P8.out.1.left_eq, MS.out.2]; exact MS.out.1
        · rw [hxe] at EQ SKIP
          clear PUT hxe
          go_wp2_with (first | (go_at_call 74; refine PG.out.mono ?_; rintro e w7 ⟨rfl, h1, h2⟩; have F := Lib.hid (And.intro h1 h2); clear h1 h2) | (go_at_call 120; refine (EQ.out _ _ F.out.1.sl (VX.out.1.chg F.out.2 fun _ _ => id)).mono ?_; rintro e w8 ⟨rfl, m, rfl⟩; have P8 := Lib.hid (SKIP.out rfl _ ((F.out.2).drewN m))))
          try go_frame
          go_roundw
          case rel => exact ⟨_, _, P8.out⟩
          case measure => rw [P8.out.1.left_eq, MS.out.2]; exact MS.out.1
end Go.Proofs.YtamhjjagjjdmoaaGreat
end

section
namespace Go.Proofs.YtamhjjagjjdmoaaGreat
open Go.RowKit Go.Maps Go.Shelf Go.Sort

def byLogM (M : DiskM) (L : LogL) (c : Nat) (l : PgL) (s : Int) : Int × DiskM × Int :=
  ((layM M logN (blocksOn L).length (blockM c l)).1, (layM M logN (blocksOn L).length (blockM c l)).2, if (layM M logN (blocksOn L).length (blockM c l)).1 = 0 then (((blocksOn L).length + (blockM c l).length : Nat) : Int) else s)

set_option maxHeartbeats 2000000 in
set_option maxRecDepth 100000 in
theorem byLog_any (w : World) (bp bd bl : Nat) (M : DiskM) (G : DG) (P : PagerM) (R : Nat → Nat) (h : DiskAt w bd M G) (ht : TrOk M) (hp : PagerW w bp bd bl P R) (hR : ∀ b, R b ≠ 0 → ¬ G.F b) (ho : M.off = false) (L : LogL) (hL : LogIs M L) (hok : LogOk L)
    (bm : Nat) (l : PgL) (hm : PgW w (fun g => R g = 5) bm l) (hl : PgOk l) (c : Nat) (hc : P.count = (c : Int)) (hc4 : c ≤ 4096) (hlen : (blocksOn L).length + (blockM c l).length ≤ 4194304) :
    Calls Tryz.prog 77 #[ptr bp, .map (some bm)] w (FPost w bp bd bl G R (I (byLogM M L c l P.sure).1) (byLogM M L c l P.sure).2.1 { P with sure := (byLogM M L c l P.sure).2.2 }) := by
  obtain ⟨vwas, vown, vmarks, mb, hp⟩ := hp
  have c9 : w.cell? ⟨bp, 9, none⟩ = some (I c) := by rw [← hc]; exact hp.blk.cell 9
  have BK := Lib.hid (block_any w _ bm l hm hl c hc4)
  have bln : 0 < (blockM c l).length := by simp [blockM]
  have H := Lib.hid (And.intro h (And.intro ht (And.intro hp (And.intro hR (And.intro ho (And.intro hL (And.intro hok hlen)))))))
  have ST : Hid (∀ w2, Chg Non w w2 → DiskAt w2 bd M G ∧ PagerAt w2 bp bd bl P R vwas vown vmarks mb ∧ (Calls Tryz.prog 117 #[ptr bp] w2 fun e w' => ∃ bm2, e = .returned (.tuple #[.map (some bm2), I (lastCount L), I (blocksOn L).length, I (blocksOn L).length, I 0]) ∧ Chg Non w2 w') ∧
      ∀ v, OwnB w2 v (blockM c l) → (∀ g, v.ownBlock = some g → w.heap.size ≤ g) → Calls Tryz.prog 121 #[ptr bp, .string ⟨#[98, 97, 115, 101, 45, 108, 111, 103]⟩, I (blocksOn L).length, v] w2 (DPost w bd G (I (layM M logN (blocksOn L).length (blockM c l)).1) (layM M logN (blocksOn L).length (blockM c l)).2)) := by
    intro w2 c2
    obtain ⟨h, ht, hp, hR, ho, hL, hok, hlen⟩ := H.out
    have h2 := h.chg c2 fun _ _ => id
    have p2 := hp.chg c2 fun _ _ => id
    refine ⟨h2, p2, (blocks_any w2 bp bd M G h2 (p2.pd hR) ho L hL hok).mono ?_, fun v hv hvg => (lay_any w2 bp bd nLog good_log _ (by omega) v (blockM c l) (by omega) bln hv.sl M G h2 ht (p2.pd hR) fun g hg => ⟨fun e => by have := h.olt g e; have := hvg g hg; omega, ?_⟩).mono ?_⟩
    · rintro e w' ⟨bm2, rfl, _, k, _⟩
      exact ⟨bm2, rfl, k⟩
    · rcases hv with ⟨e, _⟩ | ⟨g', cap, cur, e, hb', _⟩
      · rw [e] at hg; simp [Value.ownBlock] at hg
      · rw [e] at hg; simp [Value.ownBlock] at hg; subst hg; exact hb'.lt
    · intro e w' hq
      exact hq.from_ (c2.mono fun _ hf => hf.elim) fun b hb => .inl hb
  have FIN : Hid (∀ w3 G3, DiskAt w3 bd (layM M logN (blocksOn L).length (blockM c l)).2 G3 → Chg G.F w w3 → (∀ b, G3.F b → G.F b ∨ w.heap.size ≤ b) → PagerAt w3 bp bd bl P R vwas vown vmarks mb ∧ Chg (fun b => G.F b ∨ b = bp) w w3 ∧ ∀ s : Int, DiskAt (w3.setCell ⟨bp, 12, none⟩ (I s)) bd (layM M logN (blocksOn L).length (blockM c l)).2 G3 ∧ PagerAt (w3.setCell ⟨bp, 12, none⟩ (I s)) bp bd bl { P with sure := s } R vwas vown vmarks mb ∧ Chg (fun b => G.F b ∨ b = bp) w (w3.setCell ⟨bp, 12, none⟩ (I s))) := by
    intro w3 G3 k1 k2 k3
    obtain ⟨h, ht, hp, hR, ho, hL, hok, hlen⟩ := H.out
    have hp3 := hp.chg k2 hR
    have hbG : ¬ G3.F bp := fun e => by
      rcases k3 bp e with e | e
      · exact hR bp (by rw [hp.r1]; decide) e
      · have := hp.lt bp (by rw [hp.r1]; decide); omega
    refine ⟨hp3, k2.mono fun b hb => .inl (.inl hb), fun s => ?_⟩
    have cS : Chg (fun b => b = bp) w3 (w3.setCell ⟨bp, 12, none⟩ (I s)) := Chg.setCell (S := fun b => b = bp) (p := ⟨bp, 12, none⟩) (Chg.refl _ w3) (.inl rfl) _
    exact ⟨k1.chg cS fun b hb e => hbG (by rw [← e]; exact hb), hp3.sure_ s, (k2.mono fun b hb => .inl (.inl hb)).trans cS fun b hb => .inl (.inr hb)⟩
  clear h ht hp hR ho hL hok hc hm hl
  unfold byLogM
  generalize (layM M logN (blocksOn L).length (blockM c l)) = X at *
  generalize hB : (blockM c l).length = B at *
  have HB := Lib.hid hB
  clear hB
  generalize (blocksOn L).length = E at *
  obtain ⟨x, X2⟩ := X
  have b1 : decide ((4194304 : Int) < (E : Int) + (B : Int)) = false := by simp; omega
  by_cases hx : x = 0
  · subst hx
    go_enter Tryz.func77, Tryz.ntmps77
    go_wp2_with (first | (go_at_call 122; refine BK.out.mono ?_; rintro e w1 ⟨v, rfl, h1, h2, h3⟩; obtain ⟨A1, c1, rfl, hc1⟩ := h1.form; rw [HB.out]; have V := Lib.hid (And.intro h1 (And.intro h2 h3)); clear h1 h2 h3) | (go_at_call 117; refine (ST.out _ V.out.2.1).2.2.1.mono ?_; rintro e w2 ⟨bm2, rfl, k⟩; have K := Lib.hid (V.out.2.1.tr k); have VV := Lib.hid (V.out.1.chg k fun _ _ => id); rw [HB.out] at VV; clear k) | (go_at_call 121; refine ((ST.out _ K.out).2.2.2 _ VV.out (fun g hg => V.out.2.2 g (by rw [HB.out]; exact hg))).mono ?_; rintro e w3 ⟨G3, rfl, h1, h2, h3⟩; obtain ⟨q1, q2, q3⟩ := FIN.out w3 G3 h1 h2 h3; have f12 : w3.frozen? ⟨bp, 12, none⟩ = false := q1.blk.frozen 12; have g12 : w3.cell? ⟨bp, 12, none⟩ = some (I P.sure) := q1.blk.cell 12; have Q3 := Lib.hid (And.intro q3 h3); clear q1 q2 q3 h1 h2 h3))
    go_ret
    obtain ⟨d3, p3, c3⟩ := Q3.out.1 ((E : Int) + (B : Int))
    exact ⟨G3, rfl, d3, ⟨_, _, _, _, p3⟩, c3, Q3.out.2⟩
  · have bx : (x != 0) = true := by simpa using hx
    have hi : (if x = 0 then ((E + B : Nat) : Int) else P.sure) = P.sure := if_neg hx
    rw [hi]
    clear hx hi
    go_enter Tryz.func77, Tryz.ntmps77
    go_wp2_with (first | (go_at_call 122; refine BK.out.mono ?_; rintro e w1 ⟨v, rfl, h1, h2, h3⟩; obtain ⟨A1, c1, rfl, hc1⟩ := h1.form; rw [HB.out]; have V := Lib.hid (And.intro h1 (And.intro h2 h3)); clear h1 h2 h3) | (go_at_call 117; refine (ST.out _ V.out.2.1).2.2.1.mono ?_; rintro e w2 ⟨bm2, rfl, k⟩; have K := Lib.hid (V.out.2.1.tr k); have VV := Lib.hid (V.out.1.chg k fun _ _ => id); rw [HB.out] at VV; clear k) | (go_at_call 121; refine ((ST.out _ K.out).2.2.2 _ VV.out (fun g hg => V.out.2.2 g (by rw [HB.out]; exact hg))).mono ?_; rintro e w3 ⟨G3, rfl, h1, h2, h3⟩; obtain ⟨q1, q2, q3⟩ := FIN.out w3 G3 h1 h2 h3; have Q3 := Lib.hid (And.intro h1 (And.intro q1 (And.intro q2 h3))); clear q1 q2 q3 h1 h2 h3))
    go_ret
    exact ⟨G3, rfl, Q3.out.1, ⟨_, _, _, _, Q3.out.2.1⟩, Q3.out.2.2⟩
end Go.Proofs.YtamhjjagjjdmoaaGreat
end

section
namespace Go.Proofs.YtamhjjagjjdmoaaGreat
open Go.RowKit Go.Maps Go.Shelf Go.Sort

def byJournalM (M : DiskM) (W : List Bts) (l : PgL) : Int × DiskM :=
  if (layM M journalN 0 (blockM W.length (oldL W l))).1 = 0 then
    if (writesM (layM M journalN 0 (blockM W.length (oldL W l))).2 l).1 = 0 then deleteM (writesM (layM M journalN 0 (blockM W.length (oldL W l))).2 l).2 journalN
    else writesM (layM M journalN 0 (blockM W.length (oldL W l))).2 l
  else layM M journalN 0 (blockM W.length (oldL W l))
theorem layLeft_tr (n : Bts) (at_ : Nat) (b : Bts) : ∀ (k : Nat) (M : DiskM), (layLeft n at_ b k M).2.tr = M.tr
  | 0, _ => rfl
  | j + 1, M => by
    simp only [layLeft]
    split
    · rw [layLeft_tr n at_ b j, layStep_tr]
    · exact layStep_tr _ _ _ _ _
theorem layM_tr (M : DiskM) (n : Bts) (at_ : Nat) (b : Bts) : (layM M n at_ b).2.tr = M.tr := layLeft_tr n at_ b 4 M
theorem old_start (W : List Bts) (l : PgL) (left : Int → Bool) (h : ∀ p ∈ l, left p.1 = true) : oldL W (l.filter fun p => !left p.1) = [] := by
  have : l.filter (fun p => !left p.1) = [] := by
    rw [List.filter_eq_nil_iff]
    intro p hp; simp [h p hp]
  rw [this]; rfl
theorem old_end (W : List Bts) (l : PgL) (left : Int → Bool) (h : ∀ k, left k = false) : oldL W (l.filter fun p => !left p.1) = oldL W l := by
  have : l.filter (fun p => !left p.1) = l := by
    rw [List.filter_eq_self]
    intro p hp; simp [h p.1]
  rw [this]
theorem old_ok {W : List Bts} {l : PgL} (hW : Pgs W) (hl : PgOk l) (f : Int × Bts → Bool) : PgOk (oldL W (l.filter f)) := by
  refine ⟨?_, fun p hp => ?_⟩
  · have h1 : (oldL W (l.filter f)).length ≤ (l.filter f).length := by rw [oldL, List.length_map]; exact List.length_filter_le _ _
    have h2 : (l.filter f).length ≤ l.length := List.length_filter_le _ _
    have := hl.1; omega
  · obtain ⟨q, hq, rfl⟩ := List.mem_map.1 hp
    have := hl.2 q (List.mem_filter.1 (List.mem_filter.1 hq).1).1
    exact ⟨this.1, this.2.1, hW.getD _⟩
theorem old_ok' {W : List Bts} {l : PgL} (hW : Pgs W) (hl : PgOk l) : PgOk (oldL W l) := by
  have := old_ok hW hl (fun _ => true)
  rwa [List.filter_eq_self.2 (fun _ _ => rfl)] at this

set_option maxHeartbeats 2000000 in
set_option maxRecDepth 100000 in
theorem byJournal_any (w : World) (bp bd bl : Nat) (M : DiskM) (G : DG) (P : PagerM) (R : Nat → Nat) (h : DiskAt w bd M G) (ht : TrOk M) (hp : PagerW w bp bd bl P R) (hR : ∀ b, R b ≠ 0 → ¬ G.F b)
    (W : List Bts) (hW : Pgs W) (hw : P.was = W.flatten) (hWl : W.length ≤ 4096) (bm : Nat) (l : PgL) (hm : PgW w (fun g => R g = 5) bm l) (hl : PgOk l) (hbm : ¬ G.F bm) :
    Calls Tryz.prog 76 #[ptr bp, .map (some bm)] w (FPost w bp bd bl G R (I (byJournalM M W l).1) (byJournalM M W l).2 P) := by
  obtain ⟨vwas, vown, vmarks, mb, hp⟩ := hp
  obtain ⟨A, cp, hvw, hcp⟩ := hp.was.form
  rw [hw] at hvw hcp
  have hfl := length_flat512 hW
  obtain ⟨w1, hw1⟩ : ∃ w1, w1 = w.alloc (.map #[] 0) := ⟨_, rfl⟩
  have hmk := makeMap_run w
  rw [← hw1] at hmk
  have cw : Chg Non w w1 := by rw [hw1]; exact (Chg.refl _ w).alloc _
  have m1 : ∀ F, PgW w1 F w.heap.size [] := fun F => by rw [hw1]; exact PgW.made w _
  have o1 := hm.chg cw id fun _ _ => id
  have R1 := Lib.hid (And.intro o1 (And.intro m1 (And.intro cw (And.intro hp (And.intro hW (And.intro hl (And.intro hvw (And.intro hfl (And.intro hw hWl)))))))))
  have sz : w1.heap.size = w.heap.size + 1 := by rw [hw1]; simp
  have SZ := Lib.hid sz
  have hbw := hm.lt
  have HB := Lib.hid hbw
  have H := Lib.hid (And.intro h (And.intro ht (And.intro hR (And.intro hbm hm))))
  clear hw1 hm hp hvw hcp hfl cw m1 o1 sz hbw h ht hR hbm hW hl hw hWl
  go_enter Tryz.func76, Tryz.ntmps76
  go_wp2_with (first | (at_range; refine wpList_pgRange rfl _ rfl rfl R1.out.1 ?_; intro w2 hr5 hc5 hz5; have R2 := Lib.hid (And.intro hr5 (And.intro hc5 hz5)); clear hr5 hc5 hz5))
  try go_frame
  go_loopw [6] (fun _ wr => ∃ left cnt, PgR wr (fun g => R g = 5) bm w1.heap.size l left cnt ∧ PgW wr (fun g => w2.heap.size ≤ g) w.heap.size (oldL W (l.filter fun p => !left p.1)) ∧ Chg (fun g => g = w.heap.size ∨ g = w1.heap.size) w2 wr) (fun _ wr => wr.rangeLeft bm w1.heap.size)
  case atStart =>
    obtain ⟨o1, m1, cw, hp, hW, hl, _⟩ := R1.out
    have e : oldL W (l.filter (fun p => !(pfind l p.1).isSome)) = [] := old_start W l (fun k => (pfind l k).isSome) fun p hp => by
      obtain ⟨i, hi, rfl⟩ := List.getElem_of_mem hp
      rw [pfind_at o1.pair i hi]; rfl
    exact ⟨_, _, R2.out.1, by rw [e]; exact (m1 _).chg R2.out.2.1 id fun _ _ => id, Chg.refl _ _⟩
  case round =>
    obtain ⟨left, cnt, hr, hn, hch⟩ := hrel
    have HR := Lib.hid (And.intro hr (And.intro hn hch))
    clear hr hn hch
    have RL : Hid (∀ g, R g ≠ 0 → g ≠ w.heap.size ∧ g ≠ w1.heap.size) := fun g hg => by
      obtain ⟨o1, m1, cw, hp, _⟩ := R1.out
      have := hp.lt g hg
      have := SZ.out
      omega
    have NS : Hid (Chg (fun g => g = w.heap.size ∨ g = w1.heap.size) w wr) := by
      obtain ⟨o1, m1, cw, hp, _⟩ := R1.out
      exact ((cw.tr R2.out.2.1).mono fun _ hf => hf.elim).trans HR.out.2.2 fun g hg => .inl hg
    go_wp2_with (first | (at_next; refine wpList_pgNext rfl _ rfl rfl HR.out.1 ?_ ?_))
    · intro hall
      have HA := Lib.hid hall
      clear hall
      have ST : Hid (Chg Non w wr ∧ wr.cell? ⟨bp, 7, none⟩ = some (.slice A W.flatten.length cp) ∧ wr.cell? ⟨bp, 0, none⟩ = some (ptr bd) ∧ (Calls Tryz.prog 122 #[I W.length, .map (some w.heap.size)] wr fun e w' => ∃ v, e = .returned v ∧ OwnB w' v (blockM W.length (oldL W l)) ∧ Chg Non wr w' ∧ ∀ g, v.ownBlock = some g → wr.heap.size ≤ g) ∧
          (∀ u, Chg Non w u → ∀ v, OwnB u v (blockM W.length (oldL W l)) → (∀ g, v.ownBlock = some g → w.heap.size ≤ g) → Calls Tryz.prog 121 #[ptr bp, .string ⟨#[98, 97, 115, 101, 45, 106, 111, 117, 114, 110, 97, 108]⟩, I 0, v] u (DPost w bd G (I (layM M journalN 0 (blockM W.length (oldL W l))).1) (layM M journalN 0 (blockM W.length (oldL W l))).2)) ∧
          (∀ u G1 M1, DiskAt u bd M1 G1 → M1.tr = M.tr → Chg G.F w u → (∀ b, G1.F b → G.F b ∨ w.heap.size ≤ b) → Calls Tryz.prog 123 #[ptr bp, .map (some bm)] u (DPost w bd G (I (writesM M1 l).1) (writesM M1 l).2)) ∧
          (∀ u G1 M1, DiskAt u bd M1 G1 → M1.tr = M.tr → Chg G.F w u → (∀ b, G1.F b → G.F b ∨ w.heap.size ≤ b) → u.cell? ⟨bp, 0, none⟩ = some (ptr bd) ∧ Calls Tryz.prog 124 #[ptr bd, .string ⟨#[98, 97, 115, 101, 45, 106, 111, 117, 114, 110, 97, 108]⟩] u (DPost w bd G (I (deleteM M1 journalN).1) (deleteM M1 journalN).2)) ∧
          (∀ u G1 M1 v, DiskAt u bd M1 G1 → Chg G.F w u → (∀ b, G1.F b → G.F b ∨ w.heap.size ≤ b) → FPost w bp bd bl G R v M1 P (.returned v) u)) := by
        obtain ⟨o1, m1, cw, hp, hW, hl, hvw, hfl, hw, hWl⟩ := R1.out
        obtain ⟨h, ht, hR, hbm, hm⟩ := H.out
        have cwr : Chg Non w wr := NS.out.mono fun g hg => .inr (by have := SZ.out; rcases hg with e | e <;> omega)
        have pwr := hp.chg cwr fun _ _ => id
        have hold := old_end W l left HA.out
        refine ⟨cwr, by rw [← hvw]; exact pwr.blk.cell 7, pwr.blk.cell 0, block_any wr _ w.heap.size (oldL W l) (by rw [← hold]; exact HR.out.2.1) (old_ok' hW hl) W.length hWl, ?_, ?_, ?_, ?_⟩
        · intro u cu v hv hvg
          have hlen := length_blockM W.length (oldL W l) (Full.oldL hW l)
          have := (old_ok' hW hl).1
          refine (lay_any u bp bd nJournal good_journal 0 (by omega) v _ (by omega) (by simp [blockM]) hv.sl M G (h.chg cu fun _ _ => id) ht ((hp.chg cu fun _ _ => id).pd hR) fun g hg => ⟨fun e => by have := h.olt g e; have := hvg g hg; omega, ?_⟩).mono fun e w' hq => hq.from_ (cu.mono fun _ hf => hf.elim) fun b hb => .inl hb
          rcases hv with ⟨e, _⟩ | ⟨g', cap, cur, e, hb', _⟩
          · rw [e] at hg; simp [Value.ownBlock] at hg
          · rw [e] at hg; simp [Value.ownBlock] at hg; subst hg; exact hb'.lt
        · intro u G1 M1 d1 t1 c1 f1
          have hR1 : ∀ b, R b ≠ 0 → ¬ G1.F b := fun b hb e => by
            rcases f1 b e with e | e
            · exact hR b hb e
            · have := hp.lt b hb; omega
          exact (writes_any u bp bd M1 G1 d1 (ht.of_tr t1) ((hp.chg c1 hR).pd hR1) _ bm l hl (hm.chg c1 hbm fun g hg => hR g (by rw [hg]; decide)) (fun e => by
            rcases f1 bm e with e | e
            · exact hbm e
            · have := hm.lt; omega) fun g hg => hR1 g (by rw [hg]; decide)).mono fun e w' hq => hq.from_ c1 f1
        · intro u G1 M1 d1 t1 c1 f1
          exact ⟨(hp.chg c1 hR).blk.cell 0, (delete_any u bd M1 G1 d1 (ht.of_tr t1) nJournal good_journal).mono fun e w' hq => hq.from_ c1 f1⟩
        · intro u G1 M1 v d1 c1 f1
          exact ⟨G1, rfl, d1, ⟨_, _, _, _, hp.chg c1 hR⟩, c1.mono fun b hb => .inl (.inl hb), f1⟩
      have hdiv : ((W.flatten.length : Nat) : Int) / 512 = (W.length : Int) := by
        obtain ⟨o1, m1, cw, hp, hW, hl, hvw, hfl, hw, hWl⟩ := R1.out
        omega
      have bN : W.flatten.length ≤ 2097152 := by
        obtain ⟨o1, m1, cw, hp, hW, hl, hvw, hfl, hw, hWl⟩ := R1.out
        omega
      obtain ⟨cwr, q7, q0, BK, LY, WRT, DLT, FIN⟩ := ST.out
      have LY := Lib.hid LY
      have WRT := Lib.hid WRT
      have DLT := Lib.hid DLT
      have FIN := Lib.hid FIN
      have BK := Lib.hid BK
      have CWR := Lib.hid cwr
      have T1 := Lib.hid (layM_tr M journalN 0 (blockM W.length (oldL W l)))
      have T2 := Lib.hid (writesM_tr (layM M journalN 0 (blockM W.length (oldL W l))).2 l)
      clear ST cwr
      have HE : Hid (byJournalM M W l = if (layM M journalN 0 (blockM W.length (oldL W l))).1 = 0 then
          if (writesM (layM M journalN 0 (blockM W.length (oldL W l))).2 l).1 = 0 then deleteM (writesM (layM M journalN 0 (blockM W.length (oldL W l))).2 l).2 journalN
          else writesM (layM M journalN 0 (blockM W.length (oldL W l))).2 l
        else layM M journalN 0 (blockM W.length (oldL W l))) := rfl
      generalize byJournalM M W l = Y at *
      generalize (layM M journalN 0 (blockM W.length (oldL W l))) = X1 at *
      generalize (blockM W.length (oldL W l)) = Bk at *
      generalize W.flatten.length = N at *
      generalize W.length = n0 at *
      obtain ⟨x1, M1⟩ := X1
      simp only at *
      have T2 := Lib.hid (T2.out.trans T1.out)
      by_cases hx1 : x1 = 0
      · subst hx1
        have HE := Lib.hid (HE.out.trans (if_pos rfl))
        have WRT := Lib.hid (fun u G1 => WRT.out u G1 M1)
        generalize writesM M1 l = X2 at *
        obtain ⟨x2, M2⟩ := X2
        simp only at *
        by_cases hx2 : x2 = 0
        · subst hx2
          have HE := Lib.hid (HE.out.trans (if_pos rfl))
          have DLT := Lib.hid (fun u G1 => DLT.out u G1 M2)
          generalize deleteM M2 journalN = X3 at *
          obtain ⟨x3, M3⟩ := X3
          simp only at *
          go_wp2_with (first | (go_at_call 122; refine BK.out.mono ?_; rintro e w3 ⟨v, rfl, h1, h2, h3⟩; have V := Lib.hid (And.intro h1 (And.intro (CWR.out.tr h2) (fun g hg => Nat.le_trans CWR.out.size (h3 g hg)))); clear h1 h2 h3) | (go_at_call 121; refine (LY.out _ V.out.2.1 _ V.out.1 V.out.2.2).mono ?_; rintro e w4 ⟨G4, rfl, h1, h2, h3⟩; have D4 := Lib.hid (And.intro h1 (And.intro h2 h3)); clear h1 h2 h3) | (go_at_call 123; refine (WRT.out _ _ D4.out.1 T1.out D4.out.2.1 D4.out.2.2).mono ?_; rintro e w5 ⟨G5, rfl, h1, h2, h3⟩; have DL5 := DLT.out _ _ h1 T2.out h2 h3; have q5 := DL5.1; have D5 := Lib.hid (And.intro h1 (And.intro h2 (And.intro h3 DL5.2))); clear h1 h2 h3 DL5) | (go_at_call 124; refine D5.out.2.2.2.mono ?_; rintro e w6 ⟨G6, rfl, h1, h2, h3⟩; have D6 := Lib.hid (And.intro h1 (And.intro h2 h3)); clear h1 h2 h3))
          go_ret
          rw [HE.out]
          exact FIN.out _ _ _ _ D6.out.1 D6.out.2.1 D6.out.2.2
        · have bx : (x2 != 0) = true := by simpa using hx2
          have HE := Lib.hid (HE.out.trans (if_neg hx2))
          clear hx2
          go_wp2_with (first | (go_at_call 122; refine BK.out.mono ?_; rintro e w3 ⟨v, rfl, h1, h2, h3⟩; have V := Lib.hid (And.intro h1 (And.intro (CWR.out.tr h2) (fun g hg => Nat.le_trans CWR.out.size (h3 g hg)))); clear h1 h2 h3) | (go_at_call 121; refine (LY.out _ V.out.2.1 _ V.out.1 V.out.2.2).mono ?_; rintro e w4 ⟨G4, rfl, h1, h2, h3⟩; have D4 := Lib.hid (And.intro h1 (And.intro h2 h3)); clear h1 h2 h3) | (go_at_call 123; refine (WRT.out _ _ D4.out.1 T1.out D4.out.2.1 D4.out.2.2).mono ?_; rintro e w5 ⟨G5, rfl, h1, h2, h3⟩; have DL5 := DLT.out _ _ _ h1 T2.out h2 h3; have q5 := DL5.1; have D5 := Lib.hid (And.intro h1 (And.intro h2 (And.intro h3 DL5.2))); clear h1 h2 h3 DL5))
          go_ret
          rw [HE.out]
          exact FIN.out _ _ _ _ D5.out.1 D5.out.2.1 D5.out.2.2.1
      · have bx : (x1 != 0) = true := by simpa using hx1
        have HE := Lib.hid (HE.out.trans (if_neg hx1))
        clear hx1
        go_wp2_with (first | (go_at_call 122; refine BK.out.mono ?_; rintro e w3 ⟨v, rfl, h1, h2, h3⟩; have V := Lib.hid (And.intro h1 (And.intro (CWR.out.tr h2) (fun g hg => Nat.le_trans CWR.out.size (h3 g hg)))); clear h1 h2 h3) | (go_at_call 121; refine (LY.out _ V.out.2.1 _ V.out.1 V.out.2.2).mono ?_; rintro e w4 ⟨G4, rfl, h1, h2, h3⟩; have D4 := Lib.hid (And.intro h1 (And.intro h2 h3)); clear h1 h2 h3))
        go_ret
        rw [HE.out]
        exact FIN.out _ _ _ _ D4.out.1 D4.out.2.1 D4.out.2.2
    · intro k v x w6 cnt' hk hx hv hwf hr6 hlt6 hc6 hsz6 hen
      obtain ⟨o1, m1, cw, hp, hW, hl, hvw, hfl, hw, hWl⟩ := R1.out
      have hks := hl.2 _ (pfind_mem hx)
      simp only at hks
      obtain ⟨q, rfl⟩ : ∃ q : Nat, k = (q : Int) := ⟨k.toNat, by omega⟩
      have hq4 : q < 4096 := by omega
      have cw6 : Chg (fun g => g = w.heap.size ∨ g = w1.heap.size) w w6 := NS.out.trans hc6 fun g hg => .inl (.inr hg)
      have hp6 : PagerAt w6 bp bd bl P R vwas vown vmarks mb := hp.chg cw6 fun g hg e => e.elim (RL.out g hg).1 (RL.out g hg).2
      have d7 : w6.cell? ⟨bp, 7, none⟩ = some (.slice A W.flatten.length cp) := by rw [← hvw]; exact hp6.blk.cell 7
      have n6 : PgW w6 (fun g => w2.heap.size ≤ g) w.heap.size (oldL W (l.filter fun p => !left p.1)) := HR.out.2.1.chg hc6 (by have := SZ.out; omega) fun g hg e => by have := R2.out.2.2; omega
      have hst := old_step l o1.pair W left q x hk hx
      have hlenF : (oldL W (l.filter fun p => !left p.1)).length < maxLen := by
        have := (old_ok hW hl (fun p => !left p.1)).1
        unfold maxLen; omega
      have MS : Hid (cnt' < cnt ∧ wr.rangeLeft bm w1.heap.size = cnt) := ⟨hlt6, HR.out.1.left_eq⟩
      have bN : W.flatten.length ≤ 2097152 := by omega
      by_cases hWq : q < W.length
      · have b6 : decide ((q : Int) < ((W.flatten.length : Nat) : Int) / 512) = true := by rw [hfl]; simp; omega
        have PUT : Hid (∀ u, Chg Non w6 u → ∀ v2, OwnB u v2 (W.getD q zpage) → (∀ g, v2.ownBlock = some g → w6.heap.size ≤ g) → ∃ w8, (Instr.mapUpdate 137 (.map (some w.heap.size)) (I q) v2).run Tryz.prog u = .ok () w8 ∧ PgR w8 (fun g => R g = 5) bm w1.heap.size l (fun z => left z && !(z == (q : Int))) cnt' ∧ PgW w8 (fun g => w2.heap.size ≤ g) w.heap.size (oldL W (l.filter fun p => !(left p.1 && !(p.1 == (q : Int))))) ∧ Chg (fun g => g = w.heap.size ∨ g = w1.heap.size) w2 w8) := by
          intro u cu v2 hv2 hv3
          have s6 := (HR.out.2.2.trans hc6 fun g hg => .inl (.inr hg)).size
          have hvlt : ∀ g, v2.ownBlock = some g → g < u.heap.size := fun g hg => by
            rcases hv2 with ⟨e, _⟩ | ⟨g', cap, cur, e, hb', _⟩
            · rw [e] at hg; simp [Value.ownBlock] at hg
            · rw [e] at hg; simp [Value.ownBlock] at hg; subst hg; exact hb'.lt
          obtain ⟨w8, h1, h2, h3⟩ := (n6.chg cu id fun _ _ => id).put (q : Int) hwf v2 (W.getD q zpage) ⟨hv2.sl, fun g hg => ⟨Nat.le_trans s6 (hv3 g hg), hvlt g hg⟩⟩ hlenF
          have c8 : Chg (fun g => g = w.heap.size) u w8 := Chg.grown (S := fun g => g = w.heap.size) (Chg.refl _ u) h3 fun g hg => .inl (Option.some.inj hg).symm
          refine ⟨w8, h1, (hr6.chg cu id id fun _ _ => id).chg c8 (by have := HB.out; omega) (by have := SZ.out; omega) fun g hg e => (RL.out g (by rw [hg]; decide)).1 e, ?_, ?_⟩
          · rw [hst, if_pos (by omega), Int.toNat_natCast]; exact h2
          · exact ((HR.out.2.2.trans hc6 fun g hg => .inl (.inr hg)).trans cu fun _ hf => hf.elim).trans c8 fun g hg => .inl (.inl hg)
        have PG := Lib.hid (page_any w6 bp bd bl P R ⟨_, _, _, _, hp6⟩ W hW hw hWl q hq4)
        clear o1 m1 cw hp hvw hfl hks hp6 n6 hst hlenF hv hr6 hc6 hsz6 hx hk hwf cw6 hlt6 hW hl hw hWl hWq
        generalize W.flatten.length = N at *
        go_wp2_with (first | (go_at_call 74; refine PG.out.mono ?_; rintro e w7 ⟨rfl, h1, h2⟩; obtain ⟨w9, hmu, P9⟩ := PUT.out _ h2 _ h1 (fun g hg => by simp [Value.ownBlock] at hg; omega); have P8 := Lib.hid P9; clear P9 h1 h2))
        try go_frame
        go_roundw
        case rel => exact ⟨_, _, P8.out⟩
        case measure => rw [P8.out.1.left_eq, MS.out.2]; exact MS.out.1
      · have b6 : decide ((q : Int) < ((W.flatten.length : Nat) : Int) / 512) = false := by rw [hfl]; simp; omega
        have SKIP : Hid (PgR w6 (fun g => R g = 5) bm w1.heap.size l (fun z => left z && !(z == (q : Int))) cnt' ∧ PgW w6 (fun g => w2.heap.size ≤ g) w.heap.size (oldL W (l.filter fun p => !(left p.1 && !(p.1 == (q : Int))))) ∧ Chg (fun g => g = w.heap.size ∨ g = w1.heap.size) w2 w6) :=
          ⟨hr6, by rw [hst, if_neg (by omega)]; exact n6, HR.out.2.2.trans hc6 fun g hg => .inl (.inr hg)⟩
        clear o1 m1 cw hp hvw hfl hks hp6 n6 hst hlenF hv hr6 hc6 hsz6 hx hk hwf cw6 hlt6 hW hl hw hWl hWq
        generalize W.flatten.length = N at *
        go_wp2_with fail
        try go_frame
        go_roundw
        case rel => exact ⟨_, _, SKIP.out⟩
        case measure => rw [SKIP.out.1.left_eq, MS.out.2]; exact MS.out.1
end Go.Proofs.YtamhjjagjjdmoaaGreat
end

section
namespace Go.Proofs.YtamhjjagjjdmoaaGreat
open Go.RowKit Go.Maps Go.Shelf Go.Sort

theorem LvOk.set {L : Nat → Int} (h : LvOk L) (c : Nat) (v : Int) (h0 : 0 ≤ v) (h4 : v ≤ 4) : LvOk (setL L c v) := fun k => by
  unfold setL; split
  · exact ⟨h0, h4⟩
  · exact h k
theorem LvOk.raise {L : Nat → Int} (h : LvOk L) (c : Nat) (lv : Int) : LvOk (raiseM L c lv).2 := by
  unfold raiseM
  repeat' (split; try exact h)
  all_goals first | exact h | exact h.set _ _ (by decide) (by decide)
theorem LvOk.lower {L : Nat → Int} (h : LvOk L) (c : Nat) : LvOk (lowerM L c) := h.set _ _ (by decide) (by decide)

/-- what a commit does to the disk: its answer, the disk, up to where the log is known to be safe -/
def midM (M : DiskM) (W : List Bts) (L : LogL) (own : PgL) (c : Nat) (mode sure : Int) : Int × DiskM × Int :=
  if newsL W own = [] then (0, M, sure)
  else if mode = 1 then ((byJournalM M W (newsL W own)).1, (byJournalM M W (newsL W own)).2, sure)
  else byLogM M L c (newsL W own) sure

theorem commit_ask (w : World) (bp bd bl : Nat) (P : PagerM) (R : Nat → Nat) (hp : PagerW w bp bd bl P R) (ha : ¬ askM P = 0) :
    Calls Tryz.prog 29 #[ptr bp] w fun e w' => e = .returned (I (askM P)) ∧ w' = w := by
  have AS := ask_any w bp bd bl P R hp
  generalize askM P = x at *
  have AS := Lib.hid AS
  have bx : (x != 0) = true := by simpa using ha
  clear hp ha
  go_enter Tryz.func29, Tryz.ntmps29
  go_wp2_with (first | (go_at_call 72; refine AS.out.mono ?_; rintro e w' ⟨rfl, hw'⟩; have hw2 := hw'.symm; subst hw2))
  go_ret
  exact ⟨rfl, rfl⟩

set_option maxHeartbeats 1000000 in
set_option maxRecDepth 100000 in
/-- nothing was written -/
theorem commit_clean (w : World) (bp bd bl : Nat) (P : PagerM) (R : Nat → Nat) (hp : PagerW w bp bd bl P R) (W : List Bts) (own : PgL) (c : Nat) (hI : InTx P W own c) (hw : P.wrote = false)
    (L : Nat → Int) (hl : Blk w bl 135 (lvls L)) (hL : LvOk L) (hc : P.c < 4) (hbl : R bl = 0) :
    Calls Tryz.prog 29 #[ptr bp] w fun e w' => e = .returned (I 0) ∧ PagerW w' bp bd bl (idleM P) R ∧ Blk w' bl 135 (lvls (lowerM L P.c)) ∧ Chg (fun b => b = bp ∨ b = bl) w w' := by
  have AS := ask_any w bp bd bl P R hp
  rw [show askM P = 0 by simp [askM, hI.edead, hI.einn]] at AS
  have AS := Lib.hid AS
  have NW := Lib.hid (news_any w bp bd bl P R hp W own c hI)
  have ST : Hid (∀ u, Chg Non w u → u.cell? ⟨bp, 6, none⟩ = some (.bool false) ∧ Calls Tryz.prog 78 #[ptr bp] u fun e w' => e = .returned (.tuple #[]) ∧ PagerW w' bp bd bl (idleM P) R ∧ Blk w' bl 135 (lvls (lowerM L P.c)) ∧ Chg (fun b => b = bp ∨ b = bl) w w') := by
    intro u cu
    obtain ⟨_, _, _, _, hp⟩ := hp
    have hp2 := hp.chg cu fun _ _ => id
    refine ⟨by rw [hp2.blk.cell 6, ← hw]; rfl, (end_any u bp bd bl P R ⟨_, _, _, _, hp2⟩ L (Blk.chg (S := Non) hl cu id) hL hc hbl).mono ?_⟩
    rintro e w' ⟨rfl, h1, h2, h3⟩
    exact ⟨rfl, h1, h2, (cu.mono fun _ hf => hf.elim).tr h3⟩
  clear hp hI hw hl hL hc hbl
  go_enter Tryz.func29, Tryz.ntmps29
  go_wp2_with (first | (go_at_call 72; refine AS.out.mono ?_; rintro e w' ⟨rfl, hw'⟩; have hw2 := hw'.symm; subst hw2) | (go_at_call 75; refine NW.out.mono ?_; rintro e w1 ⟨bm, rfl, h1, h2, h3⟩; obtain ⟨q6, E⟩ := ST.out w1 h2; have E := Lib.hid E; clear h1 h2 h3) | (go_at_call 78; refine E.out.mono ?_; rintro e w5 ⟨rfl, h1⟩; have F := Lib.hid h1; clear h1))
  go_ret
  exact ⟨rfl, F.out⟩

set_option maxHeartbeats 1000000 in
set_option maxRecDepth 100000 in
/-- the lock cannot be had -/
theorem commit_busy (w : World) (bp bd bl : Nat) (P : PagerM) (R : Nat → Nat) (hp : PagerW w bp bd bl P R) (W : List Bts) (own : PgL) (c : Nat) (hI : InTx P W own c) (hw : P.wrote = true)
    (L : Nat → Int) (hl : Blk w bl 135 (lvls L)) (hL : LvOk L) (hc : P.c < 4) (hbl : R bl = 0) (hb : ¬ (raiseM L P.c 4).1 = 0) :
    Calls Tryz.prog 29 #[ptr bp] w fun e w' => e = .returned (I (raiseM L P.c 4).1) ∧ PagerW w' bp bd bl P R ∧ Blk w' bl 135 (lvls (raiseM L P.c 4).2) ∧ Chg (fun b => b = bl) w w' := by
  have AS := ask_any w bp bd bl P R hp
  rw [show askM P = 0 by simp [askM, hI.edead, hI.einn]] at AS
  have AS := Lib.hid AS
  have NW := Lib.hid (news_any w bp bd bl P R hp W own c hI)
  obtain ⟨_, _, _, _, hp⟩ := hp
  have hne : bl ≠ bp := fun e => by rw [e, hp.r1] at hbl; cases hbl
  have ST : Hid (∀ u, Chg Non w u → (u.cell? ⟨bp, 6, none⟩ = some (.bool true) ∧ u.cell? ⟨bp, 2, none⟩ = some (ptr bl) ∧ u.cell? ⟨bp, 3, none⟩ = some (I P.c)) ∧ Calls Tryz.prog 70 #[ptr bl, I P.c, I 4] u.drew fun e w' => e = .returned (I (raiseM L P.c 4).1) ∧ (w'.cell? ⟨bp, 2, none⟩ = some (ptr bl) ∧ w'.cell? ⟨bp, 3, none⟩ = some (I P.c)) ∧ PagerW w' bp bd bl P R ∧ Blk w' bl 135 (lvls (raiseM L P.c 4).2) ∧ Chg (fun b => b = bl) w w') := by
    intro u cu
    have hp2 := hp.chg cu fun _ _ => id
    refine ⟨⟨by rw [hp2.blk.cell 6, ← hw]; rfl, hp2.blk.cell 2, hp2.blk.cell 3⟩, (raise_any u.drew bl P.c L 4 (Blk.chg (S := Non) hl cu.drew id) hL hc (.inr (.inr rfl))).mono ?_⟩
    rintro e w' ⟨rfl, h1, h2⟩
    have c3 : Chg (fun b => b = bl) w w' := (cu.drew.mono fun _ hf => hf.elim).tr h2
    have hp3 := hp.chg c3 fun b hb e => hb (by rw [e]; exact hbl)
    exact ⟨rfl, ⟨hp3.blk.cell 2, hp3.blk.cell 3⟩, ⟨_, _, _, _, hp3⟩, h1, c3⟩
  have bb : ((raiseM L P.c 4).1 != 0) = true := by simpa using hb
  generalize raiseM L P.c 4 = X at *
  obtain ⟨x1, X2⟩ := X
  simp only at bb
  clear hp hI hw hl hL hc hbl hb hne
  go_enter Tryz.func29, Tryz.ntmps29
  go_wp2_with (first | (go_at_call 72; refine AS.out.mono ?_; rintro e w' ⟨rfl, hw'⟩; have hw2 := hw'.symm; subst hw2) | (go_at_call 75; refine NW.out.mono ?_; rintro e w1 ⟨bm, rfl, h1, h2, h3⟩; obtain ⟨⟨q6, q2, q3⟩, E⟩ := ST.out w1 h2; have E := Lib.hid E; clear h1 h2 h3))
  go_region_held3 (fun w' => w'.cell? ⟨bp, 2, none⟩ = some (ptr bl) ∧ w'.cell? ⟨bp, 3, none⟩ = some (I P.c)) (go_keep) (first | (go_at_call 70; refine E.out.mono ?_; rintro e w5 ⟨rfl, ⟨r2, r3⟩, h3⟩; have F := Lib.hid h3; clear h3))
  go_wp2_with fail
  go_ret
  exact ⟨rfl, F.out⟩
end Go.Proofs.YtamhjjagjjdmoaaGreat
end

section
namespace Go.Proofs.YtamhjjagjjdmoaaGreat
open Go.RowKit Go.Maps Go.Shelf Go.Sort

/-- the pager behind a commit -/
def commP (P : PagerM) (X : Int × DiskM × Int) : PagerM := if X.1 = 0 then idleM { P with sure := X.2.2 } else idleM { P with sure := X.2.2, dead := true }
theorem newsOk {P : PagerM} {W : List Bts} {own : PgL} {c : Nat} (hI : InTx P W own c) : PgOk (newsL W own) :=
  pgOk_of (hI.rises.filter _) (fun p hp => hI.full p (List.mem_filter.1 hp).1) (fun p hp => hI.tops.lt p (List.mem_filter.1 hp).1) hI.c4
set_option maxHeartbeats 4000000 in
set_option maxRecDepth 100000 in
theorem commit_any (w : World) (bp bd bl : Nat) (M : DiskM) (G : DG) (P : PagerM) (R : Nat → Nat) (h : DiskAt w bd M G) (ht : TrOk M) (hp : PagerW w bp bd bl P R) (hR : ∀ b, R b ≠ 0 → ¬ G.F b) (W : List Bts) (own : PgL) (c : Nat) (hI : InTx P W own c) (hw : P.wrote = true)
    (L : Nat → Int) (hl : Blk w bl 135 (lvls L)) (hL : LvOk L) (hc : P.c < 4) (hbl : R bl = 0) (hblG : ¬ G.F bl) (hb : (raiseM L P.c 4).1 = 0)
    (LL : LogL) (hlog : P.mode ≠ 1 → newsL W own ≠ [] → M.off = false ∧ LogOk LL ∧ LogIs M LL ∧ (blocksOn LL).length + (blockM c (newsL W own)).length ≤ 4194304) :
    Calls Tryz.prog 29 #[ptr bp] w (BPost w bp bd bl G R (I (midM M W LL own c P.mode P.sure).1) (midM M W LL own c P.mode P.sure).2.1 (commP P (midM M W LL own c P.mode P.sure)) (lowerM (raiseM L P.c 4).2 P.c)) := by
  have AS := ask_any w bp bd bl P R hp
  rw [show askM P = 0 by simp [askM, hI.edead, hI.einn]] at AS
  have AS := Lib.hid AS
  have NW := Lib.hid (news_any w bp bd bl P R hp W own c hI)
  have hok := newsOk hI
  have hcnt := hI.ecount
  have hc4 := hI.c4
  obtain ⟨vwas, vown, vmarks, mb, hp⟩ := hp
  have hne : bl ≠ bp := fun e => by rw [e, hp.r1] at hbl; cases hbl
  have hL2 := hL.raise P.c 4
  have ST : Hid (∀ u, Chg Non w u → (u.cell? ⟨bp, 6, none⟩ = some (.bool true) ∧ u.cell? ⟨bp, 2, none⟩ = some (ptr bl) ∧ u.cell? ⟨bp, 3, none⟩ = some (I P.c)) ∧ Calls Tryz.prog 70 #[ptr bl, I P.c, I 4] u.drew fun e w' => e = .returned (I 0) ∧ (w'.cell? ⟨bp, 2, none⟩ = some (ptr bl) ∧ w'.cell? ⟨bp, 3, none⟩ = some (I P.c)) ∧ w'.cell? ⟨bp, 1, none⟩ = some (I P.mode) ∧ PagerAt w' bp bd bl P R vwas vown vmarks mb ∧ DiskAt w' bd M G ∧ Blk w' bl 135 (lvls (raiseM L P.c 4).2) ∧ Chg (fun b => b = bl) w w' ∧ Chg (fun b => b = bl) u w') := by
    intro u cu
    have hp2 := hp.chg cu fun _ _ => id
    refine ⟨⟨by rw [hp2.blk.cell 6, ← hw]; rfl, hp2.blk.cell 2, hp2.blk.cell 3⟩, (raise_any u.drew bl P.c L 4 (Blk.chg (S := Non) hl cu.drew id) hL hc (.inr (.inr rfl))).mono ?_⟩
    rintro e w' ⟨rfl, h1, h2⟩
    have c3 : Chg (fun b => b = bl) w w' := (cu.drew.mono fun _ hf => hf.elim).tr h2
    have hp3 := hp.chg c3 fun b hb e => hb (by rw [e]; exact hbl)
    exact ⟨by rw [hb], ⟨hp3.blk.cell 2, hp3.blk.cell 3⟩, hp3.blk.cell 1, hp3, h.chg c3 (fun b hb e => hblG (by rw [← e]; exact hb)), h1, c3, (Chg.refl _ u).drew.tr h2⟩
  -- the end, behind whatever was done
  have FE : Hid (∀ w5 w6 G6 (P6 : PagerM) M6, Chg (fun b => b = bl) w w5 → Blk w5 bl 135 (lvls (raiseM L P.c 4).2) → P6.c = P.c → DiskAt w6 bd M6 G6 → PagerW w6 bp bd bl P6 R → Chg (fun b => G.F b ∨ b = bp) w5 w6 → (∀ b, G6.F b → G.F b ∨ w5.heap.size ≤ b) →
      (Calls Tryz.prog 78 #[ptr bp] w6 fun e w' => e = .returned (.tuple #[]) ∧ BPost w bp bd bl G R (I 0) M6 (idleM P6) (lowerM (raiseM L P.c 4).2 P.c) (.returned (I 0)) w') ∧ ∀ x : Int, Calls Tryz.prog 71 #[ptr bp, I x] w6 (BPost w bp bd bl G R (I x) M6 (idleM { P6 with dead := true }) (lowerM (raiseM L P.c 4).2 P.c))) := by
    intro w5 w6 G6 P6 M6 c5 l5 hPc d6 p6 c6 f6
    have s5 := c5.size
    have l6 : Blk w6 bl 135 (lvls (raiseM L P.c 4).2) := Blk.chg (S := fun b => G.F b ∨ b = bp) l5 c6 (fun e => e.elim hblG hne)
    have hR6 : ∀ b, R b ≠ 0 → ¬ G6.F b := fun b hb e => by
      rcases f6 b e with e | e
      · exact hR b hb e
      · have := hp.lt b hb; omega
    have hbl6 : ¬ G6.F bl := fun e => by
      rcases f6 bl e with e | e
      · exact hblG e
      · have := l5.lt; omega
    have rbp : R bp ≠ 0 := by rw [hp.r1]; decide
    have fin : ∀ (v : Value) (Pf : PagerM) w7, PagerW w7 bp bd bl Pf R → Blk w7 bl 135 (lvls (lowerM (raiseM L P.c 4).2 P.c)) → Chg (fun b => b = bp ∨ b = bl) w6 w7 → BPost w bp bd bl G R v M6 Pf (lowerM (raiseM L P.c 4).2 P.c) (.returned v) w7 := by
      intro v Pf w7 q1 q2 q3
      refine ⟨G6, R, rfl, d6.chg q3 fun b hb e => ?_, q1, q2, ?_, fun b hb => ?_, fun b hb => .inl hb, hR6, hbl, hbl6⟩
      · rcases e with e | e
        · exact hR6 b (by rw [e]; exact rbp) hb
        · exact hbl6 (by rw [← e]; exact hb)
      · refine ((c5.mono (S' := fun b => G.F b ∨ R b ≠ 0 ∨ b = bl) fun b hb => .inl (.inr (.inr hb))).trans c6 fun b hb => ?_).trans q3 fun b hb => ?_
        · rcases hb with e | e
          · exact .inl (.inl e)
          · exact .inl (.inr (.inl (by rw [e]; exact rbp)))
        · rcases hb with e | e
          · exact .inl (.inr (.inl (by rw [e]; exact rbp)))
          · exact .inl (.inr (.inr e))
      · rcases f6 b hb with e | e
        · exact .inl e
        · exact .inr (Nat.le_trans s5 e)
    refine ⟨(end_any w6 bp bd bl P6 R p6 _ l6 hL2 (by rw [hPc]; exact hc) hbl).mono ?_, fun x => (out_any w6 bp bd bl P6 R p6 _ l6 hL2 (by rw [hPc]; exact hc) hbl x).mono ?_⟩
    · rintro e w7 ⟨rfl, q1, q2, q3⟩
      rw [hPc] at q2
      exact ⟨rfl, fin (I 0) _ w7 q1 q2 q3⟩
    · rintro e w7 ⟨rfl, q1, q2, q3⟩
      rw [hPc] at q2
      exact fin (I x) _ w7 q1 q2 q3
  -- what is done to the disk
  have BY : Hid (∀ w1 w5 bm, PgW w1 (fun g => R g = 5) bm (newsL W own) → Chg Non w w1 → w.heap.size ≤ bm → PagerAt w5 bp bd bl P R vwas vown vmarks mb → DiskAt w5 bd M G → Chg (fun b => b = bl) w1 w5 → (∀ ty, (Builtin.len_ #[137] ty #[.map (some bm)]).run Tryz.prog w5 = .ok (I (newsL W own).length) w5) ∧
      (P.mode = 1 → newsL W own ≠ [] → Calls Tryz.prog 76 #[ptr bp, .map (some bm)] w5 (FPost w5 bp bd bl G R (I (midM M W LL own c P.mode P.sure).1) (midM M W LL own c P.mode P.sure).2.1 { P with sure := (midM M W LL own c P.mode P.sure).2.2 })) ∧
      (P.mode ≠ 1 → newsL W own ≠ [] → Calls Tryz.prog 77 #[ptr bp, .map (some bm)] w5 (FPost w5 bp bd bl G R (I (midM M W LL own c P.mode P.sure).1) (midM M W LL own c P.mode P.sure).2.1 { P with sure := (midM M W LL own c P.mode P.sure).2.2 }))) := by
    intro w1 w5 bm h1 h2 h3 p5 d5 c5
    have hbm : bm ≠ bl := fun e => by have := hl.lt; omega
    have m5 := h1.chg c5 hbm fun g hg e => by rw [e, hbl] at hg; cases hg
    refine ⟨fun ty => m5.len ty, fun hm hn => ?_, fun hm hn => ?_⟩
    · have e : midM M W LL own c P.mode P.sure = ((byJournalM M W (newsL W own)).1, (byJournalM M W (newsL W own)).2, P.sure) := by rw [midM, if_neg hn, if_pos hm]
      rw [e]
      exact byJournal_any w5 bp bd bl M G P R d5 ht ⟨_, _, _, _, p5⟩ hR W hI.pgs hI.ewas hI.len bm _ m5 hok fun e => by have := h.olt bm e; omega
    · have e : midM M W LL own c P.mode P.sure = byLogM M LL c (newsL W own) P.sure := by rw [midM, if_neg hn, if_neg hm]
      obtain ⟨ho, hok2, hLL, hlen⟩ := hlog hm hn
      rw [e]
      exact byLog_any w5 bp bd bl M G P R d5 ht ⟨_, _, _, _, p5⟩ hR ho LL hLL hok2 bm _ m5 hok c hcnt hc4 hlen
  have H0 : Hid (newsL W own = [] → midM M W LL own c P.mode P.sure = (0, M, P.sure)) := fun hn => by rw [midM, if_pos hn]
  have P0 : Hid (commP P (0, M, P.sure) = idleM P) := if_pos rfl
  clear h ht hp hR hw hl hL hc hbl hblG hb hne hlog hI hok hcnt hL2
  by_cases hn : newsL W own = []
  · have hX := H0.out hn
    rw [hX]
    have ln : ((((newsL W own).length : Nat) : Int) == 0) = true := by rw [hn]; rfl
    have F0 : Hid (∀ w5, Chg (fun b => b = bl) w w5 → Blk w5 bl 135 (lvls (raiseM L P.c 4).2) → PagerAt w5 bp bd bl P R vwas vown vmarks mb → DiskAt w5 bd M G → Calls Tryz.prog 78 #[ptr bp] w5 fun e w' => e = .returned (.tuple #[]) ∧ BPost w bp bd bl G R (I 0) M (commP P (0, M, P.sure)) (lowerM (raiseM L P.c 4).2 P.c) (.returned (I 0)) w') := fun w5 c5 l5 p5 d5 => by
      rw [P0.out]
      exact (FE.out w5 w5 G P M c5 l5 rfl d5 ⟨_, _, _, _, p5⟩ (Chg.refl _ _) (fun b hb => .inl hb)).1
    clear hn hX FE H0 P0
    generalize raiseM L P.c 4 = X at *
    generalize (newsL W own).length = nn at *
    go_enter Tryz.func29, Tryz.ntmps29
    go_wp2_with (first | (go_at_call 72; refine AS.out.mono ?_; rintro e w' ⟨rfl, hw'⟩; have hw2 := hw'.symm; subst hw2) | (go_at_call 75; refine NW.out.mono ?_; rintro e w1 ⟨bm, rfl, h1, h2, h3⟩; obtain ⟨⟨q6, q2, q3⟩, E⟩ := ST.out w1 h2; have E := Lib.hid E; have V := Lib.hid (And.intro h1 (And.intro h2 h3)); clear h1 h2 h3))
    go_region_held3 (fun w' => w'.cell? ⟨bp, 2, none⟩ = some (ptr bl) ∧ w'.cell? ⟨bp, 3, none⟩ = some (I P.c)) (go_keep) (first | (go_at_call 70; refine E.out.mono ?_; rintro e w5 ⟨rfl, ⟨r2, r3⟩, r1, h3⟩; have F := Lib.hid h3; clear h3))
    have LN := (BY.out w1 w5 bm V.out.1 V.out.2.1 V.out.2.2 F.out.1 F.out.2.1 F.out.2.2.2.2).1
    go_wp2_with (first | (go_at_call 78; refine (F0.out _ F.out.2.2.2.1 F.out.2.2.1 F.out.1 F.out.2.1).mono ?_; rintro e w7 ⟨rfl, q1⟩; have Z := Lib.hid q1; clear q1))
    go_ret
    exact Z.out
  · have ln : ((((newsL W own).length : Nat) : Int) == 0) = false := by
      have : (newsL W own).length ≠ 0 := fun e => hn (List.eq_nil_of_length_eq_zero e)
      simp; omega
    have HN := Lib.hid hn
    clear hn H0 P0
    by_cases hm : P.mode = 1
    · have BY := Lib.hid (fun w1 w5 bm a1 a2 a3 a4 a5 a6 => And.intro (BY.out w1 w5 bm a1 a2 a3 a4 a5 a6).1 ((BY.out w1 w5 bm a1 a2 a3 a4 a5 a6).2.1 hm HN.out))
      have bm1 : (P.mode == 1) = true := by simpa using hm
      clear hm HN
      generalize midM M W LL own c P.mode P.sure = X at *

      generalize (newsL W own).length = nn at *
      obtain ⟨x, M2, s2⟩ := X
      simp only at *
      by_cases hx : x = 0
      · subst hx
        have hcp : commP P (0, M2, s2) = idleM { P with sure := s2 } := if_pos rfl
        rw [hcp]
        clear hcp
        go_enter Tryz.func29, Tryz.ntmps29
        go_wp2_with (first | (go_at_call 72; refine AS.out.mono ?_; rintro e w' ⟨rfl, hw'⟩; have hw2 := hw'.symm; subst hw2) | (go_at_call 75; refine NW.out.mono ?_; rintro e w1 ⟨bm, rfl, h1, h2, h3⟩; obtain ⟨⟨q6, q2, q3⟩, E⟩ := ST.out w1 h2; have E := Lib.hid E; have V := Lib.hid (And.intro h1 (And.intro h2 h3)); clear h1 h2 h3))
        go_region_held3 (fun w' => w'.cell? ⟨bp, 2, none⟩ = some (ptr bl) ∧ w'.cell? ⟨bp, 3, none⟩ = some (I P.c)) (go_keep) (first | (go_at_call 70; refine E.out.mono ?_; rintro e w5 ⟨rfl, ⟨r2, r3⟩, r1, h3⟩; have F := Lib.hid h3; clear h3))
        obtain ⟨LN, BYC⟩ := BY.out w1 w5 bm V.out.1 V.out.2.1 V.out.2.2 F.out.1 F.out.2.1 F.out.2.2.2.2
        have BYC := Lib.hid BYC
        go_wp2_with (first | (go_at_call 76; refine BYC.out.mono ?_; rintro e w6 ⟨G6, rfl, d6, p6, c6, f6⟩; have FF := Lib.hid (FE.out w5 w6 G6 _ _ F.out.2.2.2.1 F.out.2.2.1 (by rfl) d6 p6 c6 f6); clear d6 p6 c6 f6) | (go_at_call 78; refine FF.out.1.mono ?_; rintro e w7 ⟨rfl, q1⟩; have Z := Lib.hid q1; clear q1))
        go_ret
        exact Z.out
      · have hcp : commP P (x, M2, s2) = idleM { P with sure := s2, dead := true } := if_neg hx
        rw [hcp]
        have bx : (x != 0) = true := by simpa using hx
        clear hcp hx
        go_enter Tryz.func29, Tryz.ntmps29
        go_wp2_with (first | (go_at_call 72; refine AS.out.mono ?_; rintro e w' ⟨rfl, hw'⟩; have hw2 := hw'.symm; subst hw2) | (go_at_call 75; refine NW.out.mono ?_; rintro e w1 ⟨bm, rfl, h1, h2, h3⟩; obtain ⟨⟨q6, q2, q3⟩, E⟩ := ST.out w1 h2; have E := Lib.hid E; have V := Lib.hid (And.intro h1 (And.intro h2 h3)); clear h1 h2 h3))
        go_region_held3 (fun w' => w'.cell? ⟨bp, 2, none⟩ = some (ptr bl) ∧ w'.cell? ⟨bp, 3, none⟩ = some (I P.c)) (go_keep) (first | (go_at_call 70; refine E.out.mono ?_; rintro e w5 ⟨rfl, ⟨r2, r3⟩, r1, h3⟩; have F := Lib.hid h3; clear h3))
        obtain ⟨LN, BYC⟩ := BY.out w1 w5 bm V.out.1 V.out.2.1 V.out.2.2 F.out.1 F.out.2.1 F.out.2.2.2.2
        have BYC := Lib.hid BYC
        go_wp2_with (first | (go_at_call 76; refine BYC.out.mono ?_; rintro e w6 ⟨G6, rfl, d6, p6, c6, f6⟩; have FF := Lib.hid (FE.out w5 w6 G6 _ _ F.out.2.2.2.1 F.out.2.2.1 (by rfl) d6 p6 c6 f6); clear d6 p6 c6 f6) | (go_at_call 71; refine (FF.out.2 _).mono ?_; rintro e w7 q1; have Z := Lib.hid q1; obtain ⟨_, _, rfl, _⟩ := q1))
        go_ret
        exact Z.out
    · have BY := Lib.hid (fun w1 w5 bm a1 a2 a3 a4 a5 a6 => And.intro (BY.out w1 w5 bm a1 a2 a3 a4 a5 a6).1 ((BY.out w1 w5 bm a1 a2 a3 a4 a5 a6).2.2 hm HN.out))
      have bm1 : (P.mode == 1) = false := by simpa using hm
      clear hm HN
      generalize midM M W LL own c P.mode P.sure = X at *

      generalize (newsL W own).length = nn at *
      obtain ⟨x, M2, s2⟩ := X
      simp only at *
      by_cases hx : x = 0
      · subst hx
        have hcp : commP P (0, M2, s2) = idleM { P with sure := s2 } := if_pos rfl
        rw [hcp]
        clear hcp
        go_enter Tryz.func29, Tryz.ntmps29
        go_wp2_with (first | (go_at_call 72; refine AS.out.mono ?_; rintro e w' ⟨rfl, hw'⟩; have hw2 := hw'.symm; subst hw2) | (go_at_call 75; refine NW.out.mono ?_; rintro e w1 ⟨bm, rfl, h1, h2, h3⟩; obtain ⟨⟨q6, q2, q3⟩, E⟩ := ST.out w1 h2; have E := Lib.hid E; have V := Lib.hid (And.intro h1 (And.intro h2 h3)); clear h1 h2 h3))
        go_region_held3 (fun w' => w'.cell? ⟨bp, 2, none⟩ = some (ptr bl) ∧ w'.cell? ⟨bp, 3, none⟩ = some (I P.c)) (go_keep) (first | (go_at_call 70; refine E.out.mono ?_; rintro e w5 ⟨rfl, ⟨r2, r3⟩, r1, h3⟩; have F := Lib.hid h3; clear h3))
        obtain ⟨LN, BYC⟩ := BY.out w1 w5 bm V.out.1 V.out.2.1 V.out.2.2 F.out.1 F.out.2.1 F.out.2.2.2.2
        have BYC := Lib.hid BYC
        go_wp2_with (first | (go_at_call 77; refine BYC.out.mono ?_; rintro e w6 ⟨G6, rfl, d6, p6, c6, f6⟩; have FF := Lib.hid (FE.out w5 w6 G6 _ _ F.out.2.2.2.1 F.out.2.2.1 (by rfl) d6 p6 c6 f6); clear d6 p6 c6 f6) | (go_at_call 78; refine FF.out.1.mono ?_; rintro e w7 ⟨rfl, q1⟩; have Z := Lib.hid q1; clear q1))
        go_ret
        exact Z.out
      · have hcp : commP P (x, M2, s2) = idleM { P with sure := s2, dead := true } := if_neg hx
        rw [hcp]
        have bx : (x != 0) = true := by simpa using hx
        clear hcp hx
        go_enter Tryz.func29, Tryz.ntmps29
        go_wp2_with (first | (go_at_call 72; refine AS.out.mono ?_; rintro e w' ⟨rfl, hw'⟩; have hw2 := hw'.symm; subst hw2) | (go_at_call 75; refine NW.out.mono ?_; rintro e w1 ⟨bm, rfl, h1, h2, h3⟩; obtain ⟨⟨q6, q2, q3⟩, E⟩ := ST.out w1 h2; have E := Lib.hid E; have V := Lib.hid (And.intro h1 (And.intro h2 h3)); clear h1 h2 h3))
        go_region_held3 (fun w' => w'.cell? ⟨bp, 2, none⟩ = some (ptr bl) ∧ w'.cell? ⟨bp, 3, none⟩ = some (I P.c)) (go_keep) (first | (go_at_call 70; refine E.out.mono ?_; rintro e w5 ⟨rfl, ⟨r2, r3⟩, r1, h3⟩; have F := Lib.hid h3; clear h3))
        obtain ⟨LN, BYC⟩ := BY.out w1 w5 bm V.out.1 V.out.2.1 V.out.2.2 F.out.1 F.out.2.1 F.out.2.2.2.2
        have BYC := Lib.hid BYC
        go_wp2_with (first | (go_at_call 77; refine BYC.out.mono ?_; rintro e w6 ⟨G6, rfl, d6, p6, c6, f6⟩; have FF := Lib.hid (FE.out w5 w6 G6 _ _ F.out.2.2.2.1 F.out.2.2.1 (by rfl) d6 p6 c6 f6); clear d6 p6 c6 f6) | (go_at_call 71; refine (FF.out.2 _).mono ?_; rintro e w7 q1; have Z := Lib.hid q1; obtain ⟨_, _, rfl, _⟩ := q1))
        go_ret
        exact Z.out
end Go.Proofs.YtamhjjagjjdmoaaGreat
end

section
namespace Go.Proofs.YtamhjjagjjdmoaaGreat
open Go.RowKit Go.Maps Go.Shelf Go.Sort

def logSz (L : LogL) : Nat := (blocksOn L).length
theorem Store.trOk {M : DiskM} {V : List Bts} {L : LogL} (h : Store M V L) : TrOk M := fun kl v e => by rw [h.tr] at e; simp [mfind] at e

theorem committed_calm (bp bd bl : Nat) (M : DiskM) (G : DG) (P : PagerM) (R : Nat → Nat) (hR : ∀ b, R b ≠ 0 → ¬ G.F b) (V : List Bts) (L : LogL) (hS : Store M V L) (hm : P.mode = 1 ∨ P.mode = 2) :
    ∃ M' V' L' s, Store M' V' L' ∧ doneV V' L' = doneV V L ∧ (P.mode = 1 → L' = []) ∧ logSz L' ≤ logSz L ∧ ∀ w, DiskAt w bd M G → PagerW w bp bd bl P R → Calls Tryz.prog 69 #[ptr bp] w (CPost w bp bd bl G R 0 (doneV V L).flatten M' { P with sure := s }) := by
  rcases hm with hm | hm
  · obtain ⟨M1, s, e, hS1⟩ := hS.fold P.sure
    refine ⟨M1, _, [], s, hS1, doneV_nil _, fun _ => rfl, by simp [logSz, blocksOn], fun w h hp => ?_⟩
    have := committed_fold w bp bd bl M G P R h hS.trOk hp hR hS.off hS.nj L hS.log hS.logOk hm (by rw [e]) (by rw [e]; exact hS1.off) (by rw [e]; exact hS1.log) (doneV V L).flatten (by rw [e]; exact hS1.base) hS1.b5 hS1.b2
    rw [e] at this
    exact this
  · have hm1 : ¬ P.mode = 1 := by omega
    by_cases hL : L = []
    · subst hL
      refine ⟨M, V, [], P.sure, hS, rfl, fun h => absurd h hm1, Nat.le_refl _, fun w h hp => ?_⟩
      rw [doneV_nil]
      exact committed_nil2 w bp bd bl M G P R h hp hR hS.off hS.nj hS.log V.flatten hS.base hS.b5 hS.b2 hm
    · by_cases hs : P.sure = (blocksOn L).length
      · refine ⟨M, V, L, P.sure, hS, rfl, fun h => absurd h hm1, Nat.le_refl _, fun w h hp => ?_⟩
        rw [← hS.comm]
        exact committed_sure w bp bd bl M G P R h hp hR hS.off hS.nj L hS.log hS.logOk hL V.flatten hS.base hS.b5 hS.b2 hm hs
      · obtain ⟨M1, e, hS1⟩ := hS.sync hL
        refine ⟨M1, V, L, (blocksOn L).length, hS1, rfl, fun h => absurd h hm1, Nat.le_refl _, fun w h hp => ?_⟩
        have := committed_sync w bp bd bl M G P R h hp hR hS.off hS.nj L hS.log hS.logOk hL V.flatten hS.base hS.b5 hS.b2 hm hs hS.trOk (by rw [e])
        rw [e, hS.comm] at this
        exact this

/-- a pager, its disk, its locks -/
structure Sys (w : World) (bp bd bl : Nat) (M : DiskM) (G : DG) (P : PagerM) (R : Nat → Nat) (Lk : Nat → Int) : Prop where
  d : DiskAt w bd M G
  p : PagerW w bp bd bl P R
  l : Blk w bl 135 (lvls Lk)
  lok : LvOk Lk
  c4 : P.c < 4
  sep : ∀ b, R b ≠ 0 → ¬ G.F b
  rl : R bl = 0
  gl : ¬ G.F bl
  mode : P.mode = 1 ∨ P.mode = 2
structure Idle (P : PagerM) : Prop where
  dead : P.dead = false
  inn : P.inn = false
  wrote : P.wrote = false
  count : P.count = 0
  marks : P.marks = []
theorem Idle.ask {P : PagerM} (h : Idle P) : askM P = 11 := by simp [askM, h.dead, h.inn]
theorem InTx.ask {P : PagerM} {W : List Bts} {own : PgL} {c : Nat} (h : InTx P W own c) : askM P = 0 := by simp [askM, h.edead, h.einn]
theorem Idle.of_idle {P : PagerM} (h : P.dead = false) : Idle (idleM P) := ⟨h, rfl, rfl, rfl, rfl⟩

theorem Sys.of_post {w w' : World} {bp bd bl : Nat} {M M' : DiskM} {G : DG} {P P' : PagerM} {R : Nat → Nat} {Lk Lk' : Nat → Int} {v : Value} {e : Ending} (h : Sys w bp bd bl M G P R Lk) (hb : BPost w bp bd bl G R v M' P' Lk' e w')
    (hlok : LvOk Lk') (hc : P'.c = P.c) (hm : P'.mode = P.mode) : ∃ G' R', e = .returned v ∧ Sys w' bp bd bl M' G' P' R' Lk' ∧ Chg (fun b => G.F b ∨ R b ≠ 0 ∨ b = bl) w w' ∧ (∀ b, G'.F b → G.F b ∨ w.heap.size ≤ b) ∧ (∀ b, R' b ≠ 0 → R b ≠ 0 ∨ w.heap.size ≤ b) := by
  obtain ⟨G', R', rfl, h1, h2, h3, h4, h5, h6, h7, h8, h9⟩ := hb
  exact ⟨G', R', rfl, ⟨h1, h2, h3, hlok, by rw [hc]; exact h.c4, h7, h8, h9, by rw [hm]; exact h.mode⟩, h4, h5, h6⟩
theorem Sys.chg {S : Nat → Prop} {w w' : World} {bp bd bl : Nat} {M : DiskM} {G : DG} {P : PagerM} {R : Nat → Nat} {Lk : Nat → Int} (h : Sys w bp bd bl M G P R Lk) (c : Chg S w w') (hG : ∀ b, G.F b → ¬ S b) (hR : ∀ b, R b ≠ 0 → ¬ S b) (hl : ¬ S bl) : Sys w' bp bd bl M G P R Lk := by
  obtain ⟨_, _, _, _, hp⟩ := h.p
  exact { h with d := h.d.chg c hG, p := ⟨_, _, _, _, hp.chg c hR⟩, l := h.l.chg c hl }
theorem Sys.rlt {w : World} {bp bd bl : Nat} {M : DiskM} {G : DG} {P : PagerM} {R : Nat → Nat} {Lk : Nat → Int} (h : Sys w bp bd bl M G P R Lk) : ∀ b, R b ≠ 0 → b < w.heap.size := by
  obtain ⟨_, _, _, _, hp⟩ := h.p
  exact hp.lt
theorem Sys.rbp {w : World} {bp bd bl : Nat} {M : DiskM} {G : DG} {P : PagerM} {R : Nat → Nat} {Lk : Nat → Int} (h : Sys w bp bd bl M G P R Lk) : R bp = 1 := by
  obtain ⟨_, _, _, _, hp⟩ := h.p
  exact hp.r1

theorem begin_calm (w : World) (bp bd bl : Nat) (M : DiskM) (G : DG) (P : PagerM) (R : Nat → Nat) (Lk : Nat → Int) (h : Sys w bp bd bl M G P R Lk) (hi : Idle P) (V : List Bts) (L : LogL) (hS : Store M V L) (hb : (raiseM Lk P.c 1).1 = 0) :
    ∃ M' V' L' P', Store M' V' L' ∧ doneV V' L' = doneV V L ∧ (P.mode = 1 → L' = []) ∧ logSz L' ≤ logSz L ∧ InTx P' (doneV V L) [] (doneV V L).length ∧ P'.wrote = false ∧ P'.marks = [] ∧ P'.c = P.c ∧ P'.mode = P.mode ∧ P'.next = P.next ∧
      Calls Tryz.prog 22 #[ptr bp] w (BPost w bp bd bl G R (I 0) M' P' (raiseM Lk P.c 1).2) := by
  obtain ⟨M', V', L', s, h1, h2, h3, h4, CM⟩ := committed_calm bp bd bl M G P R h.sep V L hS h.mode
  have hB := begin_ok w bp bd bl M G P R h.d h.p h.sep hi.dead hi.inn Lk h.l h.lok h.c4 h.rl h.gl hb (doneV V L).flatten M' { P with sure := s } hi.dead (by rw [hS.dflat]; have := hS.dlen; omega) CM
  refine ⟨M', V', L', begM { P with sure := s } (doneV V L).flatten, h1, h2, h3, h4, ⟨hi.dead, rfl, rfl, rfl, ?_, hS.dpgs, hS.dlen, ⟨fun p hp => by simp at hp, Nat.le_refl _, fun hlt => absurd hlt (Nat.lt_irrefl _)⟩, .nil, fun p hp => by simp at hp, hS.dlen, ?_⟩, hi.wrote, hi.marks, rfl, rfl, rfl, hB⟩
  · show (((doneV V L).flatten.length / 512 : Nat) : Int) = _
    rw [hS.dflat, Nat.mul_div_cancel _ (by decide)]
  · intro m hm
    have : P.marks = [] := hi.marks
    simp [begM, this] at hm
theorem length_news {W : List Bts} {own : PgL} {c : Nat} (ht : Tops W.length own c) (hr : Rises own) : (newsL W own).length ≤ c := by
  have := pair_len (c : Int) (newsL W own) 0 (hr.filter _) fun p hp => ht.lt p (List.mem_filter.1 hp).1
  omega
theorem logSz_snoc (L : LogL) (c : Nat) (l : PgL) (hf : Full l) : logSz (L ++ [(c, l)]) = logSz L + (9 + l.length * 516) := by
  have h1 : (blockOn c l).length = (blockM c l).length := by simp [blockOn, blockM]
  simp only [logSz, blocksOn, List.flatMap_append, List.length_append, List.flatMap_cons, List.flatMap_nil, List.append_nil, h1, length_blockM c l hf]

set_option maxRecDepth 100000 in
theorem commit_calm (w : World) (bp bd bl : Nat) (M : DiskM) (G : DG) (P : PagerM) (R : Nat → Nat) (Lk : Nat → Int) (h : Sys w bp bd bl M G P R Lk) (V : List Bts) (L : LogL) (hS : Store M V L) (own : PgL) (c : Nat) (hI : InTx P (doneV V L) own c) (hw : P.wrote = true)
    (hm : P.mode = 1 → L = []) (hlen : logSz L + (9 + c * 516) ≤ 4194304) (hb : (raiseM Lk P.c 4).1 = 0) :
    ∃ M' V' L' P', Store M' V' L' ∧ doneV V' L' = view (doneV V L) own c ∧ logSz L' ≤ logSz L + (9 + c * 516) ∧ (P.mode = 1 → L' = []) ∧ Idle P' ∧ P'.c = P.c ∧ P'.mode = P.mode ∧ P'.next = P.next ∧
      Calls Tryz.prog 29 #[ptr bp] w (BPost w bp bd bl G R (I 0) M' P' (lowerM (raiseM Lk P.c 4).2 P.c)) := by
  have hn := length_news hI.tops hI.rises
  have hnf : Full (newsL (doneV V L) own) := fun p hp => hI.full p (List.mem_filter.1 hp).1
  have hnr : Rises (newsL (doneV V L) own) := hI.rises.filter _
  have hnt := tops_news hI.tops hI.rises
  have hlb := length_blockM c (newsL (doneV V L) own) hnf
  have hC := commit_any w bp bd bl M G P R h.d hS.trOk h.p h.sep (doneV V L) own c hI hw Lk h.l h.lok h.c4 h.rl h.gl hb L fun _ _ => ⟨hS.off, hS.logOk, hS.log, by unfold logSz at hlen; omega⟩
  have fin : ∀ X : Int × DiskM × Int, X.1 = 0 → midM M (doneV V L) L own c P.mode P.sure = X → Idle (commP P X) ∧ (commP P X).c = P.c ∧ (commP P X).mode = P.mode ∧ (commP P X).next = P.next ∧ Calls Tryz.prog 29 #[ptr bp] w (BPost w bp bd bl G R (I 0) X.2.1 (commP P X) (lowerM (raiseM Lk P.c 4).2 P.c)) := by
    intro X hX e
    rw [e, hX] at hC
    refine ⟨?_, ?_, ?_, ?_, hC⟩ <;> (unfold commP; rw [if_pos hX])
    · exact Idle.of_idle hI.edead
    all_goals rfl
  by_cases h0 : newsL (doneV V L) own = []
  · have e : midM M (doneV V L) L own c P.mode P.sure = (0, M, P.sure) := by rw [midM, if_pos h0]
    have hv := news_nil hI.tops hI.rises h0
    exact ⟨M, V, L, commP P (0, M, P.sure), hS, hv.symm, by omega, hm, fin _ rfl e⟩
  · by_cases hm1 : P.mode = 1
    · have hL := hm hm1
      subst hL
      rw [doneV_nil] at *
      have hold := old_ok' hS.pgs (newsOk hI)
      obtain ⟨M1, M2, M3, e1, e2, e3, hS3⟩ := hS.byJournal V.length (oldL V (newsL V own)) (Full.oldL hS.pgs _) hold.1 c (newsL V own) hnt hnr hnf hI.c4 h0
      have e : midM M V [] own c P.mode P.sure = (0, M3, P.sure) := by
        rw [midM, if_neg h0, if_pos hm1]
        simp [byJournalM, e1, e2, e3]
      exact ⟨M3, view V (newsL V own) c, [], commP P (0, M3, P.sure), hS3, by rw [doneV_nil, view_news _ _ _ hI.rises], by simp [logSz, blocksOn], fun _ => rfl, fin _ rfl e⟩
    · obtain ⟨M1, e1, hS1, hd⟩ := hS.byLog c (newsL (doneV V L) own) hnt hnr hnf hI.c4 (by unfold logSz at hlen; omega)
      have e : midM M (doneV V L) L own c P.mode P.sure = (0, M1, ((((blocksOn L).length + (blockM c (newsL (doneV V L) own)).length : Nat)) : Int)) := by
        rw [midM, if_neg h0, if_neg hm1]
        simp [byLogM, e1]
      exact ⟨M1, V, L ++ [(c, newsL (doneV V L) own)], commP P (0, M1, ((((blocksOn L).length + (blockM c (newsL (doneV V L) own)).length : Nat)) : Int)), hS1, by rw [hd, view_news _ _ _ hI.rises], by rw [logSz_snoc _ _ _ hnf]; omega, fun hh => absurd hh hm1, fin _ rfl e⟩
end Go.Proofs.YtamhjjagjjdmoaaGreat
end

section
namespace Go.Proofs.YtamhjjagjjdmoaaGreat
open Go.RowKit Go.Maps Go.Shelf Go.Sort

def newR (bp : Nat) : Nat → Nat := fun b => if b = bp then 1 else 0
def newP (mode : Int) (c : Nat) : PagerM := { mode := mode, c := c, dead := false, inn := false, wrote := false, was := [], own := none, count := 0, marks := [], next := 0, sure := -1 }
theorem newP_idle (mode : Int) (c : Nat) (s : Int) : Idle { newP mode c with sure := s } := ⟨rfl, rfl, rfl, rfl, rfl⟩
theorem PagerAt.new {w : World} {bp bd bl : Nat} (mode : Int) (c : Nat) (hb : Blk w bp 140 #[ptr bd, I mode, ptr bl, I c, .bool false, .bool false, .bool false, .slice none 0 0, .map none, I 0, .slice none 0 0, I 0, I (-1)]) :
    PagerAt w bp bd bl (newP mode c) (newR bp) (.slice none 0 0) (.map none) (.slice none 0 0) [] :=
  ⟨hb, by simp [newR], .inl ⟨rfl, rfl⟩, fun g hg => by simp [Value.ownBlock] at hg, .inl ⟨rfl, rfl⟩, ⟨rfl, .inl ⟨rfl, rfl⟩⟩, fun g hg => by simp [Value.ownBlock] at hg, True.intro, fun b h => by
    unfold newR at h; split at h
    · next e => rw [e]; exact hb.lt
    · exact absurd rfl h⟩

set_option maxHeartbeats 1000000 in
set_option maxRecDepth 100000 in
theorem open_ok (w : World) (bd bl : Nat) (M : DiskM) (G : DG) (h : DiskAt w bd M G) (Lk : Nat → Int) (hl : Blk w bl 135 (lvls Lk)) (hL : LvOk Lk) (hgl : ¬ G.F bl) (mode : Int) (hm : mode = 1 ∨ mode = 2) (c : Nat) (hc : c < 4) (V : List Bts) (L : LogL) (hS : Store M V L) :
    ∃ M' V' L' s, Store M' V' L' ∧ doneV V' L' = doneV V L ∧ (mode = 1 → L' = []) ∧ logSz L' ≤ logSz L ∧
      Calls Tryz.prog 19 #[ptr bd, I mode, ptr bl, I c] w fun e w' => ∃ G', e = .returned (.tuple #[ptr w.heap.size, I 0]) ∧ Sys w' w.heap.size bd bl M' G' { newP mode c with sure := s } (newR w.heap.size) Lk ∧ Chg G.F w w' ∧ ∀ b, G'.F b → G.F b ∨ w.heap.size ≤ b := by
  have hsep : ∀ b, newR w.heap.size b ≠ 0 → ¬ G.F b := fun b hb e => by
    unfold newR at hb; split at hb
    · next e2 => have := h.olt b e; omega
    · exact hb rfl
  obtain ⟨M', V', L', s, h1, h2, h3, h4, CM⟩ := committed_calm w.heap.size bd bl M G (newP mode c) (newR w.heap.size) hsep V L hS hm
  refine ⟨M', V', L', s, h1, h2, h3, h4, ?_⟩
  obtain ⟨W, hW⟩ : ∃ W, W = w.alloc (.cells #[ptr bd, I mode, ptr bl, I c, .bool false, .bool false, .bool false, .slice none 0 0, .map none, I 0, .slice none 0 0, I 0, I (-1)] 140) := ⟨_, rfl⟩
  have cW : Chg Non w W := by rw [hW]; exact (Chg.refl _ w).alloc _
  have C := CM W (h.chg cW fun _ _ => id) ⟨_, _, _, _, PagerAt.new mode c (by rw [hW]; exact Blk.new w _ _)⟩
  have FIN : Hid (∀ G' v w', DiskAt w' bd M' G' → PagerW w' w.heap.size bd bl { newP mode c with sure := s } (newR w.heap.size) → Chg (fun b => G.F b ∨ b = w.heap.size) W w' → (∀ b, G'.F b → G.F b ∨ W.heap.size ≤ b) → v = ptr w.heap.size → ∃ G', (Ending.returned (.tuple #[v, I 0])) = .returned (.tuple #[ptr w.heap.size, I 0]) ∧ Sys w' w.heap.size bd bl M' G' { newP mode c with sure := s } (newR w.heap.size) Lk ∧ Chg G.F w w' ∧ ∀ b, G'.F b → G.F b ∨ w.heap.size ≤ b) := by
    rintro G' v w' q1 q2 q3 q4 rfl
    have sz : W.heap.size = w.heap.size + 1 := by rw [hW]; simp
    have q4' : ∀ b, G'.F b → G.F b ∨ w.heap.size < b := fun b hb => (q4 b hb).imp id fun e => by omega
    have hbl := hl.lt
    refine ⟨G', rfl, ⟨q1, q2, Blk.chg (S := fun b => G.F b ∨ b = w.heap.size) (Blk.chg (S := Non) hl cW id) q3 (fun e => e.elim hgl fun e => by omega), hL, hc, fun b hb e => ?_, by unfold newR; rw [if_neg (by omega)], fun e => ?_, hm⟩, ?_, fun b hb => (q4' b hb).imp id fun e => by omega⟩
    · unfold newR at hb; split at hb
      · next e2 =>
        rcases q4' b e with e | e
        · have := h.olt b e; omega
        · omega
      · exact hb rfl
    · rcases q4' bl e with e | e
      · exact hgl e
      · omega
    · exact (cW.mono (S' := G.F) fun _ hf => hf.elim).trans q3 fun b hb => hb.imp id fun e => by omega
  have b0 : decide (0 ≤ c) = true := by simp
  have CH := Lib.hid C
  rw [hW] at CH FIN
  clear h hl hL hgl hS hsep CM C cW hW
  rcases hm with rfl | rfl
  · go_enter Tryz.func19, Tryz.ntmps19
    go_wp2_with (first | (go_at_call 68; refine (conn_yes _ _ (by omega) (by omega)).mono ?_; rintro e w' ⟨rfl, rfl⟩) | (go_at_call 69; refine CH.out.mono ?_; rintro e w5 ⟨G5, v, rfl, k1, k2, k3, k4, k5, k6⟩; have F := Lib.hid (And.intro k3 (And.intro k4 (And.intro k5 k6))); clear k1 k2 k3 k4 k5 k6))
    go_ret2
    exact FIN.out G5 _ _ F.out.1 F.out.2.1 F.out.2.2.1 F.out.2.2.2 rfl
  · go_enter Tryz.func19, Tryz.ntmps19
    go_wp2_with (first | (go_at_call 68; refine (conn_yes _ _ (by omega) (by omega)).mono ?_; rintro e w' ⟨rfl, rfl⟩) | (go_at_call 69; refine CH.out.mono ?_; rintro e w5 ⟨G5, v, rfl, k1, k2, k3, k4, k5, k6⟩; have F := Lib.hid (And.intro k3 (And.intro k4 (And.intro k5 k6))); clear k1 k2 k3 k4 k5 k6))
    go_ret2
    exact FIN.out G5 _ _ F.out.1 F.out.2.1 F.out.2.2.1 F.out.2.2.2 rfl
end Go.Proofs.YtamhjjagjjdmoaaGreat
end

section
namespace Go.Proofs.YtamhjjagjjdmoaaGreat
open Go.RowKit Go.Maps Go.Shelf Go.Sort

theorem makeMap_files (w : World) : (Instr.makeMap 124 none).run Tryz.prog w = .ok (.map (some w.heap.size)) (w.alloc (.map #[] 0)) := run_makeMap 124 w
theorem makeMap_ints (w : World) : (Instr.makeMap 125 none).run Tryz.prog w = .ok (.map (some w.heap.size)) (w.alloc (.map #[] 0)) := run_makeMap 125 w
def emptyM : DiskM := { names := [], file := fun _ => ⟨[], []⟩, tr := [], strokes := 0, off := false }
def emptyG (k : Nat) : DG := { bf := k, bt := k + 1, bx := fun _ => 0, vs := fun _ => .slice none 0 0, vn := fun _ => .slice none 0 0, own := fun b => if b = k then some .fmap else if b = k + 1 then some .tmap else if b = k + 2 then some .disk else none }
theorem emptyG_F {k b : Nat} (h : (emptyG k).F b) : k ≤ b := by
  unfold DG.F emptyG at h
  simp only at h
  split at h
  · omega
  · split at h
    · omega
    · split at h
      · omega
      · cases h
set_option maxHeartbeats 1000000 in
set_option maxRecDepth 100000 in
theorem dnew_nil (w : World) : Calls Tryz.prog 16 #[.slice none 0 0, .slice none 0 0] w fun e w' => e = .returned (.tuple #[ptr (w.heap.size + 2), I 0]) ∧ DiskAt w' (w.heap.size + 2) emptyM (emptyG w.heap.size) ∧ Chg Non w w' := by
  obtain ⟨w1, hw1⟩ : ∃ w1, w1 = w.alloc (.map #[] 0) := ⟨_, rfl⟩
  obtain ⟨w2, hw2⟩ : ∃ w2, w2 = w1.alloc (.map #[] 0) := ⟨_, rfl⟩
  obtain ⟨w3, hw3⟩ : ∃ w3, w3 = w2.alloc (.cells #[.map (some w.heap.size), .map (some (w.heap.size + 1)), I 0, .bool false] 127) := ⟨_, rfl⟩
  have s1 : w1.heap.size = w.heap.size + 1 := by rw [hw1]; simp
  have s2 : w2.heap.size = w.heap.size + 2 := by rw [hw2]; simp [s1]
  have f1 : MapW Tryz.prog 9 w1 w.heap.size [] := by rw [hw1]; exact MapW.made _ _ w
  have t2 : MapW Tryz.prog 3 w2 (w.heap.size + 1) [] := by rw [hw2, ← s1]; exact MapW.made _ _ w1
  have c1 : Chg Non w1 w2 := by rw [hw2]; exact (Chg.refl _ w1).alloc _
  have c2 : Chg Non w2 w3 := by rw [hw3]; exact (Chg.refl _ w2).alloc _
  have cW : Chg Non w w3 := (Chg.tr (by rw [hw1]; exact (Chg.refl _ w).alloc _) c1).tr c2
  have b3 : Blk w3 (w.heap.size + 2) 127 #[.map (some w.heap.size), .map (some (w.heap.size + 1)), I 0, .bool false] := by rw [hw3, ← s2]; exact Blk.new w2 _ _
  have D : DiskAt w3 (w.heap.size + 2) emptyM (emptyG w.heap.size) := by
    refine ⟨b3, (f1.chg c1 id).chg c2 id, t2.chg c2 id, by simp [emptyG], by simp [emptyG], by simp [emptyG], fun n hn => by simp [emptyM] at hn, fun n hn => by simp [emptyM] at hn, fun n hn => by simp [emptyM] at hn, fun n hn => by simp [emptyM] at hn, fun b hb => ?_, fun n hn => by simp [emptyM] at hn, by simp [emptyM]⟩
    have s3 : w3.heap.size = w.heap.size + 3 := by rw [hw3]; simp [s2]
    unfold DG.F emptyG at hb
    simp only at hb
    rw [s3]
    split at hb
    · omega
    · split at hb
      · omega
      · split at hb
        · omega
        · cases hb
  have FIN : Hid (DiskAt w3 (w.heap.size + 2) emptyM (emptyG w.heap.size) ∧ Chg Non w w3) := ⟨D, cW⟩
  rw [hw3, hw2, hw1] at FIN
  have m1 := makeMap_files w
  have m2 := makeMap_ints (w.alloc (.map #[] 0))
  have s1' : (w.alloc (.map #[] 0)).heap.size = w.heap.size + 1 := by simp
  rw [s1'] at m2
  clear hw1 hw2 hw3 s1 s2 f1 t2 c1 c2 cW b3 D s1'
  go_enter Tryz.func16, Tryz.ntmps16
  go_wp2_with fail
  refine wp_loop_rounds 1 ?_
  rw [rounds_succ]
  go_wp2_with fail
  refine wp_loop_rounds 1 ?_
  rw [rounds_succ]
  go_wp2_with fail
  go_ret2
  exact ⟨rfl, FIN.out⟩
theorem empty_store : Store emptyM [] [] := ⟨⟨fun _ => none, ⟨rfl, rfl, rfl, fun _ _ h => by cases h⟩, rfl, .inl ⟨rfl, rfl⟩, .inl ⟨rfl, rfl⟩⟩, fun x hx => by simp at hx, True.intro, by simp [cntFrom]⟩
theorem empty_done : doneV [] [] = [] := doneV_nil []
end Go.Proofs.YtamhjjagjjdmoaaGreat
end

section
namespace Go.Proofs.YtamhjjagjjdmoaaGreat
open Go.RowKit Go.Maps

section
variable {P : Program} {md : Region.Mode} {ops : Array Oper} {Q : Exit → Act → World → Prop} {S : World → Prop} {t : Nat}
/-- in whatever order; S holds behind each operation but t -/
def wpAnyL (P : Program) (md : Region.Mode) (ops : Array Oper) (Q : Exit → Act → World → Prop) (S : World → Prop) (t : Nat) : Nat → Array Bool → Act → World → Prop
  | 0, l, a, w => Region.ready md ops l = [] ∧ Q .normal a w
  | k + 1, l, a, w => (Region.ready md ops l = [] → Q .normal a w) ∧
      ∀ i ∈ Region.ready md ops l, wpOp P ops Q i (fun a' w' => (i = t ∨ S w') ∧ wpAnyL P md ops Q S t k (l.setIfInBounds i true) a' w') a w
theorem wpAny_of_L : ∀ (k : Nat) (l : Array Bool) (a : Act) (w : World), wpAnyL P md ops Q S t k l a w → wpAny P md ops Q k l a w
  | 0, _, _, _, h => h
  | k + 1, _, _, _, h => ⟨h.1, fun i hi => wpOp_mono (fun a' w' h' => wpAny_of_L k _ a' w' h'.2) (h.2 i hi)⟩
theorem ready_not {i j : Nat} {l : Array Bool} (hi : i ∈ Region.ready md ops l) (hj : j ∈ Region.ready md ops l) {oj : Oper} (hoj : ops[j]? = some oj) : ∀ e ∈ oj.after, Region.binds md e = true → e.on ≠ i := fun x hx hb heq => by
  obtain ⟨_, o, ho, hall⟩ := mem_ready.1 hj
  rw [hoj] at ho
  obtain rfl := Option.some.inj ho
  have h2 := hall x hx hb
  have h3 := (mem_ready.1 hi).1
  rw [heq] at h2
  rcases Nat.lt_or_ge i l.size with h4 | h4
  · simp [h4] at h3 h2; rw [h3] at h2; cases h2
  · simp [Array.getElem?_eq_none h4] at h2
theorem wpAnyL_first {i : Nat} {oi : Oper} {v : Value} (hi : ops[i]? = some oi) (hsel : ∀ (j : Nat) (o : Oper) cs b, ops[j]? = some o → o.op ≠ .select cs b)
    (hQ : ∀ c a w, Q (.panic c) (a.put oi.dst v) w → Q (.panic c) a w) (ht : ∃ o, ops[t]? = some o ∧ ∃ e ∈ o.after, Region.binds md e = true ∧ e.on = i) :
    ∀ (k : Nat) (l : Array Bool) (a : Act) (w : World), (∀ j oj, ops[j]? = some oj → j ≠ i → l.getD j true = false → (∀ e ∈ oj.after, Region.binds md e = true → e.on ≠ i) → oi.apart ops oj = true) →
      i ∈ Region.ready md ops l → YieldsIf P ops S oi v a → S w → wpAnyL P md ops Q S t k (l.setIfInBounds i true) (a.put oi.dst v) w → wpAnyL P md ops Q S t (k + 1) l a w := by
  intro k
  induction k with
  | zero =>
    intro l a w _ hr hy hS H
    refine ⟨fun h => (by rw [h] at hr; cases hr), fun j hj => ?_⟩
    by_cases e : j = i
    · subst e; exact hy.wpOp hi hS ⟨.inr hS, H⟩
    · have h1 := ready_mono hj e
      rw [H.1] at h1; cases h1
  | succ k ih =>
    intro l a w hfree hr hy hS H
    refine ⟨fun h => (by rw [h] at hr; cases hr), fun j hj => ?_⟩
    by_cases e : j = i
    · subst e; exact hy.wpOp hi hS ⟨.inr hS, H⟩
    · have h1 := H.2 j (ready_mono hj e)
      obtain ⟨hjun, oj, hoj, hall⟩ := mem_ready.1 hj
      have hno := ready_not hr hj hoj
      have hjt : j ≠ t := fun hjt => by
        obtain ⟨o, ho, x, hx, hb, hxi⟩ := ht
        rw [← hjt, hoj] at ho
        obtain rfl := Option.some.inj ho
        exact hno x hx hb hxi
      have h2 := wpOp_putIf hoj (hfree j oj hoj e hjun hno) (fun cs b => hsel i oi cs b hi) (fun cs b => hsel j oj cs b hoj) hQ hy h1
      have hfree' : ∀ m om, ops[m]? = some om → m ≠ i → (l.setIfInBounds j true).getD m true = false → (∀ e ∈ om.after, Region.binds md e = true → e.on ≠ i) → oi.apart ops om = true := fun m om hm hmi hun hn => by
        refine hfree m om hm hmi ?_ hn
        by_cases hjm : j = m
        · subst hjm; exact hjun
        · rw [getD_set_ne true hjm] at hun; exact hun
      refine wpOp_mono (fun a' w' h3 => ?_) h2
      have hS' : S w' := h3.2.1.resolve_left hjt
      refine ⟨.inr hS', ih (l.setIfInBounds j true) a' w' hfree' (ready_mono hr (Ne.symm e)) h3.1 hS' ?_⟩
      rw [Array.setIfInBounds_comm _ _ e]
      exact h3.2.2
theorem wpAnyL_take {i : Nat} {oi : Oper} {v : Value} {k : Nat} {l : Array Bool} {a : Act} {w : World} (hi : ops[i]? = some oi)
    (hs : Region.noSelect ops = true) (hf : Region.free md ops l i = true) (hr : (Region.ready md ops l).contains i = true) (ht : Region.waitsFor md ops t i = true)
    (hQ : ∀ c a w, Q (.panic c) (a.put oi.dst v) w → Q (.panic c) a w) (hy : YieldsIf P ops S oi v a) (hS : S w)
    (h : wpAnyL P md ops Q S t k (l.setIfInBounds i true) (a.put oi.dst v) w) : wpAnyL P md ops Q S t (k + 1) l a w :=
  wpAnyL_first hi (Region.noSelect_spec hs) hQ (Region.waitsFor_spec ht) k l a w (Region.free_spec hi hf) (by simpa using hr) hy hS h
/-- one alone may come up -/
theorem wpAnyL_one {i : Nat} {oi : Oper} {k : Nat} {l : Array Bool} {a : Act} {w : World} (hr : Region.ready md ops l = [i]) (hi : ops[i]? = some oi) (hg : oi.guard = none)
    (h : ∀ K : Act → World → Prop, (∀ a' w', (i = t ∨ S w') → wpAnyL P md ops Q S t k (l.setIfInBounds i true) a' w' → K a' w') → oi.wp P a w K Q) : wpAnyL P md ops Q S t (k + 1) l a w := by
  refine ⟨fun h0 => (by rw [hr] at h0; cases h0), fun j hj => ?_⟩
  rw [hr] at hj
  obtain rfl : j = i := by simpa using hj
  unfold wpOp
  simp only [hi]
  have hw : Region.wanted oi (yielded ops a.tmps) = true := by simp [Region.wanted, hg]
  rw [if_pos hw]
  exact .inl (h _ fun a' w' h1 h2 => ⟨h1, h2⟩)
theorem wpAnyL_done {l : Array Bool} {a : Act} {w : World} (hr : Region.ready md ops l = []) (h : Q .normal a w) : ∀ k, wpAnyL P md ops Q S t k l a w
  | 0 => ⟨hr, h⟩
  | _ + 1 => ⟨fun _ => h, by rw [hr]; simp⟩
theorem wp_region_L (S : World → Prop) (t : Nat) {id : Nat} {a : Act} {w : World} (hm : P.follows .mixedOrders = true) (h : wpAnyL P .any ops Q S t ops.size (Array.replicate ops.size false) a w.drew) : (Code.region id ops true).wp P Q a w :=
  wp_region_any hm (wpAny_of_L _ _ _ _ h)
end
end Go.Proofs.YtamhjjagjjdmoaaGreat
end
