/- marks, Fold -/
import Derived.Test.YtamhjjagjjdmoaaGreatC6
import Derived.Test.YtamhjjagjjdmoaaGreatC5
import Derived.Shelf.SlicesQ.IndexFunc
import Derived.Ground.SlgfProg
import Derived.Test.YtamhjjagjjdmoaaGreatProg
import Derived.Lib.SliceRun
section
namespace Go.Proofs.YtamhjjagjjdmoaaGreat
open Go.RowKit Go.Maps Go.Shelf Go.Sort

theorem infoMark : (Tryz.prog.info? 150).map (fun i => (i.zero, i.size, i.bytes)) = some (some (.agg #[.int .i64 0, .map none, .int .i64 0]), 3, 24) := by kernel_rfl
/-- maps.Clone of pages -/
theorem PgW.clone {w : World} {F : Nat → Prop} {b : Nat} {l : PgL} (h : PgW w F b l) :
    Calls Tryz.prog 81 #[.map (some b)] w fun e w' => e = .returned (.map (some w.heap.size)) ∧ PgW w' F w.heap.size l ∧ Chg Non w w' ∧ w.heap.size < w'.heap.size := by
  obtain ⟨m, h1, h2⟩ := h
  refine (cloneM_any w b m h1).mono ?_
  rintro e w' ⟨rfl, k1, k2, k3⟩
  have c : Chg Non w w' := Chg.of_below k2
  exact ⟨rfl, ⟨m, k1, All2.imp' h2 fun x y hxy => ⟨hxy.1, hxy.2.chg c fun _ _ => id⟩⟩, c, k3⟩
theorem markCells_snoc : ∀ (bs : List Nat) (ms : List MarkM) (b : Nat) (m : MarkM), bs.length = ms.length → markCells (bs ++ [b]) (ms ++ [m]) = markCells bs ms ++ [I m.n, .map (some b), I m.count]
  | [], [], _, _, _ => rfl
  | b' :: bs, m' :: ms, b, m, h => by simp [markCells, markCells_snoc bs ms b m (by simpa using h)]
def markP (P : PagerM) (own : PgL) (n : Int) : PagerM := { P with next := n, marks := P.marks ++ [⟨n, own, P.count⟩] }
def roleMark (R : Nat → Nat) (v : Value) (bc : Nat) : Nat → Nat := fun g => if v.ownBlock = some g then 3 else if g = bc then 4 else R g
theorem All2.snoc {α β : Type} {R : α → β → Prop} : ∀ {a : List α} {b : List β} {x : α} {y : β}, All2 R a b → R x y → All2 R (a ++ [x]) (b ++ [y])
  | [], [], _, _, _, h => ⟨h, True.intro⟩
  | _ :: _, _ :: _, _, _, ⟨h, t⟩, h' => ⟨h, All2.snoc t h'⟩

theorem four {T : Nat → Prop} {u u' : World} {bp : Nat} {v8 v9 v10 v11 : Value} (c : Chg T u u') (hn : ¬ T bp) (h : u.cell? ⟨bp, 8, none⟩ = some v8 ∧ u.cell? ⟨bp, 9, none⟩ = some v9 ∧ u.cell? ⟨bp, 10, none⟩ = some v10 ∧ u.cell? ⟨bp, 11, none⟩ = some v11) :
    u'.cell? ⟨bp, 8, none⟩ = some v8 ∧ u'.cell? ⟨bp, 9, none⟩ = some v9 ∧ u'.cell? ⟨bp, 10, none⟩ = some v10 ∧ u'.cell? ⟨bp, 11, none⟩ = some v11 := by
  have hb : bp < u.heap.size := World.block_lt_of_cell? u _ h.1
  exact ⟨by rw [c.cell (a := ⟨bp, 8, none⟩) hb hn]; exact h.1, by rw [c.cell (a := ⟨bp, 9, none⟩) hb hn]; exact h.2.1, by rw [c.cell (a := ⟨bp, 10, none⟩) hb hn]; exact h.2.2.1, by rw [c.cell (a := ⟨bp, 11, none⟩) hb hn]; exact h.2.2.2⟩
/-- a row of marks with one more -/
theorem PagerAt.mark {w1 w7 : World} {bp bd bl : Nat} {P : PagerM} {R : Nat → Nat} {vwas vown vmarks : Value} {mb : List Nat} (h : PagerAt w1 bp bd bl P R vwas vown vmarks mb) (v' : Value) (bc : Nat) (m : MarkM)
    (c17 : Chg (fun g => vmarks.ownBlock = some g) w1 w7) (hmc : PgW w7 (fun g => R g = 5) bc m.own) (hbc : w1.heap.size ≤ bc) (hbl : bc < w7.heap.size)
    (row : w7.ownsRow 0 150 3 v' (P.marks.length + 1) (markCells (mb ++ [bc]) (P.marks ++ [m])))
    (hv : ∀ g, v'.ownBlock = some g → vmarks.ownBlock = some g ∨ (w1.heap.size ≤ g ∧ g ≠ bc)) (hvl : ∀ g, v'.ownBlock = some g → g < w7.heap.size) :
    PagerAt (w7.setCell ⟨bp, 10, none⟩ v') bp bd bl { P with marks := P.marks ++ [m] } (roleMark R v' bc) vwas vown v' (mb ++ [bc]) := by
  have keep : ∀ g, R g ≠ 0 → roleMark R v' bc g = R g := fun g hg => by
    have hlt := h.lt g hg
    unfold roleMark
    split
    · next e =>
      rcases hv g e with e1 | e1
      · exact (h.rr g e1).symm
      · omega
    · split
      · omega
      · rfl
  have hvm : ∀ g r, R g = r → r ≠ 3 → ¬ vmarks.ownBlock = some g := fun g r hg h1 e => by rw [h.rr g e] at hg; exact h1 hg.symm
  have ne : ∀ g r, R g = r → r ≠ 1 → ¬ g = bp := fun g r hg h1 e => by rw [e, h.r1] at hg; exact h1 hg.symm
  have cW : Chg (fun g => g = bp) w7 (w7.setCell ⟨bp, 10, none⟩ v') := Chg.setCell (S := fun g => g = bp) (p := ⟨bp, 10, none⟩) (Chg.refl _ _) (.inl rfl) _
  have hb7 : Blk w7 bp _ _ := h.blk.chg c17 (hvm bp 1 h.r1 (by decide))
  have hb8 := hb7.set_ 10 v'
  have bpl : bp < w1.heap.size := h.blk.lt
  have hvb : ∀ g, v'.ownBlock = some g → g ≠ bp := fun g e e2 => by
    rcases hv g e with e1 | e1
    · exact hvm bp 1 h.r1 (by decide) (e2 ▸ e1)
    · omega
  generalize w7.setCell ⟨bp, 10, none⟩ v' = w8 at *
  have c8 : Chg (fun g => vmarks.ownBlock = some g ∨ g = bp) w1 w8 := (c17.mono fun g hg => .inl (.inl hg)).tr (cW.mono fun g hg => .inl (.inr hg))
  have nn : ∀ g r, R g = r → r ≠ 1 → r ≠ 3 → ¬ (vmarks.ownBlock = some g ∨ g = bp) := fun g r hg h1 h3 e => e.elim (hvm g r hg h3) (ne g r hg h1)
  have r5 : ∀ g, R g = 5 → roleMark R v' bc g = 5 := fun g hg => by rw [keep g (by rw [hg]; decide)]; exact hg
  refine ⟨by simpa using hb8, ?_, h.was.chg c8 fun g hg => nn g 5 (h.rw_ g hg) (by decide) (by decide), fun g hg => r5 g (h.rw_ g hg), ?_, ?_, fun g hg => ?_, ?_, fun g hg => ?_⟩
  · rw [keep bp (by rw [h.r1]; decide)]; exact h.r1
  · rcases h.own with e | ⟨b, l, e1, e2, e3, e4⟩
    · exact .inl e
    · exact .inr ⟨b, l, e1, e2, (e3.chg c8 (nn b 2 e4 (by decide) (by decide)) fun g hg => nn g 5 hg (by decide) (by decide)).mono r5, by rw [keep b (by rw [e4]; decide)]; exact e4⟩
  · show w8.ownsRow 0 150 3 v' (P.marks ++ [m]).length _
    rw [List.length_append]
    exact World.ownsRow.keep_ row fun g hg => cW.block g (hvl g hg) (hvb g hg)
  · unfold roleMark; rw [if_pos hg]
  · refine All2.snoc (All2.imp' h.marks fun b' m' hbm => ⟨(hbm.1.chg c8 (nn b' 4 hbm.2 (by decide) (by decide)) fun g hg => nn g 5 hg (by decide) (by decide)).mono r5, by rw [keep b' (by rw [hbm.2]; decide)]; exact hbm.2⟩) ⟨?_, ?_⟩
    · exact (hmc.chg cW (by omega) fun g hg => ne g 5 hg (by decide)).mono r5
    · unfold roleMark
      rw [if_neg, if_pos rfl]
      intro e
      rcases hv bc e with e1 | e1
      · have := h.lt bc (by rw [h.rr bc e1]; decide); omega
      · exact e1.2 rfl
  · have cs := cW.size
    unfold roleMark at hg
    split at hg
    · next e => exact Nat.lt_of_lt_of_le (hvl g e) cs
    · split at hg
      · next e => rw [e]; exact Nat.lt_of_lt_of_le hbl cs
      · exact Nat.lt_of_lt_of_le (h.lt g hg) c8.size

theorem mark_ask (w : World) (bp bd bl : Nat) (P : PagerM) (R : Nat → Nat) (hp : PagerW w bp bd bl P R) (ha : ¬ askM P = 0) :
    Calls Tryz.prog 35 #[ptr bp] w fun e w' => e = .returned (.tuple #[I 0, I (askM P)]) ∧ w' = w := by
  have AS := ask_any w bp bd bl P R hp
  generalize askM P = x at *
  have AS := Lib.hid AS
  have bx : (x != 0) = true := by simpa using ha
  clear hp ha
  go_enter Tryz.func35, Tryz.ntmps35
  go_wp2_with (first | (go_at_call 72; refine AS.out.mono ?_; rintro e w' ⟨rfl, hw'⟩; have hw2 := hw'.symm; subst hw2))
  go_ret2
  exact ⟨rfl, rfl⟩

set_option maxHeartbeats 2000000 in
set_option maxRecDepth 100000 in
theorem mark_ok (w : World) (bp bd bl : Nat) (M : DiskM) (G : DG) (P : PagerM) (R : Nat → Nat) (Lk : Nat → Int) (h : Sys w bp bd bl M G P R Lk) (W : List Bts) (own : PgL) (c : Nat) (hI : InTx P W own c) (n : Nat) (hn : P.next = (n : Int)) (hn1 : n < 1000000) (hml : P.marks.length < 1000000) :
    Calls Tryz.prog 35 #[ptr bp] w (BPost w bp bd bl G R (.tuple #[I ((n : Int) + 1), I 0]) M (markP P own ((n : Int) + 1)) Lk) := by
  have AS := ask_any w bp bd bl P R h.p
  rw [hI.ask] at AS
  have AS := Lib.hid AS
  obtain ⟨vwas, vown, vmarks, mb, hp⟩ := h.p
  obtain ⟨b, rfl, hm, hb2⟩ := hp.ownMap hI.eown
  obtain ⟨A, cp, rfl, _⟩ := ownsRow_form hp.row
  have c11 : w.cell? ⟨bp, 11, none⟩ = some (I n) := by rw [hp.blk.cell 11, ← hn]; rfl
  have f11 : w.frozen? ⟨bp, 11, none⟩ = false := hp.blk.frozen 11
  obtain ⟨w1, hw1⟩ : ∃ w1, w1 = w.setCell ⟨bp, 11, none⟩ (I ((n : Int) + 1)) := ⟨_, rfl⟩
  have p1 := hp.next_ ((n : Int) + 1)
  have cw1 : Chg (fun g => g = bp) w w1 := by rw [hw1]; exact Chg.setCell (S := fun g => g = bp) (p := ⟨bp, 11, none⟩) (Chg.refl _ w) (.inl rfl) _
  rw [← hw1] at p1
  have q8 : w1.drew.cell? ⟨bp, 8, none⟩ = some (.map (some b)) := p1.blk.cell 8
  have q9 : w1.drew.cell? ⟨bp, 9, none⟩ = some (I c) := by
    have := p1.blk.cell 9
    rw [show (w1.drew.cell? ⟨bp, 9, none⟩) = w1.cell? ⟨bp, 9, none⟩ from rfl, this]
    show some (I P.count) = _
    rw [hI.ecount]
  have q10 : w1.drew.cell? ⟨bp, 10, none⟩ = some (.slice A P.marks.length cp) := p1.blk.cell 10
  have q11 : w1.drew.cell? ⟨bp, 11, none⟩ = some (I ((n : Int) + 1)) := p1.blk.cell 11
  have HS : (fun u : World => u.cell? ⟨bp, 8, none⟩ = some (.map (some b)) ∧ u.cell? ⟨bp, 9, none⟩ = some (I c) ∧ u.cell? ⟨bp, 10, none⟩ = some (.slice A P.marks.length cp) ∧ u.cell? ⟨bp, 11, none⟩ = some (I ((n : Int) + 1))) w1.drew := ⟨q8, q9, q10, q11⟩
  have hblp : bl ≠ bp := fun e => by have := h.rl; rw [e, hp.r1] at this; cases this
  -- the clone, the row with one more mark, the store
  have CL : Hid (Calls Tryz.prog 81 #[.map (some b)] w1.drew fun e w' => e = .returned (.map (some w1.heap.size)) ∧ (w'.cell? ⟨bp, 8, none⟩ = some (.map (some b)) ∧ w'.cell? ⟨bp, 9, none⟩ = some (I c) ∧ w'.cell? ⟨bp, 10, none⟩ = some (.slice A P.marks.length cp) ∧ w'.cell? ⟨bp, 11, none⟩ = some (I ((n : Int) + 1))) ∧ w1.heap.size < w'.heap.size ∧ Hid (Chg Non w1 w' ∧ PgW w' (fun g => R g = 5) w1.heap.size own)) := by
    obtain ⟨b', e', hm', _⟩ := p1.ownMap (own := own) hI.eown
    injection e' with e'; injection e' with e'; subst e'
    refine (PgW.clone (w := w1.drew) hm').mono ?_
    rintro e w' ⟨rfl, k1, k2, k3⟩
    have k2' : Chg Non w1 w' := (Chg.refl Non w1).drew.tr k2
    have p2 := p1.chg k2' fun _ _ => id
    refine ⟨rfl, ⟨p2.blk.cell 8, ?_, p2.blk.cell 10, p2.blk.cell 11⟩, k3, k2', k1⟩
    have := p2.blk.cell 9
    rw [this]
    show some (I P.count) = _
    rw [hI.ecount]
  have hmbl : mb.length = P.marks.length := All2.length hp.marks
  have AP : Hid (∀ w5 : World, Chg Non w1 w5 → w1.heap.size < w5.heap.size → ∃ A' cp' w7, (∀ ty, (Builtin.append_ #[138, 138] ty #[.slice A P.marks.length cp, .slice (some ⟨w5.heap.size, 0, none⟩) 1 1]).run Tryz.prog (w5.alloc (Obj.cells #[I ((n : Int) + 1), .map (some w1.heap.size), I c] 150)) = .ok (.slice A' (P.marks.length + 1) cp') w7) ∧
      (w7.cell? ⟨bp, 8, none⟩ = some (.map (some b)) ∧ w7.cell? ⟨bp, 9, none⟩ = some (I c) ∧ w7.cell? ⟨bp, 10, none⟩ = some (.slice A P.marks.length cp) ∧ w7.cell? ⟨bp, 11, none⟩ = some (I ((n : Int) + 1))) ∧ w7.frozen? ⟨bp, 10, none⟩ = false ∧
      (PgW w5 (fun g => R g = 5) w1.heap.size own → PagerAt (w7.setCell ⟨bp, 10, none⟩ (.slice A' (P.marks.length + 1) cp')) bp bd bl (markP P own ((n : Int) + 1)) (roleMark R (.slice A' (P.marks.length + 1) cp') w1.heap.size) vwas (.map (some b)) (.slice A' (P.marks.length + 1) cp') (mb ++ [w1.heap.size])) ∧
      Chg (fun g => R g ≠ 0) w1 w7 ∧ ∀ g, (Value.slice A' (P.marks.length + 1) cp').ownBlock = some g → R g ≠ 0 ∨ w1.heap.size ≤ g) := by
    intro w5 CH5 sz5
    have c6 : Chg Non w1 (w5.alloc (Obj.cells #[I ((n : Int) + 1), .map (some w1.heap.size), I c] 150)) := CH5.alloc _
    have b6 : Blk (w5.alloc (Obj.cells #[I ((n : Int) + 1), .map (some w1.heap.size), I c] 150)) w5.heap.size 150 #[I ((n : Int) + 1), .map (some w1.heap.size), I c] := Blk.new _ _ _
    have z6 : (w5.alloc (Obj.cells #[I ((n : Int) + 1), .map (some w1.heap.size), I c] 150)).heap.size = w5.heap.size + 1 := Array.size_push _
    have a56 : ∀ {l : PgL} {m}, PgW w5 (fun g => R g = 5) m l → PgW (w5.alloc (Obj.cells #[I ((n : Int) + 1), .map (some w1.heap.size), I c] 150)) (fun g => R g = 5) m l := fun h => h.chg (S := Non) ((Chg.refl _ _).alloc _) (fun h => h) fun _ _ h => h
    generalize w5.alloc (Obj.cells #[I ((n : Int) + 1), .map (some w1.heap.size), I c] 150) = w6 at *
    have p6 := p1.chg c6 fun _ _ => id
    obtain ⟨i, hi, hz, hsize, hby⟩ := info_parts infoMark
    obtain ⟨v', w7, hr, k1, k2, _, k3⟩ : ∃ v' w7, (∀ ty, (Builtin.append_ #[138, 138] ty #[.slice A P.marks.length cp, .slice (some ⟨w5.heap.size, 0, none⟩) 1 1]).run Tryz.prog w6 = .ok v' w7) ∧ w7.ownsRow 0 150 3 v' (P.marks.length + 1) (markCells mb P.marks ++ [I ((n : Int) + 1), .map (some w1.heap.size), I c]) ∧ w6.grownBy w7 (Value.slice A P.marks.length cp).ownBlock ∧ True ∧ ((v'.ownBlock = (Value.slice A P.marks.length cp).ownBlock) ∨ v'.ownBlock = some w6.heap.size) := by
      have hle : P.marks.length + 1 ≤ 1000000 := hml
      have hc1 : ∀ j u, [I ((n : Int) + 1), .map (some w1.heap.size), I c][j]? = some u → w6.cell? ((⟨w5.heap.size, 0, none⟩ : Addr).add j) = some u := fun j u hj => by
        rw [addr_add, Nat.zero_add, b6.cell]
        simpa using hj
      have h1 : ∀ u ∈ [I ((n : Int) + 1), .map (some w1.heap.size), I c], u.oneCell' = true := by
        intro u hu
        simp only [List.mem_cons, List.not_mem_nil, or_false] at hu
        rcases hu with rfl | rfl | rfl <;> rfl
      have hap := fun ty => run_append_own_at (P := Tryz.prog) w6 0 138 ty 150 i (.agg #[.int .i64 0, .map none, .int .i64 0]) 3 24 Tryz.underlying138 hi hz hsize hby rfl (by omega) (.slice A P.marks.length cp) P.marks.length (markCells mb P.marks) p6.row ⟨w5.heap.size, 0, none⟩ 1 1 [I ((n : Int) + 1), .map (some w1.heap.size), I c] rfl hc1 h1 (by unfold maxLen; omega) (by omega) (Nat.zero_le _)
      obtain ⟨v', w7, hr, k1, k2, k3, k4⟩ := hap 138
      refine ⟨v', w7, fun ty => ?_, k1, k2, True.intro, k4⟩
      have : (Builtin.append_ #[138, 138] ty #[.slice A P.marks.length cp, .slice (some ⟨w5.heap.size, 0, none⟩) 1 1]) = (Builtin.append_ #[138, 138] 138 #[.slice A P.marks.length cp, .slice (some ⟨w5.heap.size, 0, none⟩) 1 1]) := rfl
      rw [this]; exact hr
    obtain ⟨A', cp', rfl, _⟩ := ownsRow_form k1
    have hvl : ∀ g, (Value.slice A' (P.marks.length + 1) cp').ownBlock = some g → g < w7.heap.size := fun g hg => (World.ownsRow.lt k1 g hg).2
    have c67 : Chg (fun g => (Value.slice A P.marks.length cp).ownBlock = some g) w6 w7 := Chg.grown (Chg.refl _ _) k2 fun g hg => .inl hg
    have c17 : Chg (fun g => (Value.slice A P.marks.length cp).ownBlock = some g) w1 w7 := (c6.mono fun _ h => h.elim).tr c67
    have hbpn : ¬ (Value.slice A P.marks.length cp).ownBlock = some bp := fun e => by have := p1.rr bp e; rw [p1.r1] at this; cases this
    refine ⟨A', cp', w7, hr, four c17 hbpn ⟨p1.blk.cell 8, ?_, p1.blk.cell 10, p1.blk.cell 11⟩, (p1.blk.chg c17 hbpn).frozen 10, fun hm5 => ?_, c17.mono fun g hg => .inl ?_, fun g hg => ?_⟩
    · rw [p1.blk.cell 9]
      show some (I P.count) = _
      rw [hI.ecount]
    · have hm7 : PgW w7 (fun g => R g = 5) w1.heap.size own := (a56 hm5).chg c67 (fun e => ?_) fun g hg e => ?_
      · refine p1.mark (.slice A' (P.marks.length + 1) cp') w1.heap.size ⟨(n : Int) + 1, own, P.count⟩ c17 hm7 (Nat.le_refl _) (Nat.lt_of_lt_of_le sz5 (by have := c67.size; omega)) ?_ (fun g hg => ?_) hvl
        · rw [markCells_snoc mb P.marks w1.heap.size ⟨(n : Int) + 1, own, P.count⟩ hmbl, hI.ecount]
          exact k1
        · rcases k3 with e | e
          · exact .inl (by rw [← e]; exact hg)
          · rw [e] at hg
            injection hg with hg
            exact .inr ⟨by omega, by omega⟩
      · have := p1.lt _ (by rw [p1.rr _ e]; decide)
        omega
      · rw [p1.rr g e] at hg; cases hg
    · rw [p1.rr g hg]; decide
    · rcases k3 with e | e
      · rw [e] at hg
        exact .inl (by rw [p1.rr g hg]; decide)
      · rw [e] at hg
        injection hg with hg
        exact .inr (by have := c6.size; omega)
  have rbp : R bp ≠ 0 := by rw [p1.r1]; decide
  have cs1 := cw1.size
  have FIN : Hid (∀ (w5 : World), Chg Non w1 w5 → ∀ (A' : Option Addr) (cp' : Nat) (w7 : World), PgW w5 (fun g => R g = 5) w1.heap.size own →
      (PgW w5 (fun g => R g = 5) w1.heap.size own → PagerAt (w7.setCell ⟨bp, 10, none⟩ (.slice A' (P.marks.length + 1) cp')) bp bd bl (markP P own ((n : Int) + 1)) (roleMark R (.slice A' (P.marks.length + 1) cp') w1.heap.size) vwas (.map (some b)) (.slice A' (P.marks.length + 1) cp') (mb ++ [w1.heap.size])) →
      Chg (fun g => R g ≠ 0) w1 w7 → (∀ g, (Value.slice A' (P.marks.length + 1) cp').ownBlock = some g → R g ≠ 0 ∨ w1.heap.size ≤ g) →
      BPost w bp bd bl G R (.tuple #[I ((n : Int) + 1), I 0]) M (markP P own ((n : Int) + 1)) Lk (.returned (.tuple #[I ((n : Int) + 1), I 0])) (w7.setCell ⟨bp, 10, none⟩ (.slice A' (P.marks.length + 1) cp'))) := by
    intro w5 _ A' cp' w7 m5 hpa c17 hvr
    have pa := hpa m5
    have cW : Chg (fun g => g = bp) w7 (w7.setCell ⟨bp, 10, none⟩ (.slice A' (P.marks.length + 1) cp')) := Chg.setCell (S := fun g => g = bp) (p := ⟨bp, 10, none⟩) (Chg.refl _ _) (.inl rfl) _
    generalize w7.setCell ⟨bp, 10, none⟩ (.slice A' (P.marks.length + 1) cp') = w8 at *
    have c8 : Chg (fun g => R g ≠ 0) w w8 := ((cw1.mono fun g hg => .inl (by rw [hg]; exact rbp)).tr c17).tr (cW.mono fun g hg => .inl (by rw [hg]; exact rbp))
    have hR' : ∀ g, roleMark R (.slice A' (P.marks.length + 1) cp') w1.heap.size g ≠ 0 → R g ≠ 0 ∨ w.heap.size ≤ g := fun g hg => by
      unfold roleMark at hg
      split at hg
      · next e => rcases hvr g e with e1 | e1
                  · exact .inl e1
                  · exact .inr (by omega)
      · split at hg
        · next e => exact .inr (by omega)
        · exact .inl hg
    refine ⟨G, roleMark R (.slice A' (P.marks.length + 1) cp') w1.heap.size, rfl, h.d.chg c8 fun g hg e => h.sep g e hg, ⟨_, _, _, _, pa⟩, h.l.chg c8 (fun e => e h.rl), c8.mono fun g hg => .inl (.inr (.inl hg)), fun g hg => .inl hg, hR', fun g hg hG => ?_, ?_, h.gl⟩
    · rcases hR' g hg with e | e
      · exact h.sep g e hG
      · have := h.d.olt g hG; omega
    · by_cases e : roleMark R (.slice A' (P.marks.length + 1) cp') w1.heap.size bl = 0
      · exact e
      · rcases hR' bl e with e | e
        · exact absurd h.rl e
        · have := h.l.lt; omega
  generalize hN : P.marks.length = N at *
  have HN := Lib.hid hN
  have HW := Lib.hid hw1
  clear hw1 q8 q9 q10 q11 hN
  go_enter Tryz.func35, Tryz.ntmps35
  go_wp2_with (first | (go_at_call 72; refine AS.out.mono ?_; rintro e w' ⟨rfl, hw'⟩; have hw2 := hw'.symm; subst hw2))
  rw [← HW.out]
  refine wp_region_L (fun u : World => u.cell? ⟨bp, 8, none⟩ = some (.map (some b)) ∧ u.cell? ⟨bp, 9, none⟩ = some (I c) ∧ u.cell? ⟨bp, 10, none⟩ = some (.slice A N cp) ∧ u.cell? ⟨bp, 11, none⟩ = some (I ((n : Int) + 1))) 23 (by kernel_rfl) ?_
  rename_i K9 hK9
  refine wpAnyL_take (i := 0) (v := ?_) rfl (by kernel_rfl) (by kernel_rfl) (by kernel_rfl) (by kernel_rfl) (fun _ _ _ h => h) (Or.inl ⟨by rfl, ?_⟩) HS ?_
  rotate_left
  · (intro u hu; (try dsimp only at hu); obtain ⟨u8, u9, u10, u11⟩ := hu; go_simp) <;> with_reducible rfl
  (try simp only [Act.put])
  refine wpAnyL_take (i := 1) (v := ?_) rfl (by kernel_rfl) (by kernel_rfl) (by kernel_rfl) (by kernel_rfl) (fun _ _ _ h => h) (Or.inl ⟨by rfl, ?_⟩) HS ?_
  rotate_left
  · (intro u hu; (try dsimp only at hu); obtain ⟨u8, u9, u10, u11⟩ := hu; go_simp) <;> with_reducible rfl
  (try simp only [Act.put])
  refine wpAnyL_take (i := 2) (v := ?_) rfl (by kernel_rfl) (by kernel_rfl) (by kernel_rfl) (by kernel_rfl) (fun _ _ _ h => h) (Or.inl ⟨by rfl, ?_⟩) HS ?_
  rotate_left
  · (intro u hu; (try dsimp only at hu); obtain ⟨u8, u9, u10, u11⟩ := hu; go_simp) <;> with_reducible rfl
  (try simp only [Act.put])
  refine wpAnyL_take (i := 3) (v := ?_) rfl (by kernel_rfl) (by kernel_rfl) (by kernel_rfl) (by kernel_rfl) (fun _ _ _ h => h) (Or.inl ⟨by rfl, ?_⟩) HS ?_
  rotate_left
  · (intro u hu; (try dsimp only at hu); obtain ⟨u8, u9, u10, u11⟩ := hu; go_simp) <;> with_reducible rfl
  (try simp only [Act.put])
  refine wpAnyL_take (i := 4) (v := ?_) rfl (by kernel_rfl) (by kernel_rfl) (by kernel_rfl) (by kernel_rfl) (fun _ _ _ h => h) (Or.inl ⟨by rfl, ?_⟩) HS ?_
  rotate_left
  · (intro u hu; (try dsimp only at hu); obtain ⟨u8, u9, u10, u11⟩ := hu; go_simp) <;> with_reducible rfl
  (try simp only [Act.put])
  refine wpAnyL_take (i := 5) (v := ?_) rfl (by kernel_rfl) (by kernel_rfl) (by kernel_rfl) (by kernel_rfl) (fun _ _ _ h => h) (Or.inl ⟨by rfl, ?_⟩) HS ?_
  rotate_left
  · (intro u hu; (try dsimp only at hu); obtain ⟨u8, u9, u10, u11⟩ := hu; go_simp) <;> with_reducible rfl
  (try simp only [Act.put])
  refine wpAnyL_take (i := 6) (v := ?_) rfl (by kernel_rfl) (by kernel_rfl) (by kernel_rfl) (by kernel_rfl) (fun _ _ _ h => h) (Or.inl ⟨by rfl, ?_⟩) HS ?_
  rotate_left
  · (intro u hu; (try dsimp only at hu); obtain ⟨u8, u9, u10, u11⟩ := hu; go_simp) <;> with_reducible rfl
  (try simp only [Act.put])
  refine wpAnyL_take (i := 7) (v := ?_) rfl (by kernel_rfl) (by kernel_rfl) (by kernel_rfl) (by kernel_rfl) (fun _ _ _ h => h) (Or.inl ⟨by rfl, ?_⟩) HS ?_
  rotate_left
  · (intro u hu; (try dsimp only at hu); obtain ⟨u8, u9, u10, u11⟩ := hu; go_simp) <;> with_reducible rfl
  (try simp only [Act.put])
  refine wpAnyL_take (i := 8) (v := ?_) rfl (by kernel_rfl) (by kernel_rfl) (by kernel_rfl) (by kernel_rfl) (fun _ _ _ h => h) (Or.inl ⟨by rfl, ?_⟩) HS ?_
  rotate_left
  · (intro u hu; (try dsimp only at hu); obtain ⟨u8, u9, u10, u11⟩ := hu; go_simp) <;> with_reducible rfl
  (try simp only [Act.put])
  refine wpAnyL_take (i := 9) (v := ?_) rfl (by kernel_rfl) (by kernel_rfl) (by kernel_rfl) (by kernel_rfl) (fun _ _ _ h => h) (Or.inl ⟨by rfl, ?_⟩) HS ?_
  rotate_left
  · (intro u hu; (try dsimp only at hu); obtain ⟨u8, u9, u10, u11⟩ := hu; go_simp) <;> with_reducible rfl
  (try simp only [Act.put])
  refine wpAnyL_take (i := 10) (v := ?_) rfl (by kernel_rfl) (by kernel_rfl) (by kernel_rfl) (by kernel_rfl) (fun _ _ _ h => h) (Or.inl ⟨by rfl, ?_⟩) HS ?_
  rotate_left
  · (intro u hu; (try dsimp only at hu); obtain ⟨u8, u9, u10, u11⟩ := hu; go_simp) <;> with_reducible rfl
  (try simp only [Act.put])
  refine wpAnyL_take (i := 11) (v := ?_) rfl (by kernel_rfl) (by kernel_rfl) (by kernel_rfl) (by kernel_rfl) (fun _ _ _ h => h) (Or.inl ⟨by rfl, ?_⟩) HS ?_
  rotate_left
  · (intro u hu; (try dsimp only at hu); obtain ⟨u8, u9, u10, u11⟩ := hu; go_simp) <;> with_reducible rfl
  (try simp only [Act.put])
  refine wpAnyL_take (i := 12) (v := ?_) rfl (by kernel_rfl) (by kernel_rfl) (by kernel_rfl) (by kernel_rfl) (fun _ _ _ h => h) (Or.inl ⟨by rfl, ?_⟩) HS ?_
  rotate_left
  · (intro u hu; (try dsimp only at hu); obtain ⟨u8, u9, u10, u11⟩ := hu; go_simp) <;> with_reducible rfl
  (try simp only [Act.put])
  refine wpAnyL_take (i := 14) (v := ?_) rfl (by kernel_rfl) (by kernel_rfl) (by kernel_rfl) (by kernel_rfl) (fun _ _ _ h => h) (Or.inl ⟨by rfl, ?_⟩) HS ?_
  rotate_left
  · (intro u hu; (try dsimp only at hu); obtain ⟨u8, u9, u10, u11⟩ := hu; go_simp) <;> with_reducible rfl
  (try simp only [Act.put])
  refine wpAnyL_take (i := 15) (v := ?_) rfl (by kernel_rfl) (by kernel_rfl) (by kernel_rfl) (by kernel_rfl) (fun _ _ _ h => h) (Or.inl ⟨by rfl, ?_⟩) HS ?_
  rotate_left
  · (intro u hu; (try dsimp only at hu); obtain ⟨u8, u9, u10, u11⟩ := hu; go_simp) <;> with_reducible rfl
  (try simp only [Act.put])
  refine wpAnyL_take (i := 16) (v := ?_) rfl (by kernel_rfl) (by kernel_rfl) (by kernel_rfl) (by kernel_rfl) (fun _ _ _ h => h) (Or.inl ⟨by rfl, ?_⟩) HS ?_
  rotate_left
  · (intro u hu; (try dsimp only at hu); obtain ⟨u8, u9, u10, u11⟩ := hu; go_simp) <;> with_reducible rfl
  (try simp only [Act.put])
  refine wpAnyL_take (i := 17) (v := ?_) rfl (by kernel_rfl) (by kernel_rfl) (by kernel_rfl) (by kernel_rfl) (fun _ _ _ h => h) (Or.inl ⟨by rfl, ?_⟩) HS ?_
  rotate_left
  · (intro u hu; (try dsimp only at hu); obtain ⟨u8, u9, u10, u11⟩ := hu; go_simp) <;> with_reducible rfl
  (try simp only [Act.put])
  refine wpAnyL_one (i := 13) (by kernel_rfl) rfl rfl (fun K hK => ?_)
  go_simp
  refine CL.out.mono ?_
  rintro e w5 ⟨rfl, h5, sz5, st5⟩
  have HS5 := h5
  refine hK _ _ (.inr HS5) ?_
  clear hK K
  (try simp only [Act.put, List.setIfInBounds_toArray, List.set_cons_zero, List.set_cons_succ])
  refine wpAnyL_take (i := 18) (v := ?_) rfl (by kernel_rfl) (by kernel_rfl) (by kernel_rfl) (by kernel_rfl) (fun _ _ _ h => h) (Or.inl ⟨by rfl, ?_⟩) HS5 ?_
  rotate_left
  · (intro u hu; (try dsimp only at hu); obtain ⟨u8, u9, u10, u11⟩ := hu; go_simp) <;> with_reducible rfl
  (try simp only [Act.put])
  have CH5 := st5.out.1
  have MC5 := Lib.hid st5.out.2
  clear st5
  have g6 := four (CH5.tr ((Chg.refl Non w5).alloc (Obj.cells #[I ((n : Int) + 1), .map (some w1.heap.size), I c] 150))) (fun h => h) HS
  obtain ⟨A', cp', w7, hrun, AP7⟩ := AP.out w5 CH5 sz5
  have AP7 := Lib.hid AP7
  have s7 := AP7.out.1
  have f7 := AP7.out.2.1
  refine wpAnyL_one (i := 19) (by kernel_rfl) rfl rfl (fun K hK => ?_)
  go_simp
  refine hK _ _ (.inr g6) ?_
  clear hK K
  (try simp only [Act.put, List.setIfInBounds_toArray, List.set_cons_zero, List.set_cons_succ])
  refine wpAnyL_one (i := 20) (by kernel_rfl) rfl rfl (fun K hK => ?_)
  refine Lib.wp_append_run _ (.tmp 21) (.tmp 36) 138 138 rfl _ _ rfl rfl (.slice A' (N + 1) cp') w7 (hrun _) ?_
  refine hK _ _ (.inr s7) ?_
  clear hK K hrun
  (try simp only [Act.put, List.setIfInBounds_toArray])
  refine wpAnyL_one (i := 21) (by kernel_rfl) rfl rfl (fun K hK => ?_)
  go_simp
  refine hK _ _ (.inr s7) ?_
  clear hK K
  (try simp only [Act.put, List.setIfInBounds_toArray, List.set_cons_zero, List.set_cons_succ])
  refine wpAnyL_one (i := 22) (by kernel_rfl) rfl rfl (fun K hK => ?_)
  go_simp
  refine hK _ _ (.inr s7) ?_
  clear hK K
  (try simp only [Act.put, List.setIfInBounds_toArray, List.set_cons_zero, List.set_cons_succ])
  have s70 := s7.2.2.1
  have s71 := s7.2.2.2
  refine wpAnyL_one (i := 23) (by kernel_rfl) rfl rfl (fun K hK => ?_)
  go_simp
  refine hK _ _ (.inl rfl) ?_
  clear hK K
  refine wpAnyL_done (by kernel_rfl) ?_ _
  refine hK9 _ _ ?_
  clear hK9 K9
  go_wp2_with fail
  go_ret2
  exact FIN.out w5 CH5 A' cp' w7 MC5.out AP7.out.2.2.1 AP7.out.2.2.2.1 AP7.out.2.2.2.2
end Go.Proofs.YtamhjjagjjdmoaaGreat
end

section
namespace Go.Proofs
open Go.Shelf
def Tryz.indexM_ren : Go.Shelf.Ren := ⟨fun | 6 => 79 | n => n, fun | 22 => 138 | 23 => 150 | 25 => 151 | 3 => 3 | 0 => 0 | 4 => 4 | n => n, fun | n => n⟩
theorem Tryz.indexM : Go.Proofs.SlLaysH0.n6 Tryz.prog Tryz.indexM_ren := {
  mixed := by kernel_rfl
  f6 := ⟨Tryz.f79.name, by decide, Tryz.func79.trans (congrArg some (by kernel_rfl))⟩
  t0 := Tryz.underlying0
  a0 := Tryz.isAgg0
  z0 := Tryz.sizeOf0
  v0 := Tryz.zeroValue0
  t3 := Tryz.underlying3
  a3 := Tryz.isAgg3
  z3 := Tryz.sizeOf3
  v3 := Tryz.zeroValue3
  t4 := Tryz.underlying4
  a4 := Tryz.isAgg4
  z4 := Tryz.sizeOf4
  v4 := Tryz.zeroValue4
  t22 := Tryz.underlying138
  a22 := Tryz.isAgg138
  z22 := Tryz.sizeOf138
  v22 := Tryz.zeroValue138
  t25 := Tryz.underlying151
  a25 := Tryz.isAgg151
  z25 := Tryz.sizeOf151
  v25 := Tryz.zeroValue151 }
end Go.Proofs
end

section
namespace Go.Proofs.YtamhjjagjjdmoaaGreat
open Go.RowKit Go.Maps Go.Shelf Go.Sort

/-- the cells of a mark -/
def encMark (x : Int × Nat × Int) : List Value := [I x.1, .map (some x.2.1), I x.2.2]
/-- the closure of Back -/
theorem pred_mark (m : Int) (B : Nat) (w : World) (hB : B < w.heap.size) (hcell : w.cell? ⟨B, 0, none⟩ = some (I m)) :
    PredBelow Tryz.prog 80 #[.pointer (some ⟨B, 0, none⟩)] (fun x => .agg (encMark x).toArray) (fun x => decide (x.1 = m)) w := fun W x hb => by
  have hc : W.cell? ⟨B, 0, none⟩ = some (I m) := (hb.cell (p := ⟨B, 0, none⟩) hB).trans hcell
  have hBW : B < W.heap.size := Nat.lt_of_lt_of_le hB hb.size
  have hne : B ≠ W.heap.size := by omega
  show Calls Tryz.prog 80 #[.agg #[I x.1, .map (some x.2.1), I x.2.2], .pointer (some ⟨B, 0, none⟩)] W _
  go_enter Tryz.func80, Tryz.ntmps80
  go_wp2
  all_goals (go_ret; exact ⟨(by simp_all; try rfl), hb.alloc hb.size _⟩)
/-- the marks with their maps' blocks -/
def zipM : List Nat → List MarkM → List (Int × Nat × Int)
  | b :: bs, m :: ms => (m.n, b, m.count) :: zipM bs ms
  | _, _ => []
theorem zipM_length : ∀ (bs : List Nat) (ms : List MarkM), bs.length = ms.length → (zipM bs ms).length = ms.length
  | [], [], _ => rfl
  | _ :: bs, _ :: ms, h => by simp [zipM, zipM_length bs ms (by simpa using h)]
theorem zipM_cells : ∀ (bs : List Nat) (ms : List MarkM), bs.length = ms.length → markCells bs ms = (zipM bs ms).flatMap encMark
  | [], [], _ => rfl
  | b :: bs, m :: ms, h => by simp [zipM, markCells, encMark, zipM_cells bs ms (by simpa using h)]
theorem flat3 : ∀ (zs : List (Int × Nat × Int)) (j i : Nat) (v : Value), j < zs.length → (encMark zs[j]!)[i]? = some v → (zs.flatMap encMark)[j * 3 + i]? = some v
  | [], j, _, _, h, _ => by simp at h
  | z :: zs, 0, i, v, _, h => by
    have h : (encMark z)[i]? = some v := by simpa using h
    have hi : i < 3 := by
      have := (List.getElem?_eq_some_iff.1 h).1
      simpa [encMark] using this
    rw [List.flatMap_cons, List.getElem?_append_left (by simp [encMark]; omega)]
    simpa using h
  | z :: zs, j + 1, i, v, hj, h => by
    rw [List.flatMap_cons, List.getElem?_append_right (by simp [encMark]; omega)]
    have h : (encMark zs[j]!)[i]? = some v := by simpa using h
    have := flat3 zs j i v (by simpa using hj) h
    rw [show (j + 1) * 3 + i - (encMark z).length = j * 3 + i by simp [encMark]; omega]
    exact this
/-- the place of the first mark of a number, or -1 -/
def markAt (ms : List MarkM) (m : Int) : Int := Lib.idxBy (fun _ (y : MarkM) => decide (y.n = m)) ms ⟨0, [], 0⟩

theorem indexM_any (w : World) (v : Value) (mb : List Nat) (ms : List MarkM) (row : w.ownsRow 0 150 3 v ms.length (markCells mb ms)) (hl : mb.length = ms.length) (hbig : ms.length ≤ 9223372036854775807) (h0 : 0 < ms.length) (m : Int) (B : Nat) (hB : B < w.heap.size) (hcell : w.cell? ⟨B, 0, none⟩ = some (I m)) :
    Calls Tryz.prog 79 #[v, .func (.func 80) #[] #[.pointer (some ⟨B, 0, none⟩)]] w fun e w' => e = .returned (I (Lib.idxBy (fun _ (y : Int × Nat × Int) => decide (y.1 = m)) (zipM mb ms) default)) ∧ Below w.heap.size w w' := by
  have eg : ∀ args w, (callFunc 80 args).run Tryz.prog w = .ok (.enter 80 args) w := enters_of Tryz.func80 (by kernel_rfl) rfl
  rcases row.2 with ⟨_, h⟩ | ⟨g, cap, cur, rfl, _, hg, hn, hc, hs, ht⟩
  · omega
  · have hcells : ∀ j, j < (zipM mb ms).length → ∀ i v, (encMark (zipM mb ms)[j]!)[i]? = some v → w.cell? ⟨g, 0 + j * 3 + i, none⟩ = some v := fun j hj i v hi => by
      have h1 := flat3 _ j i v hj hi
      rw [← zipM_cells mb ms hl, ← ht] at h1
      rw [cell_of_row w g _ cur _ _ hg, Nat.zero_add]
      rw [List.getElem?_take] at h1
      split at h1
      · simpa using h1
      · cases h1
    have := AnyQ.slices_IndexFunc Tryz.indexM 3 Tryz.isAgg150 Tryz.sizeOf150 encMark (fun _ => rfl) (fun x => decide (x.1 = m)) 80 #[.pointer (some ⟨B, 0, none⟩)] eg g 0 ms.length cap (zipM mb ms) w
      (pred_mark m B w hB hcell) (by rw [zipM_length mb ms hl]; exact Nat.le_refl _) hbig (by exact (Array.getElem?_eq_some_iff.1 hg).1) hcells
    rw [List.take_of_length_le (by rw [zipM_length mb ms hl]; exact Nat.le_refl _)] at this
    exact this
theorem All2.split {α β : Type} {R : α → β → Prop} : ∀ {a : List α} (p : List β) (x : β) (q : List β), All2 R a (p ++ x :: q) → ∃ a1 y a2, a = a1 ++ y :: a2 ∧ All2 R a1 p ∧ R y x ∧ All2 R a2 q
  | [], [], _, _, h => h.elim
  | y :: a, [], _, _, h => ⟨[], y, a, rfl, True.intro, h.1, h.2⟩
  | [], _ :: _, _, _, h => h.elim
  | y :: a, _ :: p, x, q, h => by
    obtain ⟨a1, z, a2, rfl, h1, h2, h3⟩ := All2.split p x q h.2
    exact ⟨y :: a1, z, a2, rfl, ⟨h.1, h1⟩, h2, h3⟩
theorem zipM_append : ∀ (a1 : List Nat) (p : List MarkM) (a2 : List Nat) (q : List MarkM), a1.length = p.length → zipM (a1 ++ a2) (p ++ q) = zipM a1 p ++ zipM a2 q
  | [], [], _, _, _ => rfl
  | b :: a1, m :: p, a2, q, h => by simp [zipM, zipM_append a1 p a2 q (by simpa using h)]
theorem markCells_append : ∀ (a1 : List Nat) (p : List MarkM) (a2 : List Nat) (q : List MarkM), a1.length = p.length → markCells (a1 ++ a2) (p ++ q) = markCells a1 p ++ markCells a2 q
  | [], [], _, _, _ => rfl
  | b :: a1, m :: p, a2, q, h => by simp [markCells, markCells_append a1 p a2 q (by simpa using h)]
theorem markCells_length : ∀ (a1 : List Nat) (p : List MarkM), a1.length = p.length → (markCells a1 p).length = p.length * 3
  | [], [], _ => rfl
  | b :: a1, m :: p, h => by simp [markCells, markCells_length a1 p (by simpa using h)]; omega
theorem idx_pre (m : Int) (bk : Nat) (c : Int) (rest : List (Int × Nat × Int)) : ∀ (pre : List MarkM) (mb1 : List Nat) (i : Nat), mb1.length = pre.length → (∀ x ∈ pre, x.n ≠ m) →
    Lib.idxByFrom (fun _ (y : Int × Nat × Int) => decide (y.1 = m)) default (zipM mb1 pre ++ (m, bk, c) :: rest) i = ((i + pre.length : Nat) : Int)
  | [], [], i, _, _ => by simp [zipM, Lib.idxByFrom]
  | x :: pre, b :: mb1, i, hl, hx => by
    have h1 := idx_pre m bk c rest pre mb1 (i + 1) (by simpa using hl) fun y hy => hx y (List.mem_cons_of_mem _ hy)
    have h2 : ¬ x.n = m := hx x List.mem_cons_self
    simp only [zipM, List.cons_append, Lib.idxByFrom, decide_eq_false h2, h1, List.length_cons]
    simp; omega
theorem idx_none (m : Int) : ∀ (ms : List MarkM) (mb : List Nat) (i : Nat), (∀ x ∈ ms, x.n ≠ m) → Lib.idxByFrom (fun _ (y : Int × Nat × Int) => decide (y.1 = m)) default (zipM mb ms) i = -1
  | [], [], _, _ => rfl
  | [], _ :: _, _, _ => rfl
  | _ :: _, [], _, _ => rfl
  | x :: ms, b :: mb, i, hx => by
    have h2 : ¬ x.n = m := hx x List.mem_cons_self
    simp only [zipM, Lib.idxByFrom, decide_eq_false h2, idx_none m ms mb (i + 1) fun y hy => hx y (List.mem_cons_of_mem _ hy)]
    simp

section
variable {w : World} {bp bd bl : Nat} {P : PagerM} {R : Nat → Nat} {vwas vown vmarks : Value} {mb : List Nat}
/-- the row of marks cut behind one -/
theorem PagerAt.cut {g n cp bk : Nat} {mb1 mb2 : List Nat} {pre post : List MarkM} {mk : MarkM} (h : PagerAt w bp bd bl P R vwas vown (.slice (some ⟨g, 0, none⟩) n cp) (mb1 ++ bk :: mb2)) (hms : P.marks = pre ++ mk :: post) (hl : mb1.length = pre.length) :
    PagerAt (w.setCell ⟨bp, 10, none⟩ (.slice (some ⟨g, 0, none⟩) (pre.length + 1) cp)) bp bd bl { P with marks := pre ++ [mk] } R vwas vown (.slice (some ⟨g, 0, none⟩) (pre.length + 1) cp) (mb1 ++ [bk]) := by
  have cW : Chg (fun g => g = bp) w (w.setCell ⟨bp, 10, none⟩ (.slice (some ⟨g, 0, none⟩) (pre.length + 1) cp)) := Chg.setCell (S := fun g => g = bp) (p := ⟨bp, 10, none⟩) (Chg.refl _ _) (.inl rfl) _
  have hb := h.blk.set_ 10 (.slice (some ⟨g, 0, none⟩) (pre.length + 1) cp)
  have hrow := h.row
  have hmm := h.marks
  rw [hms] at hrow hmm
  have hrr := h.rr
  generalize w.setCell ⟨bp, 10, none⟩ (.slice (some ⟨g, 0, none⟩) (pre.length + 1) cp) = w8 at *
  have ne : ∀ b r, R b = r → r ≠ 1 → ¬ b = bp := fun b r hb h1 e => by rw [e, h.r1] at hb; exact h1 hb.symm
  refine ⟨by simpa using hb, h.r1, h.was.chg cW fun g hg => ne g 5 (h.rw_ g hg) (by decide), h.rw_, ?_, ?_, hrr, ?_, fun b hb => Nat.lt_of_lt_of_le (h.lt b hb) cW.size⟩
  · rcases h.own with e | ⟨b, l, e1, e2, e3, e4⟩
    · exact .inl e
    · exact .inr ⟨b, l, e1, e2, e3.chg cW (ne b 2 e4 (by decide)) fun g hg => ne g 5 hg (by decide), e4⟩
  · have hg3 : ¬ g = bp := ne g 3 (hrr g rfl) (by decide)
    have hgl := h.lt g (by rw [hrr g rfl]; decide)
    have hl1 : (mb1 ++ [bk]).length = (pre ++ [mk]).length := by simp [hl]
    have hll : (pre ++ [mk]).length = pre.length + 1 := by simp
    show w8.ownsRow 0 150 3 (.slice (some ⟨g, 0, none⟩) (pre.length + 1) cp) (pre ++ [mk]).length _
    rw [hll]
    refine ⟨by rw [markCells_length _ _ hl1, hll], .inr ?_⟩
    rcases hrow.2 with ⟨e, _⟩ | ⟨g', cap, cur, e, h1, h2, h3, h4, h5, h6⟩
    · cases e
    · injection e with e1 e2 e3
      injection e1 with e1; injection e1 with e1
      subst e1; subst e3
      refine ⟨g, cp, cur, rfl, h1, ?_, ?_, h4, h5, ?_⟩
      · rw [cW.block g hgl hg3]; exact h2
      · simp at h3; omega
      · have h7 : (cur.toList.take ((pre ++ mk :: post).length * 3)).take ((pre.length + 1) * 3) = cur.toList.take ((pre.length + 1) * 3) := by
          rw [List.take_take]; congr 1; simp
        rw [← h7, h6]
        have h8 : markCells (mb1 ++ bk :: mb2) (pre ++ mk :: post) = markCells (mb1 ++ [bk]) (pre ++ [mk]) ++ markCells mb2 post := by
          rw [← markCells_append _ _ _ _ hl1]; simp
        rw [h8]
        exact List.take_left' (by rw [markCells_length _ _ hl1, hll])
  · have h9 := All2.split pre mk post hmm
    obtain ⟨a1, y, a2, e, q1, q2, q3⟩ := h9
    have hla : a1.length = mb1.length := by rw [hl]; exact All2.length q1
    obtain ⟨rfl, e2⟩ := List.append_inj e hla.symm
    injection e2 with e2 e3
    subst e2
    exact All2.snoc (All2.imp' q1 fun b m hbm => ⟨hbm.1.chg cW (ne b 4 hbm.2 (by decide)) fun g hg => ne g 5 hg (by decide), hbm.2⟩) ⟨q2.1.chg cW (ne _ 4 q2.2 (by decide)) fun g hg => ne g 5 hg (by decide), q2.2⟩
/-- other own pages -/
theorem PagerAt.own_ (h : PagerAt w bp bd bl P R vwas vown vmarks mb) (bc : Nat) (l : PgL) (hm : PgW w (fun g => R g = 5) bc l) (hbc : R bc = 0) (hlt : bc < w.heap.size) :
    PagerAt (w.setCell ⟨bp, 8, none⟩ (.map (some bc))) bp bd bl { P with own := some l } (fun g => if g = bc then 2 else R g) vwas (.map (some bc)) vmarks mb := by
  have cW : Chg (fun g => g = bp) w (w.setCell ⟨bp, 8, none⟩ (.map (some bc))) := Chg.setCell (S := fun g => g = bp) (p := ⟨bp, 8, none⟩) (Chg.refl _ _) (.inl rfl) _
  have hb := h.blk.set_ 8 (.map (some bc))
  generalize w.setCell ⟨bp, 8, none⟩ (.map (some bc)) = w8 at *
  have ne : ∀ b r, R b = r → r ≠ 1 → ¬ b = bp := fun b r hb h1 e => by rw [e, h.r1] at hb; exact h1 hb.symm
  have keep : ∀ g r, R g = r → r ≠ 0 → (if g = bc then 2 else R g) = r := fun g r hg h0 => by
    rw [if_neg (fun e => h0 (by rw [← hg, e, hbc]))]; exact hg
  have hbcp : ¬ bc = bp := fun e => by rw [e, h.r1] at hbc; cases hbc
  refine ⟨by simpa using hb, keep bp 1 h.r1 (by decide), h.was.chg cW fun g hg => ne g 5 (h.rw_ g hg) (by decide), fun g hg => keep g 5 (h.rw_ g hg) (by decide), .inr ⟨bc, l, rfl, rfl, (hm.chg cW hbcp fun g hg => ne g 5 hg (by decide)).mono fun g hg => keep g 5 hg (by decide), if_pos rfl⟩, ?_, fun g hg => keep g 3 (h.rr g hg) (by decide), ?_, fun b hb => ?_⟩
  · exact World.ownsRow.keep_ h.row fun g hg => cW.block g (h.lt g (by rw [h.rr g hg]; decide)) (ne g 3 (h.rr g hg) (by decide))
  · exact All2.imp' h.marks fun b m hbm => ⟨(hbm.1.chg cW (ne b 4 hbm.2 (by decide)) fun g hg => ne g 5 hg (by decide)).mono fun g hg => keep g 5 hg (by decide), keep b 4 hbm.2 (by decide)⟩
  · by_cases e : b = bc
    · rw [e]; exact Nat.lt_of_lt_of_le hlt cW.size
    · rw [if_neg e] at hb; exact Nat.lt_of_lt_of_le (h.lt b hb) cW.size
end
def backP (P : PagerM) (pre : List MarkM) (mk : MarkM) : PagerM := { P with own := some mk.own, count := mk.count, marks := pre ++ [mk] }

/-- what IndexFunc finds -/
theorem index_any (w : World) (bp bd bl : Nat) (P : PagerM) (R : Nat → Nat) {vwas vown vmarks : Value} {mb : List Nat} (hp : PagerAt w bp bd bl P R vwas vown vmarks mb) (hml : P.marks.length < 1000000) (m : Int) (B : Nat) (hB : B < w.heap.size) (hcell : w.cell? ⟨B, 0, none⟩ = some (I m)) :
    ∃ r : Int, ((∀ x ∈ P.marks, x.n ≠ m) → r = -1) ∧ (∀ pre mk post, P.marks = pre ++ mk :: post → (∀ x ∈ pre, x.n ≠ m) → mk.n = m → r = (pre.length : Nat)) ∧
    Calls Tryz.prog 79 #[vmarks, .func (.func 80) #[] #[.pointer (some ⟨B, 0, none⟩)]] w fun e w' => e = .returned (I r) ∧ Chg Non w w' := by
  by_cases h0 : P.marks = []
  · refine ⟨-1, fun _ => rfl, fun pre mk post e => by rw [h0] at e; exact absurd e (by simp), ?_⟩
    have hr := hp.row
    rw [h0] at hr
    obtain ⟨A, c, e, _⟩ := ownsRow_form hr
    rw [e]
    refine (indexFunc_nil _ _ _ _).mono ?_
    rintro e w' ⟨rfl, rfl⟩
    exact ⟨rfl, Chg.refl _ _⟩
  · have hl : mb.length = P.marks.length := All2.length hp.marks
    have h1 : 0 < P.marks.length := by
      cases e : P.marks with
      | nil => exact absurd e h0
      | cons _ _ => simp
    refine ⟨_, fun hno => idx_none m P.marks mb 0 hno, fun pre mk post hms hpre hmk => ?_, (indexM_any w vmarks mb P.marks hp.row hl (by omega) h1 m B hB hcell).mono ?_⟩
    · have hmm := hp.marks
      rw [hms] at hmm
      obtain ⟨mb1, bk, mb2, rfl, q1, _, _⟩ := All2.split pre mk post hmm
      have hl1 : mb1.length = pre.length := All2.length q1
      rw [hms, zipM_append mb1 pre _ _ hl1]
      show Lib.idxByFrom _ default (zipM mb1 pre ++ (mk.n, bk, mk.count) :: zipM mb2 post) 0 = _
      rw [hmk, idx_pre m bk mk.count (zipM mb2 post) pre mb1 0 hl1 hpre, Nat.zero_add]
    · rintro e w' ⟨rfl, hb⟩
      exact ⟨rfl, Chg.of_below hb⟩

set_option maxHeartbeats 1000000 in
set_option maxRecDepth 100000 in
/-- no mark of the number -/
theorem back_miss (w : World) (bp bd bl : Nat) (P : PagerM) (R : Nat → Nat) (hp : PagerW w bp bd bl P R) (ha : askM P = 0) (hml : P.marks.length < 1000000) (m : Int) (hno : ∀ x ∈ P.marks, x.n ≠ m) :
    Calls Tryz.prog 34 #[ptr bp, I m] w fun e w' => e = .returned (I 1) ∧ Chg Non w w' := by
  obtain ⟨vwas, vown, vmarks, mb, hp⟩ := hp
  obtain ⟨W, hW⟩ : ∃ W, W = w.alloc (.cells #[I m] 3) := ⟨_, rfl⟩
  have cW : Chg Non w W := by rw [hW]; exact (Chg.refl _ w).alloc _
  have hB : Blk W w.heap.size 3 #[I m] := by rw [hW]; exact Blk.new _ _ _
  have pW := hp.chg cW fun _ _ => id
  have AS : Calls Tryz.prog 72 #[ptr bp] W fun e w' => e = .returned (I 0) ∧ w' = W := by
    have := ask_any W bp bd bl P R ⟨_, _, _, _, pW⟩
    rw [ha] at this; exact this
  have c10 : W.cell? ⟨bp, 10, none⟩ = some vmarks := pW.blk.cell 10
  have IX : Hid (Calls Tryz.prog 79 #[vmarks, .func (.func 80) #[] #[.pointer (some ⟨w.heap.size, 0, none⟩)]] W fun e w' => e = .returned (I (-1)) ∧ Hid (Chg Non w w')) := by
    obtain ⟨r, h1, _, h2⟩ := index_any W bp bd bl P R pW hml m w.heap.size hB.lt (hB.cell 0)
    have hr := h1 hno
    rw [hr] at h2
    refine h2.mono ?_
    rintro e w' ⟨rfl, k⟩
    exact ⟨rfl, cW.tr k⟩
  have AS := Lib.hid AS
  rw [hW] at AS c10 IX
  clear hp ha hml hno hW cW hB pW
  go_enter Tryz.func34, Tryz.ntmps34
  go_wp2_with (first | (go_at_call 72; refine AS.out.mono ?_; rintro e w' ⟨rfl, hw'⟩; have hw2 := hw'.symm; subst hw2) | (go_at_call 79; refine IX.out.mono ?_; rintro e w' ⟨rfl, FIN⟩))
  go_ret
  exact ⟨rfl, FIN.out⟩

theorem keep3 {u : World} {bp g k : Nat} {x y z : Value} (hgp : ¬ g = bp) (i : Nat) (hi : i ≠ 10) (v : Value) (h : u.cell? ⟨bp, 10, none⟩ = some x ∧ u.cell? ⟨g, k * 3 + 1, none⟩ = some y ∧ u.cell? ⟨g, k * 3 + 2, none⟩ = some z) :
    (u.setCell ⟨bp, i, none⟩ v).cell? ⟨bp, 10, none⟩ = some x ∧ (u.setCell ⟨bp, i, none⟩ v).cell? ⟨g, k * 3 + 1, none⟩ = some y ∧ (u.setCell ⟨bp, i, none⟩ v).cell? ⟨g, k * 3 + 2, none⟩ = some z := by
  refine ⟨?_, ?_, ?_⟩
  · rw [World.cell?_setCell_other (h := fun e => by injection e with _ e; exact hi e)]; exact h.1
  · rw [World.cell?_setCell_other (h := fun e => by injection e with e; exact hgp e.symm)]; exact h.2.1
  · rw [World.cell?_setCell_other (h := fun e => by injection e with e; exact hgp e.symm)]; exact h.2.2
set_option maxHeartbeats 1000000 in
set_option maxRecDepth 100000 in
/-- back to a mark -/
theorem back_ok (w : World) (bp bd bl : Nat) (M : DiskM) (G : DG) (P : PagerM) (R : Nat → Nat) (Lk : Nat → Int) (h : Sys w bp bd bl M G P R Lk) (W0 : List Bts) (own : PgL) (c : Nat) (hI : InTx P W0 own c) (pre : List MarkM) (mk : MarkM) (post : List MarkM) (hms : P.marks = pre ++ mk :: post) (hml : P.marks.length < 1000000) (hpre : ∀ x ∈ pre, x.n ≠ mk.n) :
    Calls Tryz.prog 34 #[ptr bp, I mk.n] w (BPost w bp bd bl G R (I 0) M (backP P pre mk) Lk) := by
  have ha := hI.ask
  obtain ⟨vwas, vown, vmarks, mb, hp⟩ := h.p
  have hmm := hp.marks
  rw [hms] at hmm
  obtain ⟨mb1, bk, mb2, rfl, q1, ⟨q2, q4⟩, _⟩ := All2.split pre mk post hmm
  have hl1 : mb1.length = pre.length := All2.length q1
  have hNl : P.marks.length = pre.length + 1 + post.length := by rw [hms]; simp; omega
  obtain ⟨g, n, cp, cur, rfl, hn, hg, hncp, hht⟩ : ∃ g n cp cur, vmarks = .slice (some ⟨g, 0, none⟩) n cp ∧ n = P.marks.length ∧ Blk w g 150 cur ∧ n ≤ cp ∧ cur.toList.take (n * 3) = markCells (mb1 ++ bk :: mb2) P.marks := by
    rcases hp.row.2 with ⟨_, e⟩ | ⟨g, cap, cur, e, h1, h2, h3, h4, h5, h6⟩
    · omega
    · exact ⟨g, _, cap, cur, e, rfl, h2, h3, h6⟩
  have hgp : ¬ g = bp := fun e => by have := hp.rr g rfl; rw [e, hp.r1] at this; cases this
  obtain ⟨ck, hck⟩ : ∃ ck : Nat, mk.count = (ck : Int) := by
    obtain ⟨c', e, _⟩ := hI.marks mk (by rw [hms]; simp)
    exact ⟨c', e⟩
  have hcell : ∀ i v, [I mk.n, .map (some bk), I mk.count][i]? = some v → cur[pre.length * 3 + i]? = some v := fun i v hi => by
    have h1 : markCells (mb1 ++ bk :: mb2) P.marks = markCells mb1 pre ++ ([I mk.n, .map (some bk), I mk.count] ++ markCells mb2 post) := by
      rw [hms, markCells_append mb1 pre _ _ hl1]; rfl
    have h2 : (markCells (mb1 ++ bk :: mb2) P.marks)[pre.length * 3 + i]? = some v := by
      rw [h1, List.getElem?_append_right (by rw [markCells_length mb1 pre hl1]; omega), markCells_length mb1 pre hl1, Nat.add_sub_cancel_left, List.getElem?_append_left]
      · exact hi
      · exact (List.getElem?_eq_some_iff.1 hi).1
    rw [← hht, List.getElem?_take] at h2
    split at h2
    · simpa using h2
    · cases h2
  obtain ⟨W, hW⟩ : ∃ W, W = w.alloc (.cells #[I mk.n] 3) := ⟨_, rfl⟩
  have cW : Chg Non w W := by rw [hW]; exact (Chg.refl _ w).alloc _
  have hB : Blk W w.heap.size 3 #[I mk.n] := by rw [hW]; exact Blk.new _ _ _
  have pW := hp.chg cW fun _ _ => id
  have AS : Calls Tryz.prog 72 #[ptr bp] W fun e w' => e = .returned (I 0) ∧ w' = W := by
    have := ask_any W bp bd bl P R ⟨_, _, _, _, pW⟩
    rw [ha] at this; exact this
  have c10 : W.cell? ⟨bp, 10, none⟩ = some (.slice (some ⟨g, 0, none⟩) n cp) := pW.blk.cell 10
  have IX : Hid (Calls Tryz.prog 79 #[.slice (some ⟨g, 0, none⟩) n cp, .func (.func 80) #[] #[.pointer (some ⟨w.heap.size, 0, none⟩)]] W fun e w' => e = .returned (I (pre.length : Nat)) ∧ w'.cell? ⟨bp, 10, none⟩ = some (.slice (some ⟨g, 0, none⟩) n cp) ∧ w'.frozen? ⟨bp, 10, none⟩ = false ∧ Hid (Chg Non w w')) := by
    obtain ⟨r, _, h1, h2⟩ := index_any W bp bd bl P R pW hml mk.n w.heap.size hB.lt (hB.cell 0)
    rw [h1 pre mk post hms hpre rfl] at h2
    refine h2.mono ?_
    rintro e w' ⟨rfl, k⟩
    have p' := pW.chg k fun _ _ => id
    exact ⟨rfl, p'.blk.cell 10, p'.blk.frozen 10, cW.tr k⟩
  have hkn : (pre.length : Int) + 1 ≤ (cp : Int) := by omega
  have hk1 : ¬ (pre.length : Int) < 0 := by omega
  have hk6 : pre.length < 1000000 := by omega
  -- behind the store of the shorter row
  have CUT : Hid (∀ u, Chg Non w u → ∃ u7, u7 = u.setCell ⟨bp, 10, none⟩ (.slice (some ⟨g, 0, none⟩) (pre.length + 1) cp) ∧ u7.cell? ⟨bp, 10, none⟩ = some (.slice (some ⟨g, 0, none⟩) (pre.length + 1) cp) ∧ u7.cell? ⟨g, pre.length * 3 + 1, none⟩ = some (.map (some bk)) ∧ u7.cell? ⟨g, pre.length * 3 + 2, none⟩ = some (I ck) ∧
      Calls Tryz.prog 81 #[.map (some bk)] u7.drew fun e w' => e = .returned (.map (some u7.heap.size)) ∧ w'.cell? ⟨bp, 10, none⟩ = some (.slice (some ⟨g, 0, none⟩) (pre.length + 1) cp) ∧ w'.cell? ⟨g, pre.length * 3 + 1, none⟩ = some (.map (some bk)) ∧ w'.cell? ⟨g, pre.length * 3 + 2, none⟩ = some (I ck) ∧ w'.frozen? ⟨bp, 8, none⟩ = false ∧ w'.frozen? ⟨bp, 9, none⟩ = false ∧ (∃ x, w'.cell? ⟨bp, 8, none⟩ = some x) ∧ (∃ x, w'.cell? ⟨bp, 9, none⟩ = some x) ∧
        Hid (BPost w bp bd bl G R (I 0) M (backP P pre mk) Lk (.returned (I 0)) ((w'.setCell ⟨bp, 8, none⟩ (.map (some u7.heap.size))).setCell ⟨bp, 9, none⟩ (I ck)))) := by
    intro u cu
    have pu := hp.chg cu fun _ _ => id
    have p7 := pu.cut hms hl1
    have cu7 : Chg (fun b => b = bp) u (u.setCell ⟨bp, 10, none⟩ (.slice (some ⟨g, 0, none⟩) (pre.length + 1) cp)) := Chg.setCell (S := fun b => b = bp) (p := ⟨bp, 10, none⟩) (Chg.refl _ _) (.inl rfl) _
    have g7 : Blk (u.setCell ⟨bp, 10, none⟩ (.slice (some ⟨g, 0, none⟩) (pre.length + 1) cp)) g 150 cur := (hg.chg cu id).chg cu7 hgp
    have m7 : PgW (u.setCell ⟨bp, 10, none⟩ (.slice (some ⟨g, 0, none⟩) (pre.length + 1) cp)) (fun g => R g = 5) bk mk.own := (q2.chg cu id fun _ _ => id).chg cu7 (fun e => by rw [e, hp.r1] at q4; cases q4) fun b hb e => by rw [e, hp.r1] at hb; cases hb
    refine ⟨_, rfl, p7.blk.cell 10, (g7.cell _).trans (hcell 1 _ rfl), ((g7.cell _).trans (hcell 2 _ rfl)).trans (by rw [hck]), ?_⟩
    generalize u.setCell ⟨bp, 10, none⟩ (.slice (some ⟨g, 0, none⟩) (pre.length + 1) cp) = u7 at *
    refine (PgW.clone (w := u7.drew) m7).mono ?_
    rintro e w' ⟨rfl, k1, k2, k3⟩
    have k2' : Chg Non u7 w' := (Chg.refl Non u7).drew.tr k2
    have p8 := p7.chg k2' fun _ _ => id
    have g8 := g7.chg k2' id
    refine ⟨rfl, p8.blk.cell 10, (g8.cell _).trans (hcell 1 _ rfl), ((g8.cell _).trans (hcell 2 _ rfl)).trans (by rw [hck]), p8.blk.frozen 8, p8.blk.frozen 9, ⟨_, p8.blk.cell 8⟩, ⟨_, p8.blk.cell 9⟩, ?_⟩
    have hlt7 : ∀ b, R b ≠ 0 → b < u7.heap.size := p7.lt
    have hbc : R u7.heap.size = 0 := by
      by_cases e : R u7.heap.size = 0
      · exact e
      · have := hlt7 _ e; omega
    have k3' : u7.heap.size < w'.heap.size := k3
    have k1' : PgW w' (fun g => R g = 5) u7.heap.size mk.own := k1
    have p9 := (p8.own_ u7.heap.size mk.own k1' hbc k3').count_ ck
    have c9 : Chg (fun b => b = bp) w' ((w'.setCell ⟨bp, 8, none⟩ (.map (some u7.heap.size))).setCell ⟨bp, 9, none⟩ (I ck)) := (Chg.setCell (S := fun b => b = bp) (p := ⟨bp, 8, none⟩) (Chg.refl _ _) (.inl rfl) _).setCell (p := ⟨bp, 9, none⟩) (.inl rfl) _
    generalize (w'.setCell ⟨bp, 8, none⟩ (.map (some u7.heap.size))).setCell ⟨bp, 9, none⟩ (I ck) = w9 at *
    have cs : w.heap.size ≤ u7.heap.size := Nat.le_trans cu.size cu7.size
    have cA : Chg (fun b => b = bp) w w9 := (((cu.mono fun _ h => h.elim).tr cu7).tr (k2'.mono fun _ h => h.elim)).tr c9
    have rbp : R bp ≠ 0 := by rw [hp.r1]; decide
    refine ⟨G, _, rfl, h.d.chg cA fun b hb e => h.sep b (by rw [e]; exact rbp) hb, ⟨_, _, _, _, by rw [← hck] at p9; exact p9⟩, h.l.chg cA (fun e => rbp (by rw [← e]; exact h.rl)), cA.mono fun b hb => .inl (.inr (.inl (by rw [hb]; exact rbp))), fun b hb => .inl hb, fun b hb => ?_, fun b hb hG => ?_, ?_, h.gl⟩
    · split at hb
      · next e => exact .inr (by omega)
      · exact .inl hb
    · split at hb
      · next e => have := h.d.olt b hG; omega
      · exact h.sep b hb hG
    · have := h.l.lt
      show (if bl = u7.heap.size then 2 else R bl) = 0
      rw [if_neg (by omega)]; exact h.rl
  have AS := Lib.hid AS
  have HN := Lib.hid hn
  rw [hW] at AS c10 IX
  generalize pre.length = k at *
  clear hms hpre hml ha hI hp hmm q1 hl1 hNl hn hg hht hcell hW cW hB pW q2 q4 h hncp hck
  have CUT := Lib.hid CUT
  go_enter Tryz.func34, Tryz.ntmps34
  go_wp2_with (first | (go_at_call 72; refine AS.out.mono ?_; rintro e w' ⟨rfl, hw'⟩; have hw2 := hw'.symm; subst hw2) | (go_at_call 79; refine IX.out.mono ?_; rintro e w' ⟨rfl, g10, gf, FIN⟩))
  obtain ⟨u7, e7, q10, q1, q2, CL⟩ := CUT.out.out w' FIN.out
  have CL := Lib.hid CL
  rw [← e7]
  clear e7 g10 gf CUT
  generalize hK : k + 1 = K at *
  have hki : (k : Int) < (K : Int) := by omega
  clear hK
  go_region_held3 (fun w' => w'.cell? ⟨bp, 10, none⟩ = some (.slice (some ⟨g, 0, none⟩) K cp) ∧ w'.cell? ⟨g, k * 3 + 1, none⟩ = some (.map (some bk)) ∧ w'.cell? ⟨g, k * 3 + 2, none⟩ = some (I ck)) (first | go_keep | exact keep3 hgp 8 (by decide) _ ⟨by assumption, by assumption, by assumption⟩ | exact keep3 hgp 9 (by decide) _ (keep3 hgp 8 (by decide) _ ⟨by assumption, by assumption, by assumption⟩) | trace_state) (first | (go_at_call 81; refine CL.out.mono ?_; rintro e w9 ⟨rfl, r10, r1, r2, fz8, fz9, ⟨x8, r8⟩, ⟨x9, r9⟩, FIN9⟩))
  go_wp2_with fail
  go_ret
  exact FIN9.out
end Go.Proofs.YtamhjjagjjdmoaaGreat
end

section
namespace Go.Proofs.YtamhjjagjjdmoaaGreat
open Go.RowKit Go.Maps Go.Shelf Go.Sort

theorem InTx.mark {P : PagerM} {W : List Bts} {own : PgL} {c : Nat} (h : InTx P W own c) (n : Int) : InTx (markP P own n) W own c := by
  refine { h with marks := fun m hm => ?_ }
  rcases List.mem_append.1 hm with e | e
  · exact h.marks m e
  · rw [List.mem_singleton.1 e]
    exact ⟨c, h.ecount, h.tops, h.rises, h.full, h.c4⟩
theorem InTx.back {P : PagerM} {W : List Bts} {own : PgL} {c : Nat} (h : InTx P W own c) (pre : List MarkM) (mk : MarkM) (post : List MarkM) (hm : P.marks = pre ++ mk :: post) : InTx (backP P pre mk) W mk.own mk.count.toNat := by
  obtain ⟨c', h1, h2, h3, h4, h5⟩ := h.marks mk (by rw [hm]; simp)
  have h6 : mk.count.toNat = c' := by rw [h1]; rfl
  rw [h6]
  refine { h with eown := rfl, ecount := h1, tops := h2, rises := h3, full := h4, c4 := h5, marks := fun m hm' => h.marks m ?_ }
  rw [hm]
  rcases List.mem_append.1 hm' with e | e
  · exact List.mem_append_left _ e
  · rw [List.mem_singleton.1 e]; simp

theorem smark (w : World) (bp bd : Nat) (U : Nat → Prop) (D : List Bts) (own : PgL) (c : Nat) (wrote : Bool) (marks : List MarkM) (z : Nat) (mode : Int) (n : Nat) (h : STx w bp bd U D own c wrote marks z mode (n : Int)) (hn : n < 1000000) (hml : marks.length < 1000000) :
    Calls Tryz.prog 35 #[ptr bp] w (SPost w U (.tuple #[I ((n : Int) + 1), I 0]) fun w' U' => STx w' bp bd U' D own c wrote (marks ++ [⟨(n : Int) + 1, own, (c : Int)⟩]) z mode ((n : Int) + 1)) := by
  obtain ⟨bl, M, G, P, R, V, L, h1, h2, h3, h4, h5, h6, h7, h8, h9, h10, h11, h12⟩ := h
  refine (mark_ok w bp bd bl M G P R _ h1 D own c h5 n h4 hn (by rw [h7]; exact hml)).mono ?_
  intro e w' hq
  obtain ⟨G1, R1, rfl, q1, q2, q3, q4⟩ := h1.of_post hq h1.lok rfl rfl
  exact ⟨rfl, q2.mono fun b hb => .inl (h12 b hb), bl, M, G1, _, R1, V, L, q1, h2, h3, rfl, h5.mark _, h6, by show P.marks ++ [⟨(n : Int) + 1, own, P.count⟩] = _; rw [h7, h5.ecount], h8, h9, h10, h11, h12.grow q3 q4 q1.d.olt q1.rlt⟩
theorem sback (w : World) (bp bd : Nat) (U : Nat → Prop) (D : List Bts) (own : PgL) (c : Nat) (wrote : Bool) (pre : List MarkM) (mk : MarkM) (post : List MarkM) (z : Nat) (mode next : Int) (h : STx w bp bd U D own c wrote (pre ++ mk :: post) z mode next) (hml : (pre ++ mk :: post).length < 1000000) (hpre : ∀ x ∈ pre, x.n ≠ mk.n) :
    Calls Tryz.prog 34 #[ptr bp, I mk.n] w (SPost w U (I 0) fun w' U' => STx w' bp bd U' D mk.own mk.count.toNat wrote (pre ++ [mk]) z mode next) := by
  obtain ⟨bl, M, G, P, R, V, L, h1, h2, h3, h4, h5, h6, h7, h8, h9, h10, h11, h12⟩ := h
  refine (back_ok w bp bd bl M G P R _ h1 D own c h5 pre mk post h7 (by rw [h7]; exact hml) hpre).mono ?_
  intro e w' hq
  obtain ⟨G1, R1, rfl, q1, q2, q3, q4⟩ := h1.of_post hq h1.lok rfl rfl
  exact ⟨rfl, q2.mono fun b hb => .inl (h12 b hb), bl, M, G1, _, R1, V, L, q1, h2, h3, h4, h5.back pre mk post h7, h6, rfl, h8, h9, h10, h11, h12.grow q3 q4 q1.d.olt q1.rlt⟩
theorem sback_miss (w : World) (bp bd : Nat) (U : Nat → Prop) (D : List Bts) (own : PgL) (c : Nat) (wrote : Bool) (marks : List MarkM) (z : Nat) (mode next : Int) (h : STx w bp bd U D own c wrote marks z mode next) (hml : marks.length < 1000000) (m : Int) (hm : ∀ x ∈ marks, x.n ≠ m) :
    Calls Tryz.prog 34 #[ptr bp, I m] w fun e w' => e = .returned (I 1) ∧ Chg Non w w' := by
  obtain ⟨bl, M, G, P, R, V, L, h1, h2, h3, h4, h5, h6, h7, h8⟩ := h
  exact back_miss w bp bd bl P R h1.p h5.ask (by rw [h7]; exact hml) m (by rw [h7]; exact hm)

theorem swrite_int (w : World) (bp bd : Nat) (U : Nat → Prop) (D : List Bts) (own : PgL) (c : Nat) (wrote : Bool) (marks : List MarkM) (z : Nat) (mode next : Int) (h : STx w bp bd U D own c wrote marks z mode next) (n : Nat) (zn : Int) (hz : zn = (n : Int)) (hn : n < 4096) (v : Value) (x : Bts) (hv : Sl w v x) (hx : x.length = 512) (hvU : ∀ g, v.ownBlock = some g → ¬ U g) :
    Calls Tryz.prog 23 #[ptr bp, I zn, v] w (SPost w U (I 0) fun w' U' => STx w' bp bd U' D (pput own (n : Int) x) (max c (n + 1)) true marks z mode next) := by
  subst hz; exact swrite w bp bd U D own c wrote marks z mode next h n hn v x hv hx hvU
theorem sread_int (w : World) (bp bd : Nat) (U : Nat → Prop) (D : List Bts) (own : PgL) (c : Nat) (wrote : Bool) (marks : List MarkM) (z : Nat) (mode next : Int) (h : STx w bp bd U D own c wrote marks z mode next) (n : Nat) (zn : Int) (hz : zn = (n : Int)) (hn : n < 4096) :
    Calls Tryz.prog 26 #[ptr bp, I zn] w fun e w' => ∃ v, e = .returned (.tuple #[v, I 0]) ∧ OwnB w' v (pgV D own n) ∧ Chg Non w w' ∧ ∀ g, v.ownBlock = some g → w.heap.size ≤ g := by
  subst hz; exact sread w bp bd U D own c wrote marks z mode next h n hn
theorem sback_int (w : World) (bp bd : Nat) (U : Nat → Prop) (D : List Bts) (own : PgL) (c : Nat) (wrote : Bool) (marks pre : List MarkM) (mk : MarkM) (post : List MarkM) (z : Nat) (mode next : Int) (h : STx w bp bd U D own c wrote marks z mode next) (hm : marks = pre ++ mk :: post) (hml : marks.length < 1000000) (hpre : ∀ x ∈ pre, x.n ≠ mk.n) (zn : Int) (hz : zn = mk.n) (k : Nat) (hk : mk.count = (k : Int)) :
    Calls Tryz.prog 34 #[ptr bp, I zn] w (SPost w U (I 0) fun w' U' => STx w' bp bd U' D mk.own k wrote (pre ++ [mk]) z mode next) := by
  subst hz; subst hm
  have := sback w bp bd U D own c wrote pre mk post z mode next h hml hpre
  rw [hk] at this; exact this

/-- a row of ints that are none of the pager's, all above B -/
structure Idr (B : Nat) (w : World) (U : Nat → Prop) (v : Value) (n : Nat) (l : List Int) : Prop where
  row : w.ownsRow 0 3 1 v n (l.map I)
  len : l.length = n
  far : ∀ g, v.ownBlock = some g → ¬ U g
  lo : ∀ g, v.ownBlock = some g → B ≤ g
theorem Idr.step {B : Nat} {w w' : World} {U : Nat → Prop} {v : Value} {n : Nat} {l : List Int} (h : Idr B w U v n l) (c : Chg U w w') : Idr B w' (newK U w w') v n l where
  row := World.ownsRow.keep_ h.row fun g hg => c.block g (World.ownsRow.lt h.row g hg).2 (h.far g hg)
  len := h.len
  far g hg := fun e => e.elim (h.far g hg) fun e => by have := (World.ownsRow.lt h.row g hg).2; omega
  lo := h.lo
theorem Idr.still {B : Nat} {w w' : World} {U : Nat → Prop} {v : Value} {n : Nat} {l : List Int} (h : Idr B w U v n l) (c : Chg Non w w') : Idr B w' U v n l where
  row := World.ownsRow.keep_ h.row fun g hg => c.block g (World.ownsRow.lt h.row g hg).2 id
  len := h.len
  far := h.far
  lo := h.lo
theorem Idr.nil (B : Nat) (w : World) (U : Nat → Prop) : Idr B w U (.slice none 0 0) 0 [] := ⟨⟨rfl, .inl ⟨rfl, rfl⟩⟩, rfl, fun g hg => by simp [Value.ownBlock] at hg, fun g hg => by simp [Value.ownBlock] at hg⟩
theorem Idr.form {B : Nat} {w : World} {U : Nat → Prop} {v : Value} {n : Nat} {l : List Int} (h : Idr B w U v n l) : ∃ A c, v = .slice A n c ∧ n ≤ c := ownsRow_form h.row
theorem Idr.at {B : Nat} {w : World} {U : Nat → Prop} {v : Value} {n : Nat} {l : List Int} (h : Idr B w U v n l) (k : Nat) (hk : k < n) : ∃ g c, v = .slice (some ⟨g, 0, none⟩) n c ∧ w.cell? ⟨g, k, none⟩ = some (I (l.getD k 0)) := by
  obtain ⟨g, c, cur, rfl, _, hb, hc⟩ := ownsRow_some h.row (by omega)
  refine ⟨g, c, rfl, ?_⟩
  have hl := h.len
  rw [hb.cell, hc k (by simp; omega)]
  simp [List.getD, List.getElem?_eq_getElem (show k < l.length by omega)]
theorem Idr.cell {B : Nat} {w : World} {U : Nat → Prop} {g c n : Nat} {l : List Int} (h : Idr B w U (.slice (some ⟨g, 0, none⟩) n c) n l) (k : Nat) (hk : k < n) : w.cell? ⟨g, k, none⟩ = some (I (l.getD k 0)) := by
  obtain ⟨g', c', e, h1⟩ := h.at k hk
  injection e with e; injection e with e; injection e with e
  rw [e]; exact h1
theorem OwnB.still {w w' : World} {v : Value} {x : Bts} (h : OwnB w v x) (c : Chg Non w w') : OwnB w' v x := h.chg c fun _ _ => id
theorem Ux.over {S : Nat → Prop} {w0 w w' : World} {U : Nat → Prop} (h : Ux w0 w U) (c : Chg S w w') (hS : ∀ b, S b → w0.heap.size ≤ b) : Ux w0 w' U where
  lo := h.lo
  hi b hb := Nat.lt_of_lt_of_le (h.hi b hb) c.size
  chg := h.chg.trans c fun b hb => .inr (hS b hb)
theorem eqB_calm (w : World) (v1 v2 : Value) (x : Bts) (h1 : Sl w v1 x) (h2 : Sl w v2 x) (hx : x.length ≤ 4194304) :
    Calls Tryz.prog 27 #[v1, v2] w fun e w' => e = .returned (.bool true) ∧ Chg Non w w' := by
  refine (eqBytes_yes w v1 v2 x h1 h2 hx).mono ?_
  rintro e w' ⟨rfl, m, rfl⟩
  exact ⟨rfl, (Chg.refl _ w).drewN m⟩
theorem infoInt : (Tryz.prog.info? 3).map (fun i => (i.zero, i.size, i.bytes)) = some (some (.int .i64 0), 1, 8) := by kernel_rfl
/-- ids = append(ids, x) -/
theorem Idr.push {B : Nat} {w : World} {U : Nat → Prop} {v : Value} {n : Nat} {l : List Int} (h : Idr B w U v n l) (hB : B ≤ w.heap.size) (hU : ∀ b, U b → b < w.heap.size) (hn : n ≤ 100000) (x : Int) :
    ∃ A c w', (∀ ty, (Builtin.append_ #[60, 60] ty #[v, .slice (some ⟨w.heap.size, 0, none⟩) 1 1]).run Tryz.prog (w.alloc (.cells #[I x] 3)) = .ok (.slice A (n + 1) c) w') ∧ Idr B w' U (.slice A (n + 1) c) (n + 1) (l ++ [x]) ∧ Chg (fun g => v.ownBlock = some g) w w' := by
  have c6 : Chg Non w (w.alloc (.cells #[I x] 3)) := (Chg.refl _ _).alloc _
  have b6 : Blk (w.alloc (.cells #[I x] 3)) w.heap.size 3 #[I x] := Blk.new _ _ _
  have r6 := (h.still c6).row
  have z6 : (w.alloc (.cells #[I x] 3)).heap.size = w.heap.size + 1 := Array.size_push _
  generalize w.alloc (.cells #[I x] 3) = w6 at *
  obtain ⟨i, hi, hz, hsize, hby⟩ := info_parts infoInt
  have hap := fun ty => run_append_own_at (P := Tryz.prog) w6 0 60 ty 3 i (.int .i64 0) 1 8 Tryz.underlying60 hi hz hsize hby rfl (by omega) v n (l.map I) r6 ⟨w.heap.size, 0, none⟩ 1 1 [I x] rfl
    (fun j u hj => by rw [addr_add, Nat.zero_add, b6.cell]; simpa using hj) (fun u hu => by rw [List.mem_singleton.1 hu]; rfl) (by unfold maxLen; omega) (by omega) (Nat.zero_le _)
  obtain ⟨v', w7, hr, k1, k2, _, k4⟩ := hap 60
  obtain ⟨A, c, rfl, _⟩ := ownsRow_form k1
  refine ⟨A, c, w7, fun ty => hr, ⟨by rw [List.map_append]; exact k1, by simp [h.len], fun g hg hUg => ?_, fun g hg => ?_⟩, (c6.mono fun _ h => h.elim).tr (Chg.grown (S := fun g => v.ownBlock = some g) (Chg.refl _ _) k2 fun g hg => .inl hg)⟩
  · rcases k4 with e | e
    · exact h.far g (by rw [← e]; exact hg) hUg
    · rw [e] at hg
      injection hg with hg
      have := hU g hUg
      have := c6.size
      omega
  · rcases k4 with e | e
    · exact h.lo g (by rw [← e]; exact hg)
    · rw [e] at hg
      injection hg with hg
      have := c6.size
      omega
end Go.Proofs.YtamhjjagjjdmoaaGreat
end

section
namespace Go.Proofs.YtamhjjagjjdmoaaGreat
open Go.RowKit Go.Maps Go.Shelf Go.Sort

def foldAsk (P : PagerM) : Int := if P.dead then 9 else 11
/-- out, or in a transaction -/
theorem fold_ask (w : World) (bp bd bl : Nat) (P : PagerM) (R : Nat → Nat) (hp : PagerW w bp bd bl P R) (ha : P.dead = true ∨ P.inn = true) :
    Calls Tryz.prog 38 #[ptr bp] w fun e w' => e = .returned (I (foldAsk P)) ∧ w' = w := by
  obtain ⟨vwas, vown, vmarks, mb, hp⟩ := hp
  have c4 : w.cell? ⟨bp, 4, none⟩ = some (.bool P.dead) := hp.blk.cell 4
  have c5 : w.cell? ⟨bp, 5, none⟩ = some (.bool P.inn) := hp.blk.cell 5
  unfold foldAsk
  by_cases hd : P.dead = true
  · rw [hd] at c4 ⊢
    clear hp ha c5 hd
    go_enter Tryz.func38, Tryz.ntmps38
    go_wp2_with fail
    go_ret
    exact ⟨rfl, rfl⟩
  · have hd : P.dead = false := by simpa using hd
    have hi : P.inn = true := ha.resolve_left (by simp [hd])
    rw [hd] at c4 ⊢
    rw [hi] at c5
    clear hp ha hd hi
    go_enter Tryz.func38, Tryz.ntmps38
    go_wp2_with fail
    go_ret
    exact ⟨rfl, rfl⟩

set_option maxHeartbeats 2000000 in
set_option maxRecDepth 100000 in
/-- the log is brought into the base -/
theorem pfold_ok (w : World) (bp bd bl : Nat) (M : DiskM) (G : DG) (P : PagerM) (R : Nat → Nat) (Lk : Nat → Int) (h : Sys w bp bd bl M G P R Lk) (hd : P.dead = false) (hi : P.inn = false) (l1 l2 l4 : Nat → Int) (h1 : raiseM Lk P.c 1 = (0, l1)) (h2 : raiseM l1 P.c 2 = (0, l2)) (h4 : raiseM l2 P.c 4 = (0, l4))
    (ht : TrOk M) (ho : M.off = false) (hj : journalN ∉ M.names) (L : LogL) (hL : LogIs M L) (hok : LogOk L) (M' : DiskM) (s : Int) (hf : foldM M L P.sure = (0, M', s)) :
    Calls Tryz.prog 38 #[ptr bp] w (BPost w bp bd bl G R (I 0) M' (idleM { P with sure := s }) (lowerM l4 P.c)) := by
  obtain ⟨vwas, vown, vmarks, mb, hp⟩ := h.p
  have hbl := h.rl
  have hne : bl ≠ bp := fun e => by rw [e, hp.r1] at hbl; cases hbl
  have c4 : w.cell? ⟨bp, 4, none⟩ = some (.bool P.dead) := hp.blk.cell 4
  have c5 : w.cell? ⟨bp, 5, none⟩ = some (.bool P.inn) := hp.blk.cell 5
  have c2 : w.cell? ⟨bp, 2, none⟩ = some (ptr bl) := hp.blk.cell 2
  have c3 : w.cell? ⟨bp, 3, none⟩ = some (I P.c) := hp.blk.cell 3
  rw [hd] at c4
  rw [hi] at c5
  have k1 : LvOk l1 := by have := h.lok.raise P.c 1; rw [h1] at this; exact this
  have k2 : LvOk l2 := by have := k1.raise P.c 2; rw [h2] at this; exact this
  have k4 : LvOk l4 := by have := k2.raise P.c 4; rw [h4] at this; exact this
  have RA : ∀ (la lb : Nat → Int) (lv : Int), LvOk la → raiseM la P.c lv = (0, lb) → (lv = 1 ∨ lv = 2 ∨ lv = 4) → ∀ u, Chg (fun b => b = bl) w u → Blk u bl 135 (lvls la) →
      Calls Tryz.prog 70 #[ptr bl, I P.c, I lv] u.drew fun e w' => e = .returned (I 0) ∧ (w'.cell? ⟨bp, 2, none⟩ = some (ptr bl) ∧ w'.cell? ⟨bp, 3, none⟩ = some (I P.c)) ∧ Hid (Chg (fun b => b = bl) w w' ∧ Blk w' bl 135 (lvls lb)) := by
    intro la lb lv hla hr hlv u cu hu
    have := raise_any u.drew bl P.c la lv hu.drew hla h.c4 hlv
    rw [hr] at this
    refine this.mono ?_
    rintro e w' ⟨rfl, q1, q2⟩
    have cw : Chg (fun b => b = bl) w w' := cu.tr ((Chg.refl (fun b => b = bl) u).drew.tr q2)
    exact ⟨rfl, ⟨(cw.cell (a := ⟨bp, 2, none⟩) hp.blk.lt (fun e => hne e.symm)).trans c2, (cw.cell (a := ⟨bp, 3, none⟩) hp.blk.lt (fun e => hne e.symm)).trans c3⟩, cw, q1⟩
  have RA1 := Lib.hid (RA Lk l1 1 h.lok h1 (.inl rfl) w (Chg.refl _ _) h.l)
  have RA2 := Lib.hid (RA l1 l2 2 k1 h2 (.inr (.inl rfl)))
  have RA4 := Lib.hid (RA l2 l4 4 k2 h4 (.inr (.inr rfl)))
  have rbp : R bp ≠ 0 := by rw [hp.r1]; decide
  have ST : Hid (∀ u, Chg (fun b => b = bl) w u → Blk u bl 135 (lvls l4) → (Calls Tryz.prog 87 #[ptr bp] u fun e w' => e = .returned (I 0) ∧ w' = u) ∧
      Calls Tryz.prog 88 #[ptr bp] u fun e w' => e = .returned (I 0) ∧ Calls Tryz.prog 78 #[ptr bp] w' fun e w'' => e = .returned (.tuple #[]) ∧ Hid (BPost w bp bd bl G R (I 0) M' (idleM { P with sure := s }) (lowerM l4 P.c) (.returned (I 0)) w'')) := by
    intro u cu hu
    have du := h.d.chg cu fun b hb e => h.gl (by rw [← e]; exact hb)
    have pu := hp.chg cu fun b hb e => hb (by rw [e]; exact hbl)
    refine ⟨undo_no u bp bd M G du (pu.pd h.sep) ho hj, ?_⟩
    have := fold_any u bp bd bl M G P R du ht ⟨_, _, _, _, pu⟩ h.sep ho L hL hok
    rw [hf] at this
    refine this.mono ?_
    rintro e w' ⟨G', rfl, q1, q2, q3, q4⟩
    have hl' : Blk w' bl 135 (lvls l4) := hu.chg q3 fun e => e.elim h.gl hne
    refine ⟨rfl, (end_any w' bp bd bl { P with sure := s } R q2 l4 hl' k4 h.c4 hbl).mono ?_⟩
    rintro e w'' ⟨rfl, r1, r2, r3⟩
    have su := cu.size
    have hG' : ∀ b, G'.F b → G.F b ∨ w.heap.size ≤ b := fun b hb => (q4 b hb).imp id fun e => Nat.le_trans su e
    have hpl := hp.lt
    have sepG : ∀ b, R b ≠ 0 → ¬ G'.F b := fun b hb e => by
      rcases hG' b e with e | e
      · exact h.sep b hb e
      · have := hpl b hb; omega
    have glG : ¬ G'.F bl := fun e => by
      rcases hG' bl e with e | e
      · exact h.gl e
      · have := h.l.lt; omega
    refine ⟨rfl, G', R, rfl, q1.chg r3 (fun b hb e => e.elim (fun e => sepG bp rbp (by rw [← e]; exact hb)) fun e => glG (by rw [← e]; exact hb)), r1, r2, ?_, hG', fun b hb => .inl hb, sepG, hbl, glG⟩
    refine ((cu.mono (S' := fun b => G.F b ∨ R b ≠ 0 ∨ b = bl) fun b hb => .inl (.inr (.inr hb))).tr (q3.mono fun b hb => .inl ?_)).tr (r3.mono fun b hb => .inl ?_)
    · rcases hb with e | e
      · exact .inl e
      · exact .inr (.inl (by rw [e]; exact rbp))
    · rcases hb with e | e
      · exact .inr (.inl (by rw [e]; exact rbp))
      · exact .inr (.inr e)
  clear RA k1 k2 k4 h1 h2 h4 ht ho hj hL hok hf hp hd hi h hne hbl rbp
  go_enter Tryz.func38, Tryz.ntmps38
  go_wp2_with fail
  go_region_held3 (fun w' => w'.cell? ⟨bp, 2, none⟩ = some (ptr bl) ∧ w'.cell? ⟨bp, 3, none⟩ = some (I P.c)) (go_keep) (first | (go_at_call 70; refine RA1.out.mono ?_; rintro e w5 ⟨rfl, ⟨r2, r3⟩, F5⟩))
  have RA2 := Lib.hid (RA2.out w5 F5.out.1 F5.out.2)
  go_wp2_with fail
  go_region_held3 (fun w' => w'.cell? ⟨bp, 2, none⟩ = some (ptr bl) ∧ w'.cell? ⟨bp, 3, none⟩ = some (I P.c)) (go_keep) (first | (go_at_call 70; refine RA2.out.mono ?_; rintro e w6 ⟨rfl, ⟨s2, s3⟩, F6⟩))
  have RA4 := Lib.hid (RA4.out w6 F6.out.1 F6.out.2)
  go_wp2_with fail
  go_region_held3 (fun w' => w'.cell? ⟨bp, 2, none⟩ = some (ptr bl) ∧ w'.cell? ⟨bp, 3, none⟩ = some (I P.c)) (go_keep) (first | (go_at_call 70; refine RA4.out.mono ?_; rintro e w7 ⟨rfl, ⟨t2, t3⟩, F7⟩))
  have ST7 := Lib.hid (ST.out w7 F7.out.1 F7.out.2)
  go_wp2_with (first | (go_at_call 87; refine ST7.out.1.mono ?_; rintro e w' ⟨rfl, hw'⟩; have hw2 := hw'.symm; subst hw2) | (go_at_call 88; refine ST7.out.2.mono ?_; rintro e w8 ⟨rfl, E8⟩; have E8 := Lib.hid E8) | (go_at_call 78; refine E8.out.mono ?_; rintro e w9 ⟨rfl, F9⟩))
  go_ret
  exact F9.out
end Go.Proofs.YtamhjjagjjdmoaaGreat
end

section
namespace Go.Proofs.YtamhjjagjjdmoaaGreat
open Go.RowKit Go.Maps Go.Shelf Go.Sort

theorem back_ask (w : World) (bp bd bl : Nat) (P : PagerM) (R : Nat → Nat) (hp : PagerW w bp bd bl P R) (m : Int) (ha : ¬ askM P = 0) :
    Calls Tryz.prog 34 #[ptr bp, I m] w fun e w' => e = .returned (I (askM P)) ∧ Chg Non w w' := by
  obtain ⟨W, hW⟩ : ∃ W, W = w.alloc (.cells #[I m] 3) := ⟨_, rfl⟩
  have cW : Chg Non w W := by rw [hW]; exact (Chg.refl _ w).alloc _
  have AS : Calls Tryz.prog 72 #[ptr bp] W fun e w' => e = .returned (I (askM P)) ∧ w' = W := by
    obtain ⟨_, _, _, _, hp⟩ := hp
    exact ask_any W bp bd bl P R ⟨_, _, _, _, hp.chg cW fun _ _ => id⟩
  generalize askM P = x at *
  have AS := Lib.hid AS
  have bx : (x != 0) = true := by simpa using ha
  have FIN := Lib.hid cW
  rw [hW] at AS FIN
  clear hp ha hW cW
  go_enter Tryz.func34, Tryz.ntmps34
  go_wp2_with (first | (go_at_call 72; refine AS.out.mono ?_; rintro e w' ⟨rfl, hw'⟩; have hw2 := hw'.symm; subst hw2))
  go_ret
  exact ⟨rfl, FIN.out⟩
theorem sread_idle (w : World) (bp bd : Nat) (U : Nat → Prop) (D : List Bts) (z : Nat) (mode next : Int) (h : SIdle w bp bd U D z mode next) (n : Int) :
    Calls Tryz.prog 26 #[ptr bp, I n] w fun e w' => e = .returned (.tuple #[.slice none 0 0, I 11]) ∧ w' = w := by
  obtain ⟨bl, M, G, P, R, V, L, h1, h2, h3, h4, h5, _⟩ := h
  have := read_ask w bp bd bl P R h1.p n (by rw [h5.ask]; decide)
  rw [h5.ask] at this; exact this
theorem swrite_idle (w : World) (bp bd : Nat) (U : Nat → Prop) (D : List Bts) (z : Nat) (mode next : Int) (h : SIdle w bp bd U D z mode next) (n : Int) (v : Value) :
    Calls Tryz.prog 23 #[ptr bp, I n, v] w fun e w' => e = .returned (I 11) ∧ w' = w := by
  obtain ⟨bl, M, G, P, R, V, L, h1, h2, h3, h4, h5, _⟩ := h
  have := write_ask w bp bd bl P R h1.p n v (by rw [h5.ask]; decide)
  rw [h5.ask] at this; exact this
theorem scommit_idle (w : World) (bp bd : Nat) (U : Nat → Prop) (D : List Bts) (z : Nat) (mode next : Int) (h : SIdle w bp bd U D z mode next) :
    Calls Tryz.prog 29 #[ptr bp] w fun e w' => e = .returned (I 11) ∧ w' = w := by
  obtain ⟨bl, M, G, P, R, V, L, h1, h2, h3, h4, h5, _⟩ := h
  have := commit_ask w bp bd bl P R h1.p (by rw [h5.ask]; decide)
  rw [h5.ask] at this; exact this
theorem srollback_idle (w : World) (bp bd : Nat) (U : Nat → Prop) (D : List Bts) (z : Nat) (mode next : Int) (h : SIdle w bp bd U D z mode next) :
    Calls Tryz.prog 30 #[ptr bp] w fun e w' => e = .returned (I 11) ∧ w' = w := by
  obtain ⟨bl, M, G, P, R, V, L, h1, h2, h3, h4, h5, _⟩ := h
  have := rollback_ask w bp bd bl P R h1.p (by rw [h5.ask]; decide)
  rw [h5.ask] at this; exact this
theorem smark_idle (w : World) (bp bd : Nat) (U : Nat → Prop) (D : List Bts) (z : Nat) (mode next : Int) (h : SIdle w bp bd U D z mode next) :
    Calls Tryz.prog 35 #[ptr bp] w fun e w' => e = .returned (.tuple #[I 0, I 11]) ∧ w' = w := by
  obtain ⟨bl, M, G, P, R, V, L, h1, h2, h3, h4, h5, _⟩ := h
  have := mark_ask w bp bd bl P R h1.p (by rw [h5.ask]; decide)
  rw [h5.ask] at this; exact this
theorem sback_idle (w : World) (bp bd : Nat) (U : Nat → Prop) (D : List Bts) (z : Nat) (mode next : Int) (h : SIdle w bp bd U D z mode next) (m : Int) :
    Calls Tryz.prog 34 #[ptr bp, I m] w fun e w' => e = .returned (I 11) ∧ Chg Non w w' := by
  obtain ⟨bl, M, G, P, R, V, L, h1, h2, h3, h4, h5, _⟩ := h
  have := back_ask w bp bd bl P R h1.p m (by rw [h5.ask]; decide)
  rw [h5.ask] at this; exact this
theorem sbegin_tx (w : World) (bp bd : Nat) (U : Nat → Prop) (D : List Bts) (own : PgL) (c : Nat) (wrote : Bool) (marks : List MarkM) (z : Nat) (mode next : Int) (h : STx w bp bd U D own c wrote marks z mode next) :
    Calls Tryz.prog 22 #[ptr bp] w fun e w' => e = .returned (I 11) ∧ w' = w := by
  obtain ⟨bl, M, G, P, R, V, L, h1, h2, h3, h4, h5, _⟩ := h
  exact begin_in w bp bd bl P R h1.p h5.edead h5.einn
theorem sfold_tx (w : World) (bp bd : Nat) (U : Nat → Prop) (D : List Bts) (own : PgL) (c : Nat) (wrote : Bool) (marks : List MarkM) (z : Nat) (mode next : Int) (h : STx w bp bd U D own c wrote marks z mode next) :
    Calls Tryz.prog 38 #[ptr bp] w fun e w' => e = .returned (I 11) ∧ w' = w := by
  obtain ⟨bl, M, G, P, R, V, L, h1, h2, h3, h4, h5, _⟩ := h
  have := fold_ask w bp bd bl P R h1.p (.inr h5.einn)
  rw [show foldAsk P = 11 by simp [foldAsk, h5.edead]] at this
  exact this
theorem sfold (w : World) (bp bd : Nat) (U : Nat → Prop) (D : List Bts) (z : Nat) (mode next : Int) (h : SIdle w bp bd U D z mode next) :
    Calls Tryz.prog 38 #[ptr bp] w (SPost w U (I 0) fun w' U' => SIdle w' bp bd U' D 0 mode next ∧ ∃ M' G' , DiskAt w' bd M' G' ∧ Store M' D [] ∧ ∀ b, G'.F b → U' b) := by
  obtain ⟨bl, M, G, P, R, V, L, h1, h2, h3, h4, h5, h6, h7, h8, h9⟩ := h
  subst h7
  obtain ⟨M', s, e1, e2⟩ := h6.fold P.sure
  have r1 : raiseM (lv1 0) P.c 1 = (0, lv1 1) := by rw [h2]; exact raise_lv1_1
  have r2 : raiseM (lv1 1) P.c 2 = (0, lv1 2) := by rw [h2]; exact raise_lv1_2 false
  have r4 : raiseM (lv1 2) P.c 4 = (0, lv1 4) := by rw [h2]; exact raise_lv1_4
  refine (pfold_ok w bp bd bl M G P R (lv1 0) h1 h5.dead h5.inn (lv1 1) (lv1 2) (lv1 4) r1 r2 r4 h6.trOk h6.off h6.nj L h6.log h6.logOk M' s e1).mono ?_
  intro e w' hq
  obtain ⟨G1, R1, rfl, q1, q2, q3, q4⟩ := h1.of_post hq (by rw [h2, lower_lv1, ← lv1_zero]; exact lvOk_zero) rfl rfl
  rw [h2, lower_lv1] at q1
  have hg := h9.grow q3 q4 q1.d.olt q1.rlt
  exact ⟨rfl, q2.mono fun b hb => .inl (h9 b hb), ⟨bl, M', G1, _, R1, doneV V L, [], q1, rfl, h3, h4, Idle.of_idle h5.dead, e2, doneV_nil _, by simp [logSz, blocksOn], hg⟩, M', G1, q1.d, e2, fun b hb => hg b (.inl hb)⟩
end Go.Proofs.YtamhjjagjjdmoaaGreat
end

section
namespace Go.Proofs.YtamhjjagjjdmoaaGreat
open Go.RowKit Go.Maps Go.Shelf Go.Sort

set_option maxRecDepth 100000 in
theorem xor_all : ∀ n : Nat, n < 256 → bits BinOp.xor IntKind.u8 (n : Int) 85 = ((n ^^^ 85 : Nat) : Int) ∧ (n ^^^ 85) < 256 := by decide
theorem xor_byte (y : UInt8) : ∃ y' : UInt8, Value.int .u8 (bits BinOp.xor IntKind.u8 (y.toNat : Int) 85) = B y' := by
  obtain ⟨h1, h2⟩ := xor_all y.toNat y.toNat_lt
  refine ⟨UInt8.ofNat (y.toNat ^^^ 85), ?_⟩
  unfold B
  rw [h1, UInt8.toNat_ofNat_of_lt' h2]
set_option maxHeartbeats 1000000 in
set_option maxRecDepth 100000 in
theorem spoil_any (w : World) (v : Value) (n : Nat) (h : ∃ l, OwnB w v l ∧ l.length = n) (hn : n ≤ 4194304) :
    Calls Tryz.prog 85 #[v] w fun e w' => e = .returned (.tuple #[]) ∧ Chg (fun g => v.ownBlock = some g) w w' := by
  obtain ⟨A, c, rfl⟩ : ∃ A c, v = .slice A n c := by obtain ⟨l, h1, rfl⟩ := h; obtain ⟨A, c, e, _⟩ := h1.form; exact ⟨A, c, e⟩
  have H := Lib.hid h
  clear h
  go_enter Tryz.func85, Tryz.ntmps85
  go_wp2_with fail
  go_loopw [2] (fun i wr => ∃ k : Nat, k ≤ n ∧ i = I k ∧ (∃ l, OwnB wr (.slice A n c) l ∧ l.length = n) ∧ Chg (fun g => (Value.slice A n c).ownBlock = some g) w wr) (fun i _ => n - (intOf i).toNat)
  case atStart => exact ⟨0, Nat.zero_le _, rfl, H.out, Chg.refl _ _⟩
  case round =>
    obtain ⟨k, hk, rfl, ho, hc⟩ := hrel
    by_cases hlt : k < n
    · have i1 : (k : Int) < (n : Int) := by omega
      obtain ⟨l, ho, hl⟩ := ho
      obtain ⟨g, y, rfl, hf, hcell⟩ : ∃ g y, A = some ⟨g, 0, none⟩ ∧ wr.frozen? ⟨g, k, none⟩ = false ∧ wr.cell? ⟨g, k, none⟩ = some (B y) := by
        rcases ho with ⟨e, e2⟩ | ⟨g', cap, cur, e, hb', h1, h2, h3, h4⟩
        · rw [e2] at hl; simp at hl; omega
        · injection e with e1 e2 e3
          refine ⟨g', l[k]'(by omega), e1, hb'.frozen k, ?_⟩
          have : (cur.toList.take l.length)[k]? = some (B (l[k]'(by omega))) := by rw [h4]; simp [show k < l.length by omega]
          rw [List.getElem?_take, if_pos (by omega)] at this
          rw [hb'.cell]; simpa using this
      have HO := Lib.hid (ho.store k (by omega))
      have HL := Lib.hid hl
      have HC := Lib.hid hc
      clear ho hc hl
      unfold B at hcell
      go_wp2_with fail
      obtain ⟨y', hy⟩ := xor_byte y
      rw [hy]
      exact ⟨⟨k + 1, by omega, by go_num, ⟨_, HO.out y', by simp [HL.out]⟩, Chg.setCell (S := fun g' => (Value.slice (some ⟨g, 0, none⟩) n c).ownBlock = some g') (p := ⟨g, k, none⟩) HC.out (.inl rfl) _⟩, by simp [intOf]; omega⟩
    · obtain rfl : k = n := by omega
      have i1 : ¬ (k : Int) < (k : Int) := by omega
      have RUN : Hid (∃ v' w', (∀ ty, (Builtin.append_ #[48, 48] ty #[.slice A k c, .slice (some ⟨wr.heap.size, 0, none⟩) 1 1]).run Tryz.prog (wr.alloc (.cells #[.int .u8 5] 5)) = .ok v' w') ∧ Chg (fun g => (Value.slice A k c).ownBlock = some g) w w') := by
        obtain ⟨l, h1, hl⟩ := ho
        have c6 : Chg Non wr (wr.alloc (.cells #[.int .u8 5] 5)) := (Chg.refl _ _).alloc _
        have b6 : Blk (wr.alloc (.cells #[.int .u8 5] 5)) wr.heap.size 5 #[.int .u8 5] := Blk.new _ _ _
        have r6 := h1.chg c6 fun _ _ => id
        have s6 : Sl (wr.alloc (.cells #[.int .u8 5] 5)) (.slice (some ⟨wr.heap.size, 0, none⟩) 1 1) [5] := .inr ⟨wr.heap.size, 0, 1, rfl, by simp, by simp [maxLen], fun j u hj => by rw [Nat.zero_add, b6.cell]; simpa [B] using hj⟩
        generalize wr.alloc (.cells #[.int .u8 5] 5) = w6 at *
        have hap := fun ty => appendB_run w6 ty (.slice A k c) l r6 (.slice (some ⟨wr.heap.size, 0, none⟩) 1 1) [5] s6 (by simp; omega)
        obtain ⟨v', w7, hr, k1, k2, k4⟩ := hap 48
        exact ⟨v', w7, fun ty => hr, (hc.tr (c6.mono fun _ h => h.elim)).tr (Chg.grown (S := fun g => (Value.slice A k c).ownBlock = some g) (Chg.refl _ _) k2 fun g hg => .inl hg)⟩
      clear ho hc
      obtain ⟨v', w', hrun, FIN⟩ := RUN.out
      have RUN := Lib.hid hrun
      have FIN := Lib.hid FIN
      clear hrun
      go_wp2_with (at_builtin; refine Lib.wpList_append_run _ rfl (.tmp 17) (.tmp 18) _ _ rfl _ _ rfl rfl _ _ (RUN.out _) ?_)
      go_end0
      exact ⟨rfl, FIN.out⟩
theorem spoil_own (w : World) (v : Value) (l : Bts) (h : OwnB w v l) (hl : l.length ≤ 4194304) :
    Calls Tryz.prog 85 #[v] w fun e w' => e = .returned (.tuple #[]) ∧ Chg (fun g => v.ownBlock = some g) w w' := spoil_any w v l.length ⟨l, h, rfl⟩ hl
end Go.Proofs.YtamhjjagjjdmoaaGreat
end
