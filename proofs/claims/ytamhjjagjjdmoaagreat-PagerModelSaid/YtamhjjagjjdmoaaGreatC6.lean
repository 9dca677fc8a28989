/- the laws' helpers, one pager -/
import Derived.Test.YtamhjjagjjdmoaaGreatC5
import Derived.ProofKit
import Derived.OpenShut
import Derived.Lib.SmallJoins
import Derived.Deep.Slices
section
namespace Go.Proofs.YtamhjjagjjdmoaaGreat
open Go.RowKit Go.Maps Go.Shelf Go.Sort

theorem num_any (w : World) (n : Int) : Calls Tryz.prog 18 #[I n] w fun e w' => e = .returned (I n) ∧ w' = w := by
  go_enter Tryz.func18, Tryz.ntmps18
  go_wp2_with fail
  go_ret
  exact ⟨rfl, rfl⟩
/-- a number within bounds -/
def wi (i : Int) (n : Nat) : Nat := (i % 18446744073709551616).toNat % n
theorem wi_lt (i : Int) (n : Nat) (h : 0 < n) : wi i n < n := Nat.mod_lt _ h
theorem within_any (w : World) (i : Int) (n : Nat) (h0 : 0 < n) (hn : n ≤ 1000000) : Calls Tryz.prog 21 #[I i, I n] w fun e w' => e = .returned (I (wi i n)) ∧ w' = w := by
  go_enter Tryz.func21, Tryz.ntmps21
  go_wp2_with fail
  go_ret
  refine ⟨?_, rfl⟩
  have e : wrap64 ((IntKind.u64.wrap i).tmod (n : Int)) = ((wi i n : Nat) : Int) := by
    rw [IntKind.wrap_u64]
    have h1 : 0 ≤ i % 18446744073709551616 := Int.emod_nonneg _ (by decide)
    obtain ⟨q, hq⟩ := Int.eq_ofNat_of_zero_le h1
    unfold wi
    rw [hq, Int.toNat_natCast, ← Int.ofNat_tmod]
    exact wrap64_small _ (by have := Nat.mod_lt q h0; omega)
  exact congrArg (fun z => Ending.returned (I z)) e
set_option maxHeartbeats 400000 in
theorem eqBytes_yes (w : World) (v1 v2 : Value) (x : Bts) (h1 : Sl w v1 x) (h2 : Sl w v2 x) (hx : x.length ≤ 4194304) :
    Calls Tryz.prog 27 #[v1, v2] w fun e w' => e = .returned (.bool true) ∧ ∃ m, w' = w.drewN m := by
  obtain ⟨A1, c1, rfl, hc1⟩ := h1.form
  obtain ⟨A2, c2, rfl, hc2⟩ := h2.form
  have H := Lib.hid (And.intro h1 h2)
  generalize hN : x.length = N at *
  have HN := Lib.hid hN
  have b1 : (((N : Nat) : Int) != (N : Int)) = false := by simp
  clear h1 h2 hN hc1 hc2
  go_enter Tryz.func27, Tryz.ntmps27
  go_wp2_with fail
  go_loopw [5] (fun i wr => ∃ k m : Nat, k ≤ N ∧ i = I k ∧ wr = w.drewN m) (fun i _ => N - (intOf i).toNat)
  case atStart => exact ⟨0, 0, Nat.zero_le _, rfl, rfl⟩
  case round =>
    obtain ⟨k, m, hk, rfl, rfl⟩ := hrel
    by_cases hlt : k < N
    · have hd : decide ((k : Int) < (N : Int)) = true := by simp; omega
      obtain ⟨g1, o1, c1', e1, _, _, k1⟩ := H.out.1.cells_at (by rw [HN.out]; omega)
      obtain ⟨g2, o2, c2', e2, _, _, k2⟩ := H.out.2.cells_at (by rw [HN.out]; omega)
      injection e1 with e1; injection e2 with e2
      subst e1; subst e2
      have q1 : w.cell? ⟨g1, o1 + k, none⟩ = some (B (x[k]'(by rw [HN.out]; exact hlt))) := k1 k (by rw [HN.out]; exact hlt)
      have q2 : w.cell? ⟨g2, o2 + k, none⟩ = some (B (x[k]'(by rw [HN.out]; exact hlt))) := k2 k (by rw [HN.out]; exact hlt)
      generalize x[k]'(by rw [HN.out]; exact hlt) = y at *
      have i1 : (k : Int) < (N : Int) := by omega
      simp only [B] at q1 q2
      clear k1 k2
      go_wp2_with fail
      go_quiet (fail)
      go_wp2_with fail
      go_roundw
      case rel => exact ⟨k + 1, _, by omega, by go_num, rfl⟩
      case measure => simp [intOf]; omega
    · have hd : decide ((k : Int) < (N : Int)) = false := by simp; omega
      go_wp2_with fail
      go_ret
      exact ⟨rfl, _, rfl⟩
/-- the law's page of a byte -/
def pageL (b : Int) : Bts := (List.range 512).map fun i : Nat => UInt8.ofNat ((b + ((i % 7 : Nat) : Int)) % 256).toNat
theorem length_pageL (b : Int) : (pageL b).length = 512 := by simp [pageL]
theorem set_mix {α : Type} (p z : List α) (k : Nat) (hp : k < p.length) (hz : k < z.length) (y : α) (hy : y = p[k]) : (p.take k ++ z.drop k).set k y = p.take (k + 1) ++ z.drop (k + 1) := by
  have h1 : (p.take k).length = k := by rw [List.length_take]; omega
  rw [List.set_append_right _ _ (by omega), h1, Nat.sub_self, List.drop_eq_getElem_cons hz, List.set_cons_zero, hy, List.take_succ_eq_append_getElem hp, List.append_assoc]
  rfl
theorem byte_int (z : Int) : (((z % 256).toNat % 2 ^ 8 : Nat) : Int) = z % 256 := by omega
theorem wrap_byte (z : Int) : wrap64 z % 256 = z % 256 := by unfold wrap64; omega
theorem B_byte (z : Int) (y : UInt8) (h : y = UInt8.ofNat (z % 256).toNat) : B y = .int .u8 (wrap64 z % 256) := by
  subst h
  unfold B
  rw [UInt8.toNat_ofNat', wrap_byte]
  exact congrArg (Value.int .u8) (byte_int z)
theorem pageL_get (b : Int) (k : Nat) (hk : k < 512) : B ((pageL b)[k]'(by rw [length_pageL]; exact hk)) = .int .u8 (wrap64 (b + (k : Int) % 7) % 256) := by
  refine B_byte (b + (k : Int) % 7) _ ?_
  have h2 : ((k % 7 : Nat) : Int) = (k : Int) % 7 := by omega
  rw [← h2]
  simp [pageL]
theorem OwnB.store {w : World} {g n c : Nat} {l : Bts} (h : OwnB w (.slice (some ⟨g, 0, none⟩) n c) l) (k : Nat) (_hk : k < n) (y : UInt8) : OwnB (w.setCell ⟨g, k, none⟩ (B y)) (.slice (some ⟨g, 0, none⟩) n c) (l.set k y) := by
  rcases h with ⟨e, _⟩ | ⟨g', cap, cur, e, hb, h1, h2, h3, h4⟩
  · cases e
  · injection e with e1 e2 e3
    injection e1 with e1; injection e1 with e1
    subst e1; subst e2; subst e3
    refine .inr ⟨g, c, _, by rw [List.length_set], hb.set_ k (B y), by rw [List.length_set]; exact h1, by simpa using h2, h3, ?_⟩
    rw [List.length_set, Array.toList_setIfInBounds, List.map_set, ← h4]
    exact List.take_set ..
set_option maxHeartbeats 1000000 in
set_option maxRecDepth 100000 in
theorem page12_any (w : World) (b : Int) :
    Calls Tryz.prog 24 #[I b] w fun e w' => ∃ v, e = .returned v ∧ v = .slice (some ⟨w.heap.size, 0, none⟩) 512 512 ∧ OwnB w' v (pageL b) ∧ Chg Non w w' := by
  obtain ⟨Z, hmk, hown⟩ := make_page w
  obtain ⟨w1, hw1⟩ : ∃ w1, w1 = w.alloc (.cells Z 5) := ⟨_, rfl⟩
  rw [← hw1] at hmk hown
  have cw : Chg Non w w1 := by rw [hw1]; exact (Chg.refl _ w).alloc _
  have H := Lib.hid (And.intro hown cw)
  clear hw1 hown cw
  go_enter Tryz.func24, Tryz.ntmps24
  go_wp2_with fail
  go_loopw [4] (fun i wr => ∃ k : Nat, k ≤ 512 ∧ i = I k ∧ OwnB wr (.slice (some ⟨w.heap.size, 0, none⟩) 512 512) ((pageL b).take k ++ zpage.drop k) ∧ Chg (fun g => g = w.heap.size) w1 wr) (fun i _ => 512 - (intOf i).toNat)
  case atStart => exact ⟨0, Nat.zero_le _, rfl, by simpa using H.out.1, Chg.refl _ _⟩
  case round =>
    obtain ⟨k, hk, rfl, ho, hc⟩ := hrel
    by_cases hlt : k < 512
    · have hcell : wr.frozen? ⟨w.heap.size, k, none⟩ = false ∧ ∃ u, wr.cell? ⟨w.heap.size, k, none⟩ = some u := by
        rcases ho with ⟨e, _⟩ | ⟨g', cap, cur, e, hb', h1, h2, h3, h4⟩
        · cases e
        · injection e with e1 e2 e3
          injection e1 with e1; injection e1 with e1
          subst e1; subst e3
          exact ⟨hb'.frozen k, cur[k]'(by omega), by rw [hb'.cell]; simp⟩
      obtain ⟨hf, u, hcell⟩ := hcell
      have HO := Lib.hid (ho.store k hlt ((pageL b)[k]'(by rw [length_pageL]; exact hlt)))
      rw [pageL_get b k hlt, set_mix _ _ k (by rw [length_pageL]; exact hlt) (by rw [length_zpage]; exact hlt) _ rfl] at HO
      have HC := Lib.hid hc
      clear ho hc
      go_wp2_with fail
      exact ⟨⟨k + 1, by omega, by go_num, HO.out, Chg.setCell (S := fun g => g = w.heap.size) (p := ⟨w.heap.size, k, none⟩) HC.out (.inl rfl) _⟩, by simp [intOf]; omega⟩
    · obtain rfl : k = 512 := by omega
      go_wp2_with fail
      go_ret
      refine ⟨_, rfl, rfl, ?_, H.out.2.trans hc fun g hg => .inr (by rw [hg]; exact Nat.le_refl _)⟩
      have e : (pageL b).take 512 ++ zpage.drop 512 = pageL b := by
        rw [List.take_of_length_le (by rw [length_pageL]; exact Nat.le_refl _), List.drop_of_length_le (by rw [length_zpage]; exact Nat.le_refl _), List.append_nil]
      rw [e] at ho
      exact ho
end Go.Proofs.YtamhjjagjjdmoaaGreat
end

section
namespace Go.Proofs.YtamhjjagjjdmoaaGreat
open Go.RowKit Go.Maps Go.Shelf Go.Sort

/-- v reads as a list of pages, all in blocks of K, which do not change -/
def RowW (w : World) (K : Nat → Prop) (v : Value) (V : List Bts) : Prop := ∃ xs : List Value, w.ownsRow 0 48 1 v V.length xs ∧ (∀ g, v.ownBlock = some g → K g) ∧ All2 (PgV w K) xs V
theorem All2.append {α β : Type} {R : α → β → Prop} : ∀ {a a' : List α} {b b' : List β}, All2 R a b → All2 R a' b' → All2 R (a ++ a') (b ++ b')
  | [], _, [], _, _, h => h
  | _ :: _, _, _ :: _, _, ⟨h, t⟩, h' => ⟨h, All2.append t h'⟩
theorem All2.set_ {α β : Type} {R : α → β → Prop} : ∀ {a : List α} {b : List β} (n : Nat) {x : α} {y : β}, All2 R a b → R x y → All2 R (a.set n x) (b.set n y)
  | [], [], _, _, _, _, _ => True.intro
  | _ :: _, _ :: _, 0, _, _, ⟨_, t⟩, h => ⟨h, t⟩
  | _ :: _, _ :: _, n + 1, _, _, ⟨h1, t⟩, h => ⟨h1, All2.set_ n t h⟩
theorem All2.get {α β : Type} {R : α → β → Prop} : ∀ {a : List α} {b : List β} (n : Nat) (h1 : n < a.length) (h2 : n < b.length), All2 R a b → R a[n] b[n]
  | [], _, _, h1, _, _ => by simp at h1
  | _ :: _, [], _, _, h2, _ => by simp at h2
  | _ :: _, _ :: _, 0, _, _, ⟨h, _⟩ => h
  | _ :: _, _ :: _, n + 1, h1, h2, ⟨_, t⟩ => All2.get n (by simpa using h1) (by simpa using h2) t
section
variable {w w' : World} {K K' S : Nat → Prop} {v : Value} {V : List Bts}
theorem RowW.chg (h : RowW w K v V) (c : Chg S w w') (hn : ∀ g, K g → ¬ S g) : RowW w' K v V := by
  obtain ⟨xs, h1, h2, h3⟩ := h
  exact ⟨xs, World.ownsRow.keep_ h1 fun g hg => c.block g (World.ownsRow.lt h1 g hg).2 (hn g (h2 g hg)), h2, All2.imp' h3 fun x y hxy => hxy.chg c hn⟩
theorem RowW.mono (h : RowW w K v V) (hK : ∀ g, K g → K' g) : RowW w K' v V := by
  obtain ⟨xs, h1, h2, h3⟩ := h
  exact ⟨xs, h1, fun g hg => hK g (h2 g hg), All2.imp' h3 fun x y hxy => hxy.mono hK⟩
theorem RowW.nil (w : World) (K : Nat → Prop) : RowW w K (.slice none 0 0) [] := ⟨[], ⟨rfl, .inl ⟨rfl, rfl⟩⟩, fun g hg => by simp [Value.ownBlock] at hg, True.intro⟩
theorem RowW.form (h : RowW w K v V) : ∃ A c, v = .slice A V.length c ∧ V.length ≤ c := by
  obtain ⟨xs, h1, _⟩ := h
  exact ownsRow_form h1
/-- an element -/
theorem RowW.at (h : RowW w K v V) (n : Nat) (hn : n < V.length) : ∃ g c x, v = .slice (some ⟨g, 0, none⟩) V.length c ∧ w.cell? ⟨g, n, none⟩ = some x ∧ PgV w K x V[n] := by
  obtain ⟨xs, h1, h2, h3⟩ := h
  obtain ⟨g, c, cur, rfl, _, hb, hc⟩ := ownsRow_some h1 (by omega)
  have hl := All2.length h3
  refine ⟨g, c, xs[n]'(by omega), rfl, ?_, All2.get n (by omega) hn h3⟩
  rw [hb.cell, hc n (by omega)]
end
theorem ownsRow_base {w : World} {base : Nat} {t : TypeId} {sz : Nat} {v : Value} {n : Nat} {xs : List Value} (h : w.ownsRow base t sz v n xs) : w.ownsRow 0 t sz v n xs := by
  refine ⟨h.1, h.2.imp id ?_⟩
  rintro ⟨g, cap, cur, h1, _, h2⟩
  exact ⟨g, cap, cur, h1, Nat.zero_le _, h2⟩
theorem oneSl {w : World} {K : Nat → Prop} {xs : List Value} {V : List Bts} (h : All2 (PgV w K) xs V) : ∀ u ∈ xs, u.oneCell' = true := by
  intro u hu
  obtain ⟨n, hn, rfl⟩ := List.getElem_of_mem hu
  have := (All2.get n hn (by rw [← All2.length h]; exact hn) h).1
  rcases this with ⟨e, _⟩ | ⟨g, o, c, e, _⟩ <;> rw [e] <;> rfl
theorem infoSl : (Tryz.prog.info? 48).map (fun i => (i.zero, i.size, i.bytes)) = some (some (.slice none 0 0), 1, 24) := by kernel_rfl

/-- append(own row, another row...) -/
theorem appendRow (w : World) (ty : TypeId) (base : Nat) (v : Value) (n : Nat) (xs : List Value) (hown : w.ownsRow base 48 1 v n xs) (hb : base ≤ w.heap.size) (sv : Value) (m : Nat) (ys : List Value) (hs : w.ownsRow 0 48 1 sv m ys) (h1 : ∀ u ∈ ys, u.oneCell' = true) (hm : n + m ≤ 100000) :
    ∃ v' w', (Builtin.append_ #[32, 32] ty #[v, sv]).run Tryz.prog w = .ok v' w' ∧ w'.ownsRow base 48 1 v' (n + m) (xs ++ ys) ∧ w.grownBy w' v.ownBlock ∧ (v'.ownBlock = v.ownBlock ∨ v'.ownBlock = some w.heap.size) := by
  obtain ⟨i, hi, hz, hsize, hby⟩ := info_parts infoSl
  rcases hs.2 with ⟨rfl, rfl⟩ | ⟨g, cap, cur, rfl, _, hg, hnc, hcm, hcs, ht⟩
  · obtain rfl : ys = [] := List.eq_nil_of_length_eq_zero (by have := hs.1; omega)
    obtain ⟨A, c, rfl, hc⟩ := ownsRow_form hown
    refine ⟨_, w, ?_, by simpa using hown, World.grownBy.refl _ _, .inl rfl⟩
    have ht := Tryz.underlying32
    cases A <;> simp [Builtin.append_, run_underlying ht, sizeOf, typeInfo, hi, Builtin.lenOf, hc, storeCells, Builtin.firstCells, loadCells]
  · obtain ⟨v', w', hr, k1, k2, _, k3⟩ := run_append_own_at (P := Tryz.prog) w base 32 ty 48 i (.slice none 0 0) 1 24 Tryz.underlying32 hi hz hsize hby rfl (by omega) v n xs hown ⟨g, 0, none⟩ m cap ys hs.1
      (fun j u hj => by
        rw [addr_add, Nat.zero_add, cell_of_row w g j cur _ _ hg]
        rw [← ht, List.getElem?_take] at hj
        split at hj
        · simpa using hj
        · cases hj) h1 (by unfold maxLen; omega) (by omega) hb
    exact ⟨v', w', hr, k1, k2, k3⟩
theorem make_page' (w : World) : ∃ Z, (Instr.makeSlice 48 (I 512) (I 512)).run Tryz.prog w = .ok (.slice (some ⟨w.heap.size, 0, none⟩) 512 512) (w.alloc (.cells Z 5)) ∧ OwnB (w.alloc (.cells Z 5)) (.slice (some ⟨w.heap.size, 0, none⟩) 512 512) zpage := make_page w

/-- blocks of pages of a row that is being made -/
def rowF (K : Nat → Prop) (w : World) (m : Value) : Nat → Prop := fun g => (K g ∧ g < w.heap.size) ∨ (w.heap.size ≤ g ∧ m.ownBlock ≠ some g)
def newK (K : Nat → Prop) (w w' : World) : Nat → Prop := fun g => K g ∨ (w.heap.size ≤ g ∧ g < w'.heap.size)

set_option maxHeartbeats 1000000 in
set_option maxRecDepth 100000 in
theorem put12_any (w : World) (K : Nat → Prop) (v : Value) (V : List Bts) (h : RowW w K v V) (hV : V.length ≤ 4096) (n : Nat) (hn : n < 4096) (vx : Value) (x : Bts) (hx : PgV w K vx x) :
    Calls Tryz.prog 25 #[v, I n, vx] w fun e w' => ∃ v', e = .returned v' ∧ RowW w' (newK K w w') v' (putV V n x) ∧ Chg Non w w' := by
  obtain ⟨xs, hr, hk, ha⟩ := h
  obtain ⟨w1, hw1⟩ : ∃ w1, w1 = w.alloc (.cells #[] 48) := ⟨_, rfl⟩
  have cw : Chg Non w w1 := by rw [hw1]; exact (Chg.refl _ w).alloc _
  have o1 : w1.ownsRow w.heap.size 48 1 (.slice (some ⟨w.heap.size, 0, none⟩) 0 0) 0 [] := by rw [hw1]; exact World.ownsRow_lit w #[] 0 (Nat.le_refl _) (by simp [maxLen]) rfl
  have hr1 : w1.ownsRow 0 48 1 v V.length xs := World.ownsRow.keep_ hr fun g hg => cw.block g (World.ownsRow.lt hr g hg).2 id
  obtain ⟨v2, w2, hrun, o2, g2, e2⟩ := appendRow w1 32 w.heap.size _ 0 [] o1 cw.size v V.length xs hr1 (oneSl ha) (by omega)
  rw [List.nil_append, Nat.zero_add] at o2
  have c2 : Chg Non w w2 := (cw.mono (S' := Non) fun _ hf => hf.elim).trans (Chg.grown (S := fun g => g = w.heap.size) (Chg.refl _ w1) g2 fun g hg => .inl (by simp [Value.ownBlock] at hg; exact hg.symm)) fun g hg => .inr (by rw [hg]; exact Nat.le_refl _)
  have b2 : ∀ g, v2.ownBlock = some g → w.heap.size ≤ g := fun g hg => (World.ownsRow.lt o2 g hg).1
  obtain ⟨A2, cp2, rfl, _⟩ := ownsRow_form o2
  have RUN := Lib.hid hrun
  rw [hw1] at RUN
  have H := Lib.hid (And.intro o2 (And.intro c2 (And.intro b2 (And.intro ha (And.intro hx hV)))))
  obtain ⟨A0, cp0, rfl, _⟩ := ownsRow_form hr
  obtain ⟨Ax, cx, rfl, _⟩ := hx.1.form
  generalize hN : V.length = N at *
  have HN := Lib.hid hN
  clear hr hk hw1 cw o1 hr1 hrun o2 g2 e2 c2 b2 ha hx hN
  go_enter Tryz.func25, Tryz.ntmps25
  go_wp2_with (at_builtin; refine Lib.wpList_append_run _ rfl (.tmp 8) (.tmp 9) _ _ rfl _ _ rfl rfl _ _ RUN.out ?_)
  go_loopw [7] (fun m wr => ∃ (p : Nat) (A : Option Addr) (cp : Nat) (ys : List Value), m = .slice A p cp ∧ N ≤ p ∧ p ≤ max N (n + 1) ∧ wr.ownsRow w.heap.size 48 1 m p ys ∧ All2 (PgV wr (rowF K w m)) ys (V ++ List.replicate (p - N) zpage) ∧ Chg Non w wr) (fun m _ => n + 1 - (match m with | .slice _ l _ => l | _ => 0))
  case atStart =>
    obtain ⟨o2, c2, b2, ha, hx, hV⟩ := H.out
    exact ⟨N, A2, cp2, xs, rfl, Nat.le_refl _, by omega, o2, by rw [Nat.sub_self, List.replicate_zero, List.append_nil]; exact All2.imp' ha fun u y huy => ⟨huy.1.chg c2 fun _ _ => id, fun g hg => ⟨.inl (huy.2 g hg), Nat.lt_of_lt_of_le (huy.2 g hg).2 c2.size⟩⟩, c2⟩
  case round =>
    obtain ⟨p, A, cp, ys, rfl, hNp, hp, ho, hall, hc⟩ := hrel
    by_cases hlt : p ≤ n
    · have hd : decide ((p : Int) ≤ (n : Int)) = true := by simp; omega
      obtain ⟨Z, hmk, hown⟩ := make_page wr
      obtain ⟨w3, hw3⟩ : ∃ w3, w3 = wr.alloc (.cells Z 5) := ⟨_, rfl⟩
      obtain ⟨w4, hw4⟩ : ∃ w4, w4 = w3.alloc (.cells #[.slice (some ⟨wr.heap.size, 0, none⟩) 512 512] 48) := ⟨_, rfl⟩
      rw [← hw3] at hown
      have s3 : w3.heap.size = wr.heap.size + 1 := by rw [hw3]; simp
      have s4 : w4.heap.size = wr.heap.size + 1 + 1 := by rw [hw4]; simp [s3]
      have c3 : Chg Non wr w3 := by rw [hw3]; exact (Chg.refl _ wr).alloc _
      have c4 : Chg Non w3 w4 := by rw [hw4]; exact (Chg.refl _ w3).alloc _
      have c34 := c3.tr c4
      have ho4 : w4.ownsRow w.heap.size 48 1 (.slice A p cp) p ys := World.ownsRow.keep_ ho fun g hg => c34.block g (World.ownsRow.lt ho g hg).2 id
      have hs4 : w4.ownsRow 0 48 1 (.slice (some ⟨wr.heap.size + 1, 0, none⟩) 1 1) 1 [.slice (some ⟨wr.heap.size, 0, none⟩) 512 512] := by
        rw [hw4, ← s3]; exact World.ownsRow_lit w3 _ 1 (Nat.zero_le _) (by simp [maxLen]) rfl
      obtain ⟨v5, w5, hrun, o5, g5, e5⟩ := appendRow w4 32 w.heap.size _ p ys ho4 (Nat.le_trans hc.size (by omega)) _ 1 _ hs4 (by intro u hu; simp at hu; rw [hu]; rfl) (by omega)
      obtain ⟨A5, cp5, rfl, _⟩ := ownsRow_form o5
      have c5 : Chg (fun g => (Value.slice A p cp).ownBlock = some g) w4 w5 := Chg.grown (S := fun g => (Value.slice A p cp).ownBlock = some g) (Chg.refl _ w4) g5 fun g hg => .inl hg
      have hbk : ∀ g, (Value.slice A p cp).ownBlock = some g → w.heap.size ≤ g := fun g hg => (World.ownsRow.lt ho g hg).1
      have hF : ∀ g, rowF K w (.slice A p cp) g → (Value.slice A p cp).ownBlock ≠ some g := fun g hg e => by
        rcases hg with hg | hg
        · have := hbk g e; omega
        · exact hg.2 e
      have hA : ∀ y z, PgV w4 (rowF K w (.slice A p cp)) y z → PgV w5 (rowF K w (.slice A5 (p + 1) cp5)) y z := fun y z hyz => by
        have h5 := hyz.chg c5 hF
        refine ⟨h5.1, fun g hg => ⟨?_, (h5.2 g hg).2⟩⟩
        rcases (h5.2 g hg).1 with e | e
        · exact .inl e
        · refine .inr ⟨e.1, fun e2 => ?_⟩
          rcases e5 with e5 | e5
          · exact e.2 (by rw [← e5]; exact e2)
          · rw [e5] at e2
            have := (hyz.2 g hg).2
            have := Option.some.inj e2
            omega
      have FIN : Hid (w5.ownsRow w.heap.size 48 1 (.slice A5 (p + 1) cp5) (p + 1) (ys ++ [.slice (some ⟨wr.heap.size, 0, none⟩) 512 512]) ∧ All2 (PgV w5 (rowF K w (.slice A5 (p + 1) cp5))) (ys ++ [.slice (some ⟨wr.heap.size, 0, none⟩) 512 512]) (V ++ List.replicate (p + 1 - N) zpage) ∧ Chg Non w w5) := by
        refine ⟨o5, ?_, (hc.tr c34).trans c5 fun g hg => .inr (hbk g hg)⟩
        rw [show p + 1 - N = (p - N) + 1 by omega, List.replicate_succ', ← List.append_assoc]
        refine All2.append (All2.imp' hall fun y z hyz => hA y z (hyz.chg c34 fun _ _ => id)) ⟨hA _ _ ⟨hown.sl.chg c4 fun _ _ => id, fun g hg => ?_⟩, True.intro⟩
        simp [Value.ownBlock] at hg
        subst hg
        exact ⟨.inr ⟨hc.size, fun e => by have := (World.ownsRow.lt ho _ e).2; omega⟩, by omega⟩
      have RUN := Lib.hid hrun
      rw [hw4, hw3] at RUN
      clear hw3 hw4 hown s3 s4 c3 c4 c34 ho4 hs4 hrun o5 g5 e5 c5 hbk hF hA ho hall hc
      have b1 : (p : Int) < 100000 := by omega
      go_wp2_with (at_builtin; refine Lib.wpList_append_run _ rfl (.tmp 15) (.tmp 17) _ _ rfl _ _ rfl rfl _ _ RUN.out ?_)
      go_roundw
      case rel => exact ⟨p + 1, A5, cp5, _, rfl, by omega, by omega, FIN.out⟩
      case measure => simp only; omega
    · have hd : decide ((p : Int) ≤ (n : Int)) = false := by simp; omega
      obtain ⟨g, c', cur, e, hbg, hblk, hcur⟩ := ownsRow_some ho (by omega)
      injection e with e1 e2 e3
      subst e1; subst e3
      have hl := ho.1
      rw [Nat.mul_one] at hl
      have hcell : wr.cell? ⟨g, n, none⟩ = some (ys[n]'(by omega)) := by rw [hblk.cell, hcur n (by omega)]
      have hf : wr.frozen? ⟨g, n, none⟩ = false := hblk.frozen n
      obtain ⟨u0, hu0⟩ : ∃ u0, u0 = ys[n]'(by omega) := ⟨_, rfl⟩
      rw [← hu0] at hcell
      have i1 : (n : Int) < (p : Int) := by omega
      obtain ⟨w5, hw5⟩ : ∃ w5, w5 = wr.setCell ⟨g, n, none⟩ (.slice Ax x.length cx) := ⟨_, rfl⟩
      have st := World.ownsRow.stored ho n (.slice Ax x.length cx)
      rw [← hw5] at st
      have FIN : Hid (RowW w5 (newK K w w5) (.slice (some ⟨g, 0, none⟩) p cp) (putV V n x) ∧ Chg Non w w5) := by
        obtain ⟨_, _, _, ha, hx, hV⟩ := H.out
        have c5 : Chg (fun b => b = g) wr w5 := Chg.grown (S := fun b => b = g) (Chg.refl _ wr) st.2 fun k hk => .inl (Option.some.inj hk).symm
        have cA : Chg Non w w5 := hc.trans c5 fun b hb => .inr (by rw [hb]; exact hbg)
        have hlen : (putV V n x).length = p := by rw [length_putV, HN.out]; omega
        have hsz : wr.heap.size ≤ w5.heap.size := c5.size
        have hgl := hblk.lt
        refine ⟨⟨_, by rw [hlen]; exact ownsRow_base st.1, fun b hb => ?_, ?_⟩, cA⟩
        · simp [Value.ownBlock] at hb; subst hb
          exact .inr ⟨hbg, by omega⟩
        · have hVp : putV V n x = (V ++ List.replicate (p - N) zpage).set n x := by
            unfold putV
            rw [HN.out]
            by_cases hNn : N ≤ n
            · rw [show p - N = n + 1 - N by omega]
            · rw [show p - N = n + 1 - N by omega]
          rw [hVp]
          refine All2.set_ n (All2.imp' hall fun y z hyz => ?_) ?_
          · have h5 := hyz.chg c5 fun b hb e => by
              rcases hb with hb | hb
              · omega
              · exact hb.2 (by rw [e]; rfl)
            refine ⟨h5.1, fun b hb => ⟨?_, (h5.2 b hb).2⟩⟩
            rcases (h5.2 b hb).1 with e | e
            · exact .inl e.1
            · exact .inr ⟨e.1, (h5.2 b hb).2⟩
          · exact ⟨hx.1.chg cA fun _ _ => id, fun b hb => ⟨.inl (hx.2 b hb).1, Nat.lt_of_lt_of_le (hx.2 b hb).2 cA.size⟩⟩
      rw [hw5] at FIN
      clear hw5 st ho hall hc hblk hcur hbg hu0 hl e2
      go_wp2_with fail
      go_ret
      exact ⟨_, rfl, FIN.out⟩
end Go.Proofs.YtamhjjagjjdmoaaGreat
end

section
namespace Go.Proofs.YtamhjjagjjdmoaaGreat
open Go.RowKit Go.Maps Go.Shelf Go.Sort

theorem lvOk_zero : LvOk fun _ => 0 := fun _ => ⟨Int.le_refl 0, by show (0 : Int) ≤ 4; decide⟩
/-- what Open leaves: a pager alone -/
def OpenPost (w : World) (bd : Nat) (G : DG) (V : List Bts) (L : LogL) (mode : Int) (e : Ending) (w' : World) : Prop :=
  ∃ M' V' L' s bp bl G', e = .returned (ptr bp) ∧ Store M' V' L' ∧ doneV V' L' = doneV V L ∧ (mode = 1 → L' = []) ∧ logSz L' ≤ logSz L ∧ Sys w' bp bd bl M' G' { newP mode 0 with sure := s } (newR bp) (fun _ => 0) ∧ Chg G.F w w' ∧ (∀ b, G'.F b → G.F b ∨ w.heap.size ≤ b) ∧ w.heap.size ≤ bp ∧ w.heap.size ≤ bl

set_option maxHeartbeats 1000000 in
set_option maxRecDepth 100000 in
theorem open12_ok (w : World) (bd : Nat) (M : DiskM) (G : DG) (h : DiskAt w bd M G) (mode : Int) (hm : mode = 1 ∨ mode = 2) (V : List Bts) (L : LogL) (hS : Store M V L) :
    Calls Tryz.prog 33 #[ptr bd, I mode] w (OpenPost w bd G V L mode) := by
  have OP : Hid (∀ w1 bl, Chg Non w w1 → w.heap.size ≤ bl → Blk w1 bl 135 (lvls fun _ => 0) → Calls Tryz.prog 19 #[ptr bd, I mode, ptr bl, I 0] w1 fun e w' => ∃ bp, e = .returned (.tuple #[ptr bp, I 0]) ∧ OpenPost w bd G V L mode (.returned (ptr bp)) w') := by
    intro w1 bl c1 hbl hl
    have hgl : ¬ G.F bl := fun e => by have := h.olt bl e; omega
    obtain ⟨M', V', L', s, k1, k2, k3, k4, C⟩ := open_ok w1 bd bl M G (h.chg c1 fun _ _ => id) (fun _ => 0) hl lvOk_zero hgl mode hm 0 (by decide) V L hS
    refine Calls.mono C ?_
    rintro e w' ⟨G', rfl, q1, q2, q3⟩
    have s1 := c1.size
    exact ⟨w1.heap.size, rfl, M', V', L', s, w1.heap.size, bl, G', rfl, k1, k2, k3, k4, q1, (c1.mono fun _ hf => hf.elim).tr q2, fun b hb => (q3 b hb).imp id fun e => by omega, s1, hbl⟩
  clear h hm hS
  go_enter Tryz.func33, Tryz.ntmps33
  go_wp2_with (first | (go_at_call 17; refine (locksNew_any _).mono ?_; rintro e w1 ⟨rfl, h1, h2⟩; have O := Lib.hid (OP.out w1 _ h2 (Nat.le_refl _) h1); clear h1 h2) | (go_at_call 19; refine O.out.mono ?_; rintro e w2 ⟨bp, rfl, h1⟩; have F := Lib.hid h1; clear h1) | (go_at_call 18; refine (num_any _ _).mono ?_; rintro e w' ⟨rfl, hw'⟩; have hw2 := hw'.symm; subst hw2))
  go_ret
  exact F.out

/-- what same leaves -/
def SamePost (w : World) (bp bd bl : Nat) (G : DG) (P : PagerM) (R : Nat → Nat) (Lk : Nat → Int) (V : List Bts) (L : LogL) (e : Ending) (w' : World) : Prop :=
  ∃ M' V' L' P' G' R', e = .returned (.bool true) ∧ Store M' V' L' ∧ doneV V' L' = doneV V L ∧ (P.mode = 1 → L' = []) ∧ logSz L' ≤ logSz L ∧ Idle P' ∧ P'.c = P.c ∧ P'.mode = P.mode ∧ P'.next = P.next ∧ Sys w' bp bd bl M' G' P' R' (lowerM (raiseM Lk P.c 1).2 P.c) ∧
    Chg (fun b => G.F b ∨ R b ≠ 0 ∨ b = bl) w w' ∧ (∀ b, G'.F b → G.F b ∨ w.heap.size ≤ b) ∧ (∀ b, R' b ≠ 0 → R b ≠ 0 ∨ w.heap.size ≤ b)

set_option maxHeartbeats 2000000 in
set_option maxRecDepth 100000 in
theorem same_ok (w : World) (bp bd bl : Nat) (M : DiskM) (G : DG) (P : PagerM) (R : Nat → Nat) (Lk : Nat → Int) (h : Sys w bp bd bl M G P R Lk) (hi : Idle P) (V : List Bts) (L : LogL) (hS : Store M V L) (hb : (raiseM Lk P.c 1).1 = 0)
    (K : Nat → Prop) (v : Value) (hv : RowW w K v (doneV V L)) (hK : ∀ g, K g → ¬ (G.F g ∨ R g ≠ 0 ∨ g = bl)) :
    Calls Tryz.prog 31 #[ptr bp, v] w (SamePost w bp bd bl G P R Lk V L) := by
  obtain ⟨M', V', L', P', h1, h2, h3, h4, hI, hw, hmk, hc, hm, hnx, B⟩ := begin_calm w bp bd bl M G P R Lk h hi V L hS hb
  have BG : Hid (Calls Tryz.prog 22 #[ptr bp] w fun e w' => e = .returned (I 0) ∧ ∃ G1 R1, Sys w' bp bd bl M' G1 P' R1 (raiseM Lk P.c 1).2 ∧ Chg (fun b => G.F b ∨ R b ≠ 0 ∨ b = bl) w w' ∧ (∀ b, G1.F b → G.F b ∨ w.heap.size ≤ b) ∧ (∀ b, R1 b ≠ 0 → R b ≠ 0 ∨ w.heap.size ≤ b)) := by
    refine B.mono ?_
    intro e w' hq
    obtain ⟨G1, R1, rfl, q⟩ := h.of_post hq (h.lok.raise _ _) hc hm
    exact ⟨rfl, G1, R1, q⟩
  have HV := Lib.hid (And.intro hv hK)
  have HI := Lib.hid (And.intro hI (And.intro h1 (And.intro h2 (And.intro h3 (And.intro h4 (And.intro hc (And.intro hm hnx)))))))
  have hD := hS.dlen
  have hcnt := hI.ecount
  obtain ⟨A, cp, rfl, hcp⟩ := hv.form
  generalize hN : (doneV V L).length = N at *
  have HN := Lib.hid hN
  have HC := Lib.hid hcnt
  clear h hi hS hb hv hK B h1 h2 h3 h4 hI hw hmk hc hm hnx hN hcnt
  have beq : ((N : Int) == (N : Int)) = true := by simp
  go_enter Tryz.func31, Tryz.ntmps31
  go_wp2_with (first | (go_at_call 22; refine BG.out.mono ?_; rintro e w1 ⟨rfl, G1, R1, q1, q2, q3, q4⟩; have Q := Lib.hid (And.intro q1 (And.intro q2 (And.intro q3 q4))); clear q1 q2 q3 q4) | (go_at_call 28; refine (count_any _ bp bd bl P' _ Q.out.1.p).mono ?_; rintro e w' ⟨rfl, hw'⟩; have hw2 := hw'.symm; subst hw2; rw [HC.out]) | (go_at_call 18; refine (num_any _ _).mono ?_; rintro e w' ⟨rfl, hw'⟩; have hw2 := hw'.symm; subst hw2))
  go_loopw [5, 6] (fun ok i wr => ∃ k : Nat, k ≤ N ∧ ok = .bool true ∧ i = I k ∧ Chg Non w1 wr) (fun _ i _ => N - (intOf i).toNat)
  case atStart => exact ⟨0, Nat.zero_le _, rfl, rfl, Chg.refl _ _⟩
  case round =>
    obtain ⟨k, hk, rfl, rfl, hch⟩ := hrel
    have HH := Lib.hid hch
    by_cases hlt : k < N
    · have hd : decide ((k : Int) < (N : Int)) = true := by simp; omega
      obtain ⟨hI, _⟩ := HI.out
      have hpx : (pgV (doneV V L) [] k) = (doneV V L)[k]'(by rw [HN.out]; exact hlt) := by
        simp only [pgV, pfind, List.find?_nil, Option.map_none, Option.getD_none]
        exact getD_lt _ _ _
      have RD := read_any wr bp bd bl P' R1 (by
        obtain ⟨_, _, _, _, hp⟩ := Q.out.1.p
        exact ⟨_, _, _, _, hp.chg hch fun _ _ => id⟩) (doneV V L) [] _ hI k (by omega)
      rw [hpx] at RD
      have RD := Lib.hid RD
      have cR : Chg (fun b => G.F b ∨ R b ≠ 0 ∨ b = bl) w wr := Q.out.2.1.trans hch fun _ hf => hf.elim
      obtain ⟨g, c', y, e, hcell, hy⟩ := (HV.out.1.chg cR HV.out.2).at k (by rw [HN.out]; exact hlt)
      injection e with e1 e2 e3
      subst e1; subst e3
      have hxl : ((doneV V L)[k]'(by rw [HN.out]; exact hlt)).length = 512 := hI.pgs _ (List.getElem_mem _)
      have HX := Lib.hid (And.intro hy.1 hxl)
      have CE : Hid (∀ w5, Chg Non wr w5 → w5.cell? ⟨g, k, none⟩ = some y) := fun w5 c5 => (c5.cell (a := ⟨g, k, none⟩) (World.block_lt_of_cell? wr _ hcell) id).trans hcell
      generalize (doneV V L)[k]'(by rw [HN.out]; exact hlt) = x at *
      have i1 : (k : Int) < (N : Int) := by omega
      clear hI hpx cR hy hxl hch e2 hcell
      go_wp2_with (first | (go_at_call 26; refine RD.out.mono ?_; rintro e w5 ⟨v5, rfl, h1, h2, _⟩; have hcell5 := CE.out w5 h2; have F5 := Lib.hid (And.intro h1 h2); clear h1 h2) | (go_at_call 18; refine (num_any _ _).mono ?_; rintro e w' ⟨rfl, hw'⟩; have hw2 := hw'.symm; subst hw2) | (go_at_call 27; refine (eqBytes_yes _ _ _ x F5.out.1.sl (HX.out.1.chg F5.out.2 fun _ _ => id) (by have := HX.out.2; omega)).mono ?_; rintro e w6 ⟨rfl, m, rfl⟩))
      go_roundw
      case rel => exact ⟨k + 1, by omega, rfl, by go_num, (HH.out.tr F5.out.2).drewN m⟩
      case measure => simp [intOf]; omega
    · obtain rfl : k = N := by omega
      have hd : decide ((k : Int) < (k : Int)) = false := by simp
      obtain ⟨hI, h1, h2, h3, h4, hc, hm, hnx⟩ := HI.out
      have S2 := Q.out.1.chg hch (fun _ _ => id) (fun _ _ => id) id
      have RB := Lib.hid (rollback_in wr bp bd bl P' R1 S2.p hI.ask _ S2.l S2.lok S2.c4 S2.rl)
      have SS := Lib.hid S2
      clear hI h1 h2 h3 h4 hc hm hnx S2
      go_wp2_with (first | (go_at_call 30; refine RB.out.mono ?_; rintro e w5 ⟨rfl, r1, r2, r3⟩; have F5 := Lib.hid (And.intro r1 (And.intro r2 r3)); clear r1 r2 r3) | (go_at_call 18; refine (num_any _ _).mono ?_; rintro e w' ⟨rfl, hw'⟩; have hw2 := hw'.symm; subst hw2))
      go_ret
      obtain ⟨hI, h1, h2, h3, h4, hc, hm, hnx⟩ := HI.out
      obtain ⟨q1, q2, q3, q4⟩ := Q.out
      obtain ⟨r1, r2, r3⟩ := F5.out
      have S2 := SS.out
      have rbp : R1 bp ≠ 0 := by rw [q1.rbp]; decide
      refine ⟨M', V', L', idleM P', G1, R1, rfl, h1, h2, h3, h4, Idle.of_idle hI.edead, hc, hm, hnx, ⟨S2.d.chg r3 fun b hb e => ?_, r1, by rw [hc] at r2; exact r2, S2.lok.lower _, S2.c4, S2.sep, S2.rl, S2.gl, S2.mode⟩, (q2.trans HH.out fun _ hf => hf.elim).trans r3 fun b hb => ?_, q3, q4⟩
      · rcases e with e | e
        · exact S2.sep b (by rw [e]; exact rbp) hb
        · exact S2.gl (by rw [← e]; exact hb)
      · rcases hb with e | e
        · rcases q4 bp rbp with e2 | e2
          · exact .inl (.inr (.inl (by rw [e]; exact e2)))
          · exact .inr (by rw [e]; exact e2)
        · exact .inl (.inr (.inr e))
end Go.Proofs.YtamhjjagjjdmoaaGreat
end

section
namespace Go.Proofs.YtamhjjagjjdmoaaGreat
open Go.RowKit Go.Maps Go.Shelf Go.Sort

/-- the locks of connection 0 alone -/
def lv1 (v : Int) : Nat → Int := fun k => if k = 0 then v else 0
theorem setL_lv1 (v u : Int) : setL (lv1 v) 0 u = lv1 u := by
  funext k; simp only [setL, lv1]; split <;> rfl
theorem lv1_zero : (fun _ : Nat => (0 : Int)) = lv1 0 := by funext k; simp [lv1]
theorem most_lv1 (v : Int) : mostM (lv1 v) 0 4 = 0 := by simp [mostM, lv1]
theorem raise_lv1_1 : raiseM (lv1 0) 0 1 = (0, lv1 1) := by
  simp only [raiseM, most_lv1, setL_lv1]; simp [lv1]
theorem raise_lv1_2 (b : Bool) : raiseM (lv1 (if b then 2 else 1)) 0 2 = (0, lv1 2) := by
  cases b <;> simp only [raiseM, most_lv1, setL_lv1] <;> simp [lv1]
theorem raise_lv1_4 : raiseM (lv1 2) 0 4 = (0, lv1 4) := by
  simp only [raiseM, most_lv1, setL_lv1]; simp [lv1]
theorem lower_lv1 (v : Int) : lowerM (lv1 v) 0 = lv1 0 := setL_lv1 v 0

/-- the blocks of a pager, its disk, its locks -/
def UOk (U : Nat → Prop) (G : DG) (R : Nat → Nat) (bl : Nat) : Prop := ∀ b, G.F b ∨ R b ≠ 0 ∨ b = bl → U b
/-- no transaction; D is committed -/
def SIdle (w : World) (bp bd : Nat) (U : Nat → Prop) (D : List Bts) (z : Nat) (mode next : Int) : Prop :=
  ∃ bl M G P R V L, Sys w bp bd bl M G P R (lv1 0) ∧ P.c = 0 ∧ P.mode = mode ∧ P.next = next ∧ Idle P ∧ Store M V L ∧ doneV V L = D ∧ logSz L ≤ z ∧ UOk U G R bl
/-- a transaction over D -/
def STx (w : World) (bp bd : Nat) (U : Nat → Prop) (D : List Bts) (own : PgL) (c : Nat) (wrote : Bool) (marks : List MarkM) (z : Nat) (mode next : Int) : Prop :=
  ∃ bl M G P R V L, Sys w bp bd bl M G P R (lv1 (if wrote then 2 else 1)) ∧ P.c = 0 ∧ P.mode = mode ∧ P.next = next ∧ InTx P D own c ∧ P.wrote = wrote ∧ P.marks = marks ∧ Store M V L ∧ doneV V L = D ∧ (mode = 1 → L = []) ∧ logSz L ≤ z ∧ UOk U G R bl
/-- what a call leaves -/
def SPost (w : World) (U : Nat → Prop) (v : Value) (Q : World → (Nat → Prop) → Prop) (e : Ending) (w' : World) : Prop :=
  e = .returned v ∧ Chg U w w' ∧ Q w' (newK U w w')
theorem UOk.grow {U : Nat → Prop} {G G' : DG} {R R' : Nat → Nat} {bl : Nat} {w w' : World} (h : UOk U G R bl) (hG : ∀ b, G'.F b → G.F b ∨ w.heap.size ≤ b) (hR : ∀ b, R' b ≠ 0 → R b ≠ 0 ∨ w.heap.size ≤ b) (hGl : ∀ b, G'.F b → b < w'.heap.size) (hRl : ∀ b, R' b ≠ 0 → b < w'.heap.size) : UOk (newK U w w') G' R' bl := by
  rintro b (hb | hb | hb)
  · rcases hG b hb with e | e
    · exact .inl (h b (.inl e))
    · exact .inr ⟨e, hGl b hb⟩
  · rcases hR b hb with e | e
    · exact .inl (h b (.inr (.inl e)))
    · exact .inr ⟨e, hRl b hb⟩
  · exact .inl (h b (.inr (.inr hb)))
theorem UOk.mono {U U' : Nat → Prop} {G : DG} {R : Nat → Nat} {bl : Nat} (h : UOk U G R bl) (hU : ∀ b, U b → U' b) : UOk U' G R bl := fun b hb => hU b (h b hb)
section
variable {w w' : World} {bp bd : Nat} {U U' S : Nat → Prop} {D : List Bts} {z z' : Nat} {mode next : Int} {own : PgL} {c : Nat} {wrote : Bool} {marks : List MarkM}
theorem SIdle.chg (h : SIdle w bp bd U D z mode next) (k : Chg S w w') (hn : ∀ b, U b → ¬ S b) : SIdle w' bp bd U D z mode next := by
  obtain ⟨bl, M, G, P, R, V, L, h1, h2⟩ := h
  have hu := h2.2.2.2.2.2.2.2
  exact ⟨bl, M, G, P, R, V, L, h1.chg k (fun b hb => hn b (hu b (.inl hb))) (fun b hb => hn b (hu b (.inr (.inl hb)))) (hn bl (hu bl (.inr (.inr rfl)))), h2⟩
theorem STx.chg (h : STx w bp bd U D own c wrote marks z mode next) (k : Chg S w w') (hn : ∀ b, U b → ¬ S b) : STx w' bp bd U D own c wrote marks z mode next := by
  obtain ⟨bl, M, G, P, R, V, L, h1, h2⟩ := h
  have hu := h2.2.2.2.2.2.2.2.2.2.2
  exact ⟨bl, M, G, P, R, V, L, h1.chg k (fun b hb => hn b (hu b (.inl hb))) (fun b hb => hn b (hu b (.inr (.inl hb)))) (hn bl (hu bl (.inr (.inr rfl)))), h2⟩
theorem SIdle.mono (h : SIdle w bp bd U D z mode next) (hU : ∀ b, U b → U' b) (hz : z ≤ z') : SIdle w bp bd U' D z' mode next := by
  obtain ⟨bl, M, G, P, R, V, L, h1, h2, h3, h4, h5, h6, h7, h8, h9⟩ := h
  exact ⟨bl, M, G, P, R, V, L, h1, h2, h3, h4, h5, h6, h7, Nat.le_trans h8 hz, h9.mono hU⟩
theorem STx.mono (h : STx w bp bd U D own c wrote marks z mode next) (hU : ∀ b, U b → U' b) (hz : z ≤ z') : STx w bp bd U' D own c wrote marks z' mode next := by
  obtain ⟨bl, M, G, P, R, V, L, h1, h2, h3, h4, h5, h6, h7, h8, h9, h10, h11, h12⟩ := h
  exact ⟨bl, M, G, P, R, V, L, h1, h2, h3, h4, h5, h6, h7, h8, h9, h10, Nat.le_trans h11 hz, h12.mono hU⟩
/-- what must not be touched from outside -/
theorem SIdle.lt (h : SIdle w bp bd U D z mode next) : D.length ≤ 4096 ∧ Pgs D := by
  obtain ⟨bl, M, G, P, R, V, L, h1, h2, h3, h4, h5, h6, h7, h8, h9⟩ := h
  rw [← h7]; exact ⟨h6.dlen, h6.dpgs⟩
theorem STx.inTx (h : STx w bp bd U D own c wrote marks z mode next) : ∃ P : PagerM, InTx P D own c ∧ P.marks = marks := by
  obtain ⟨bl, M, G, P, R, V, L, h1, h2, h3, h4, h5, h6, h7, h8⟩ := h
  exact ⟨P, h5, h7⟩
end

theorem sopen (w : World) (bd : Nat) (M : DiskM) (G : DG) (h : DiskAt w bd M G) (mode : Int) (hm : mode = 1 ∨ mode = 2) (V : List Bts) (L : LogL) (hS : Store M V L) (U : Nat → Prop) (hU : ∀ b, G.F b → U b) :
    Calls Tryz.prog 33 #[ptr bd, I mode] w fun e w' => ∃ bp, SPost w U (ptr bp) (fun w' U' => SIdle w' bp bd U' (doneV V L) (logSz L) mode 0) e w' := by
  refine (open12_ok w bd M G h mode hm V L hS).mono ?_
  rintro e w' ⟨M', V', L', s, bp, bl, G', rfl, h1, h2, h3, h4, h5, h6, h7, h8, h9⟩
  refine ⟨bp, rfl, h6.mono fun b hb => .inl (hU b hb), bl, M', G', _, _, V', L', by rw [← lv1_zero]; exact h5, rfl, rfl, rfl, newP_idle _ _ _, h1, h2, h4, ?_⟩
  rintro b (hb | hb | hb)
  · rcases h7 b hb with e | e
    · exact .inl (hU b e)
    · exact .inr ⟨e, h5.d.olt b hb⟩
  · have e : b = bp := by unfold newR at hb; split at hb; assumption; exact absurd rfl hb
    exact .inr ⟨by rw [e]; exact h8, h5.rlt b hb⟩
  · exact .inr ⟨by rw [hb]; exact h9, by rw [hb]; exact h5.l.lt⟩

theorem sbegin (w : World) (bp bd : Nat) (U : Nat → Prop) (D : List Bts) (z : Nat) (mode next : Int) (h : SIdle w bp bd U D z mode next) :
    Calls Tryz.prog 22 #[ptr bp] w (SPost w U (I 0) fun w' U' => STx w' bp bd U' D [] D.length false [] z mode next) := by
  obtain ⟨bl, M, G, P, R, V, L, h1, h2, h3, h4, h5, h6, h7, h8, h9⟩ := h
  subst h7
  obtain ⟨M', V', L', P', k1, k2, k3, k4, k5, k6, k7, k8, k9, k10, B⟩ := begin_calm w bp bd bl M G P R (lv1 0) h1 h5 V L h6 (by rw [h2, raise_lv1_1])
  refine B.mono ?_
  intro e w' hq
  obtain ⟨G1, R1, rfl, q1, q2, q3, q4⟩ := h1.of_post hq (h1.lok.raise _ _) k8 k9
  rw [h2, raise_lv1_1] at q1
  exact ⟨rfl, q2.mono fun b hb => .inl (h9 b hb), bl, M', G1, P', R1, V', L', q1, k8.trans h2, k9.trans h3, k10.trans h4, k5, k6, k7, k1, k2, fun hm => k3 (h3.trans hm), Nat.le_trans k4 h8, h9.grow q3 q4 q1.d.olt q1.rlt⟩

theorem swrite (w : World) (bp bd : Nat) (U : Nat → Prop) (D : List Bts) (own : PgL) (c : Nat) (wrote : Bool) (marks : List MarkM) (z : Nat) (mode next : Int) (h : STx w bp bd U D own c wrote marks z mode next) (n : Nat) (hn : n < 4096) (v : Value) (x : Bts) (hv : Sl w v x) (hx : x.length = 512) (hvU : ∀ g, v.ownBlock = some g → ¬ U g) :
    Calls Tryz.prog 23 #[ptr bp, I n, v] w (SPost w U (I 0) fun w' U' => STx w' bp bd U' D (pput own (n : Int) x) (max c (n + 1)) true marks z mode next) := by
  obtain ⟨bl, M, G, P, R, V, L, h1, h2, h3, h4, h5, h6, h7, h8, h9, h10, h11, h12⟩ := h
  have hr := raise_lv1_2 wrote
  rw [← h2] at hr
  have B := write_ok w bp bd bl M G P R h1.d h1.p h1.sep D own c h5 n hn v x hv hx (lv1 (if wrote then 2 else 1)) h1.l h1.lok h1.c4 h1.rl h1.gl (fun e => hvU bl e (h12 bl (.inr (.inr rfl)))) (fun g hg => by
    by_cases e : R g = 0
    · exact e
    · exact absurd (h12 g (.inr (.inl e))) (hvU g hg)) (by rw [hr])
  refine B.mono ?_
  intro e w' hq
  obtain ⟨G1, R1, rfl, q1, q2, q3, q4⟩ := h1.of_post hq (h1.lok.raise _ _) rfl rfl
  rw [hr] at q1
  exact ⟨rfl, q2.mono fun b hb => .inl (h12 b hb), bl, M, G1, _, R1, V, L, q1, h2, h3, h4, h5.write n hn x hx, rfl, h7, h8, h9, h10, h11, h12.grow q3 q4 q1.d.olt q1.rlt⟩

theorem sread (w : World) (bp bd : Nat) (U : Nat → Prop) (D : List Bts) (own : PgL) (c : Nat) (wrote : Bool) (marks : List MarkM) (z : Nat) (mode next : Int) (h : STx w bp bd U D own c wrote marks z mode next) (n : Nat) (hn : n < 4096) :
    Calls Tryz.prog 26 #[ptr bp, I n] w fun e w' => ∃ v, e = .returned (.tuple #[v, I 0]) ∧ OwnB w' v (pgV D own n) ∧ Chg Non w w' ∧ ∀ g, v.ownBlock = some g → w.heap.size ≤ g := by
  obtain ⟨bl, M, G, P, R, V, L, h1, h2, h3, h4, h5, _⟩ := h
  exact read_any w bp bd bl P R h1.p D own c h5 n hn

theorem scount_tx (w : World) (bp bd : Nat) (U : Nat → Prop) (D : List Bts) (own : PgL) (c : Nat) (wrote : Bool) (marks : List MarkM) (z : Nat) (mode next : Int) (h : STx w bp bd U D own c wrote marks z mode next) :
    Calls Tryz.prog 28 #[ptr bp] w fun e w' => e = .returned (I c) ∧ w' = w := by
  obtain ⟨bl, M, G, P, R, V, L, h1, h2, h3, h4, h5, _⟩ := h
  rw [← h5.ecount]
  exact count_any w bp bd bl P R h1.p
theorem scount_idle (w : World) (bp bd : Nat) (U : Nat → Prop) (D : List Bts) (z : Nat) (mode next : Int) (h : SIdle w bp bd U D z mode next) :
    Calls Tryz.prog 28 #[ptr bp] w fun e w' => e = .returned (I 0) ∧ w' = w := by
  obtain ⟨bl, M, G, P, R, V, L, h1, h2, h3, h4, h5, _⟩ := h
  rw [← h5.count]
  exact count_any w bp bd bl P R h1.p

theorem srollback (w : World) (bp bd : Nat) (U : Nat → Prop) (D : List Bts) (own : PgL) (c : Nat) (wrote : Bool) (marks : List MarkM) (z : Nat) (mode next : Int) (h : STx w bp bd U D own c wrote marks z mode next) :
    Calls Tryz.prog 30 #[ptr bp] w (SPost w U (I 0) fun w' U' => SIdle w' bp bd U' D z mode next) := by
  obtain ⟨bl, M, G, P, R, V, L, h1, h2, h3, h4, h5, h6, h7, h8, h9, h10, h11, h12⟩ := h
  refine (rollback_in w bp bd bl P R h1.p h5.ask _ h1.l h1.lok h1.c4 h1.rl).mono ?_
  rintro e w' ⟨rfl, q1, q2, q3⟩
  rw [h2, lower_lv1] at q2
  have rbp : R bp ≠ 0 := by rw [h1.rbp]; decide
  refine ⟨rfl, q3.mono fun b hb => .inl (hb.elim (fun e => h12 b (.inr (.inl (by rw [e]; exact rbp)))) fun e => h12 b (.inr (.inr e))), bl, M, G, idleM P, R, V, L, ⟨h1.d.chg q3 fun b hb e => ?_, q1, q2, (lv1_zero ▸ lvOk_zero), h1.c4, h1.sep, h1.rl, h1.gl, h1.mode⟩, h2, h3, h4, Idle.of_idle h5.edead, h8, h9, h11, h12.mono fun b hb => .inl hb⟩
  rcases e with e | e
  · exact h1.sep b (by rw [e]; exact rbp) hb
  · exact h1.gl (by rw [← e]; exact hb)

theorem view_nil_own (D : List Bts) : view D [] D.length = D := view_nil D
theorem scommit (w : World) (bp bd : Nat) (U : Nat → Prop) (D : List Bts) (own : PgL) (c : Nat) (wrote : Bool) (marks : List MarkM) (z : Nat) (mode next : Int) (h : STx w bp bd U D own c wrote marks z mode next) (hz : z + (9 + c * 516) ≤ 4194304) (hw : wrote = false → view D own c = D) :
    Calls Tryz.prog 29 #[ptr bp] w (SPost w U (I 0) fun w' U' => SIdle w' bp bd U' (view D own c) (z + (9 + c * 516)) mode next) := by
  obtain ⟨bl, M, G, P, R, V, L, h1, h2, h3, h4, h5, h6, h7, h8, h9, h10, h11, h12⟩ := h
  cases wrote
  · rw [hw rfl]
    refine (commit_clean w bp bd bl P R h1.p D own c h5 h6 _ h1.l h1.lok h1.c4 h1.rl).mono ?_
    rintro e w' ⟨rfl, q1, q2, q3⟩
    rw [h2, lower_lv1] at q2
    have rbp : R bp ≠ 0 := by rw [h1.rbp]; decide
    refine ⟨rfl, q3.mono fun b hb => .inl (hb.elim (fun e => h12 b (.inr (.inl (by rw [e]; exact rbp)))) fun e => h12 b (.inr (.inr e))), bl, M, G, idleM P, R, V, L, ⟨h1.d.chg q3 fun b hb e => ?_, q1, q2, (lv1_zero ▸ lvOk_zero), h1.c4, h1.sep, h1.rl, h1.gl, h1.mode⟩, h2, h3, h4, Idle.of_idle h5.edead, h8, h9, by omega, h12.mono fun b hb => .inl hb⟩
    rcases e with e | e
    · exact h1.sep b (by rw [e]; exact rbp) hb
    · exact h1.gl (by rw [← e]; exact hb)
  · subst h9
    have hr := raise_lv1_4
    rw [← h2] at hr
    obtain ⟨M', V', L', P', k1, k2, k3, k4, k5, k6, k7, k8, B⟩ := commit_calm w bp bd bl M G P R _ h1 V L h8 own c h5 h6 (fun hm => h10 (h3.symm.trans hm)) (by omega) (by simp only [if_true]; rw [hr])
    refine B.mono ?_
    intro e w' hq
    obtain ⟨G1, R1, rfl, q1, q2, q3, q4⟩ := h1.of_post hq ((h1.lok.raise _ _).lower _) k6 k7
    simp only [if_true] at q1
    rw [hr] at q1
    simp only [h2, lower_lv1] at q1
    exact ⟨rfl, q2.mono fun b hb => .inl (h12 b hb), bl, M', G1, P', R1, V', L', q1, k6.trans h2, k7.trans h3, k8.trans h4, k5, k1, k2, by omega, h12.grow q3 q4 q1.d.olt q1.rlt⟩
end Go.Proofs.YtamhjjagjjdmoaaGreat
end

section
namespace Go.Proofs.YtamhjjagjjdmoaaGreat
open Go.RowKit Go.Maps Go.Shelf Go.Sort

theorem ssame (w : World) (bp bd : Nat) (U : Nat → Prop) (D : List Bts) (z : Nat) (mode next : Int) (h : SIdle w bp bd U D z mode next) (K : Nat → Prop) (v : Value) (hv : RowW w K v D) (hK : ∀ g, K g → ¬ U g) :
    Calls Tryz.prog 31 #[ptr bp, v] w (SPost w U (.bool true) fun w' U' => SIdle w' bp bd U' D z mode next) := by
  obtain ⟨bl, M, G, P, R, V, L, h1, h2, h3, h4, h5, h6, h7, h8, h9⟩ := h
  subst h7
  refine (same_ok w bp bd bl M G P R (lv1 0) h1 h5 V L h6 (by rw [h2, raise_lv1_1]) K v hv fun g hg e => hK g hg (h9 g e)).mono ?_
  rintro e w' ⟨M', V', L', P', G', R', rfl, k1, k2, k3, k4, k5, k6, k7, k8, k9, k10, k11, k12⟩
  rw [h2, raise_lv1_1] at k9
  simp only [lower_lv1] at k9
  exact ⟨rfl, k10.mono fun b hb => .inl (h9 b hb), bl, M', G', P', R', V', L', k9, k6.trans h2, k7.trans h3, k8.trans h4, k5, k1, k2, by omega, h9.grow k11 k12 k9.d.olt k9.rlt⟩
/-- the blocks of a pager since a call began -/
structure Ux (w0 w : World) (U : Nat → Prop) : Prop where
  lo : ∀ b, U b → w0.heap.size ≤ b
  hi : ∀ b, U b → b < w.heap.size
  chg : Chg Non w0 w
theorem Ux.step {w0 w w' : World} {U : Nat → Prop} (h : Ux w0 w U) (c : Chg U w w') : Ux w0 w' (newK U w w') where
  lo b hb := hb.elim (h.lo b) fun e => Nat.le_trans h.chg.size e.1
  hi b hb := hb.elim (fun e => Nat.lt_of_lt_of_le (h.hi b e) c.size) fun e => e.2
  chg := h.chg.trans c fun b hb => .inr (h.lo b hb)
theorem Ux.still {w0 w w' : World} {U : Nat → Prop} (h : Ux w0 w U) (c : Chg Non w w') : Ux w0 w' U where
  lo := h.lo
  hi b hb := Nat.lt_of_lt_of_le (h.hi b hb) c.size
  chg := h.chg.tr c
/-- kept blocks are none of the pager's -/
def Kx (w : World) (K U : Nat → Prop) : Prop := ∀ g, K g → g < w.heap.size ∧ ¬ U g
theorem Kx.step {w w' : World} {K U S : Nat → Prop} (h : Kx w K U) (c : Chg S w w') : Kx w' K (newK U w w') := fun g hg =>
  ⟨Nat.lt_of_lt_of_le (h g hg).1 c.size, fun e => e.elim (h g hg).2 fun e => by have := (h g hg).1; omega⟩
theorem Kx.still {w w' : World} {K U S : Nat → Prop} (h : Kx w K U) (c : Chg S w w') : Kx w' K U := fun g hg => ⟨Nat.lt_of_lt_of_le (h g hg).1 c.size, (h g hg).2⟩
theorem Kx.add {w0 w w' : World} {K U S : Nat → Prop} (h : Kx w K U) (c : Chg S w w') (hU : Ux w0 w U) : Kx w' (newK K w w') U := fun g hg => by
  rcases hg with hg | hg
  · exact h.still c g hg
  · exact ⟨hg.2, fun e => by have := hU.hi g e; omega⟩
theorem Kx.none (w : World) (U : Nat → Prop) : Kx w (fun _ => False) U := fun _ h => h.elim
theorem ux_new {w w' : World} (d : DiskAt w' (w.heap.size + 2) emptyM (emptyG w.heap.size)) (c : Chg Non w w') : Ux w w' (emptyG w.heap.size).F := ⟨fun _ hb => emptyG_F hb, d.olt, c⟩
theorem OwnB.pgv {w : World} {v : Value} {x : Bts} (h : OwnB w v x) (K : Nat → Prop) (hK : ∀ g, v.ownBlock = some g → K g) : PgV w K v x := ⟨h.sl, fun g hg => ⟨hK g hg, by
  rcases h with ⟨e, _⟩ | ⟨g', cap, cur, e, hb', _⟩
  · rw [e] at hg; simp [Value.ownBlock] at hg
  · rw [e] at hg; simp [Value.ownBlock] at hg; subst hg; exact hb'.lt⟩⟩
theorem RowW.one {w : World} {K : Nat → Prop} (t : Value) (x : Bts) (h : PgV w K t x) : RowW (w.alloc (.cells #[t] 48)) (fun g => K g ∨ g = w.heap.size) (.slice (some ⟨w.heap.size, 0, none⟩) 1 1) [x] := by
  refine ⟨[t], ?_, fun g hg => .inr ?_, ?_, True.intro⟩
  · exact World.ownsRow_lit w #[t] 1 (Nat.zero_le _) (by simp [maxLen]) rfl
  · simp [Value.ownBlock] at hg; exact hg.symm
  · exact (h.chg ((Chg.refl Non w).alloc _) fun _ _ => id).mono fun g hg => .inl hg

theorem sreopen (w : World) (bp bd : Nat) (U : Nat → Prop) (D : List Bts) (z : Nat) (mode next : Int) (h : SIdle w bp bd U D z mode next) (mode' : Int) (hm : mode' = 1 ∨ mode' = 2) :
    Calls Tryz.prog 33 #[ptr bd, I mode'] w fun e w' => ∃ bp', SPost w U (ptr bp') (fun w' U' => SIdle w' bp' bd U' D z mode' 0) e w' := by
  obtain ⟨bl, M, G, P, R, V, L, h1, h2, h3, h4, h5, h6, h7, h8, h9⟩ := h
  subst h7
  refine (sopen w bd M G h1.d mode' hm V L h6 U fun b hb => h9 b (.inl hb)).mono ?_
  rintro e w' ⟨bp', rfl, c, s⟩
  exact ⟨bp', rfl, c, s.mono (fun _ h => h) h8⟩
set_option maxHeartbeats 2000000 in
set_option maxRecDepth 100000 in
theorem wakes_any (w : World) : Calls Tryz.prog 32 #[] w fun e w' => e = .returned (.bool true) ∧ Chg Non w w' := by
  go_enter Tryz.func32, Tryz.ntmps32
  go_wp2_with fail
  refine (dnew_nil w).mono ?_
  rintro e w1 ⟨rfl, d1, c1⟩
  have O1 := Lib.hid (sopen w1 _ emptyM _ d1 1 (.inl rfl) [] [] empty_store _ fun b hb => hb)
  have X1 := Lib.hid (ux_new d1 c1)
  clear d1 c1
  go_wp2_with (go_at_call 18; refine (num_any _ _).mono ?_; rintro e w' ⟨rfl, hw'⟩; have hw2 := hw'.symm; subst hw2)
  refine O1.out.mono ?_
  rintro e w2 ⟨bp, rfl, c2, s2⟩
  have B2 := Lib.hid (sbegin w2 bp _ _ _ _ _ _ s2)
  have X2 := Lib.hid (X1.out.step c2)
  clear s2 c2
  go_wp2_with fail
  refine B2.out.mono ?_
  rintro e w3 ⟨rfl, c3, s3⟩
  have S3 := Lib.hid s3
  have X3 := Lib.hid (X2.out.step c3)
  clear s3 c3
  go_wp2_with (go_at_call 18; refine (num_any _ _).mono ?_; rintro e w' ⟨rfl, hw'⟩; have hw2 := hw'.symm; subst hw2)
  refine (page12_any w3 3).mono ?_
  rintro e w4 ⟨v4, rfl, rfl, o4, c4⟩
  have X4 := Lib.hid (X3.out.still c4)
  have W4 := Lib.hid (swrite w4 bp _ _ _ _ _ _ _ _ _ _ (S3.out.chg c4 fun _ _ => id) 0 (by omega) _ _ o4.sl (length_pageL 3) (fun g hg e => by simp [Value.ownBlock] at hg; have := X3.out.hi g e; omega))
  clear o4 c4
  go_wp2_with fail
  refine W4.out.mono ?_
  rintro e w5 ⟨rfl, c5, s5⟩
  have C5 := Lib.hid (scommit w5 bp _ _ _ _ _ _ _ _ _ _ s5 (by simp [empty_done, logSz, blocksOn]) (fun h => by cases h))
  have X5 := Lib.hid (X4.out.step c5)
  clear s5 c5
  go_wp2_with (go_at_call 18; refine (num_any _ _).mono ?_; rintro e w' ⟨rfl, hw'⟩; have hw2 := hw'.symm; subst hw2)
  refine C5.out.mono ?_
  rintro e w6 ⟨rfl, c6, s6⟩
  have O6 := Lib.hid (sreopen w6 bp _ _ _ _ _ _ s6 2 (.inr rfl))
  have X6 := Lib.hid (X5.out.step c6)
  clear s6 c6
  go_wp2_with (go_at_call 18; refine (num_any _ _).mono ?_; rintro e w' ⟨rfl, hw'⟩; have hw2 := hw'.symm; subst hw2)
  refine O6.out.mono ?_
  rintro e w7 ⟨bp7, rfl, c7, s7⟩
  have S7 := Lib.hid s7
  have X7 := Lib.hid (X6.out.step c7)
  clear s7 c7
  go_wp2_with fail
  refine (page12_any w7 3).mono ?_
  rintro e w8 ⟨v8, rfl, rfl, o8, c8⟩
  have X8 := X7.out.still c8
  obtain ⟨w9, hw9⟩ : ∃ w9, w9 = w8.alloc (.cells #[.slice (some ⟨w7.heap.size, 0, none⟩) 512 512] 48) := ⟨_, rfl⟩
  have c9 : Chg Non w8 w9 := by rw [hw9]; exact (Chg.refl _ w8).alloc _
  have hrow : RowW w9 (newK (fun _ => False) w7 w9) (.slice (some ⟨w8.heap.size, 0, none⟩) 1 1) [pageL 3] := by
    have hp := o8.pgv (fun g => g = w7.heap.size) (fun g hg => by simp [Value.ownBlock] at hg; exact hg.symm)
    have s79 : w7.heap.size < w8.heap.size := (hp.2 w7.heap.size rfl).2
    have s9 : w9.heap.size = w8.heap.size + 1 := by rw [hw9]; simp
    have := RowW.one (w := w8) _ _ hp
    rw [← hw9] at this
    refine this.mono fun g hg => .inr ?_
    rcases hg with e | e <;> omega
  have SM := Lib.hid (ssame w9 bp7 _ _ _ _ _ _ ((S7.out.chg c8 fun _ _ => id).chg c9 fun _ _ => id) _ _ (by
    have e : view (doneV [] []) (pput [] ((0 : Nat) : Int) (pageL 3)) (max (doneV [] []).length (0 + 1)) = [pageL 3] := by
      rw [empty_done]; exact view_put [] [] 0 0 (pageL 3) (fun p hp => by simp at hp) (Nat.le_refl _)
    rw [e]; exact hrow) fun g hg => (((Kx.none w7 _).add (c8.tr c9) X7.out) g hg).2)
  have X9 := Lib.hid (X8.still c9)
  rw [hw9] at SM X9
  clear o8 c8 X8 hw9 c9 hrow
  go_wp2_with fail
  refine SM.out.mono ?_
  rintro e w10 ⟨rfl, c10, s10⟩
  have X10 := Lib.hid (X9.out.step c10)
  clear s10 c10
  go_wp2_with fail
  go_ret
  exact ⟨rfl, X10.out.chg⟩
end Go.Proofs.YtamhjjagjjdmoaaGreat
end

section
namespace Go.Proofs.YtamhjjagjjdmoaaGreat
open Go.RowKit Go.Maps Go.Shelf Go.Sort

theorem mode12_any (w : World) (i : Int) : Calls Tryz.prog 20 #[I i] w fun e w' => e = .returned (I ((wi i 2 : Nat) + 1 : Int)) ∧ w' = w := by
  have hlt := wi_lt i 2 (by decide)
  go_enter Tryz.func20, Tryz.ntmps20
  go_wp2_with (go_at_call 21; refine (within_any _ _ 2 (by decide) (by decide)).mono ?_; rintro e w' ⟨rfl, hw'⟩; have hw2 := hw'.symm; subst hw2)
  go_ret
  exact ⟨congrArg (fun z => Ending.returned (I z)) (by omega), rfl⟩

theorem popen_nild (w : World) (mode : Int) (l : Value) (c : Int) : Calls Tryz.prog 19 #[.pointer none, I mode, l, I c] w fun e w' => e = .returned (.tuple #[.pointer none, I 1]) ∧ w' = w := by
  go_enter Tryz.func19, Tryz.ntmps19
  go_wp2_with fail
  go_ret2
  exact ⟨rfl, rfl⟩
theorem popen_nill (w : World) (bd : Nat) (mode : Int) (c : Int) : Calls Tryz.prog 19 #[ptr bd, I mode, .pointer none, I c] w fun e w' => e = .returned (.tuple #[.pointer none, I 1]) ∧ w' = w := by
  go_enter Tryz.func19, Tryz.ntmps19
  go_wp2_with fail
  go_ret2
  exact ⟨rfl, rfl⟩
theorem popen_mode (w : World) (bd bl : Nat) (mode : Int) (c : Int) (h1 : mode ≠ 1) (h2 : mode ≠ 2) : Calls Tryz.prog 19 #[ptr bd, I mode, ptr bl, I c] w fun e w' => e = .returned (.tuple #[.pointer none, I 1]) ∧ w' = w := by
  have b1 : (mode != 1) = true := by simpa using h1
  have b2 : (mode != 2) = true := by simpa using h2
  clear h1 h2
  go_enter Tryz.func19, Tryz.ntmps19
  go_wp2_with fail
  go_ret2
  exact ⟨rfl, rfl⟩
theorem popen_conn (w : World) (bd bl : Nat) (mode : Int) (hm : mode = 1 ∨ mode = 2) (c : Int) (hc : c < 0 ∨ 4 ≤ c) : Calls Tryz.prog 19 #[ptr bd, I mode, ptr bl, I c] w fun e w' => e = .returned (.tuple #[.pointer none, I 1]) ∧ w' = w := by
  have CN := Lib.hid (conn_no w c hc)
  clear hc
  rcases hm with rfl | rfl
  · go_enter Tryz.func19, Tryz.ntmps19
    go_wp2_with (go_at_call 68; refine CN.out.mono ?_; rintro e w' ⟨rfl, rfl⟩)
    go_ret2
    exact ⟨rfl, rfl⟩
  · go_enter Tryz.func19, Tryz.ntmps19
    go_wp2_with (go_at_call 68; refine CN.out.mono ?_; rintro e w' ⟨rfl, rfl⟩)
    go_ret2
    exact ⟨rfl, rfl⟩

/-- a disk at rest: D is committed on it -/
def SDisk (w : World) (bd : Nat) (U : Nat → Prop) (D : List Bts) (z : Nat) : Prop := ∃ M G V L, DiskAt w bd M G ∧ Store M V L ∧ doneV V L = D ∧ logSz L ≤ z ∧ ∀ b, G.F b → U b
theorem SDisk.chg {S : Nat → Prop} {w w' : World} {bd : Nat} {U : Nat → Prop} {D : List Bts} {z : Nat} (h : SDisk w bd U D z) (c : Chg S w w') (hn : ∀ b, U b → ¬ S b) : SDisk w' bd U D z := by
  obtain ⟨M, G, V, L, h1, h2, h3, h4, h5⟩ := h
  exact ⟨M, G, V, L, h1.chg c fun b hb => hn b (h5 b hb), h2, h3, h4, h5⟩
theorem SDisk.new {w : World} {bd k : Nat} (d : DiskAt w bd emptyM (emptyG k)) : SDisk w bd (emptyG k).F [] 0 := ⟨_, _, [], [], d, empty_store, empty_done, Nat.le_refl _, fun _ h => h⟩
theorem SIdle.disk {w : World} {bp bd : Nat} {U : Nat → Prop} {D : List Bts} {z : Nat} {mode next : Int} (h : SIdle w bp bd U D z mode next) : SDisk w bd U D z := by
  obtain ⟨bl, M, G, P, R, V, L, h1, h2, h3, h4, h5, h6, h7, h8, h9⟩ := h
  exact ⟨M, G, V, L, h1.d, h6, h7, h8, fun b hb => h9 b (.inl hb)⟩
theorem dopen (w : World) (bd : Nat) (U : Nat → Prop) (D : List Bts) (z : Nat) (h : SDisk w bd U D z) (mode : Int) (hm : mode = 1 ∨ mode = 2) :
    Calls Tryz.prog 33 #[ptr bd, I mode] w fun e w' => ∃ bp, SPost w U (ptr bp) (fun w' U' => SIdle w' bp bd U' D z mode 0) e w' := by
  obtain ⟨M, G, V, L, h1, h2, h3, h4, h5⟩ := h
  subst h3
  refine (sopen w bd M G h1 mode hm V L h2 U h5).mono ?_
  rintro e w' ⟨bp', rfl, c, s⟩
  exact ⟨bp', rfl, c, s.mono (fun _ h => h) h4⟩
/-- one more pager over a disk and locks of others -/
theorem popen_ok (w : World) (bd bl : Nat) (U : Nat → Prop) (D : List Bts) (z : Nat) (h : SDisk w bd U D z) (Lk : Nat → Int) (hl : Blk w bl 135 (lvls Lk)) (hL : LvOk Lk) (hnl : ¬ U bl) (mode : Int) (hm : mode = 1 ∨ mode = 2) (c : Nat) (hc : c < 4) :
    Calls Tryz.prog 19 #[ptr bd, I mode, ptr bl, I c] w fun e w' => ∃ bp, e = .returned (.tuple #[ptr bp, I 0]) ∧ Chg U w w' ∧ SDisk w' bd (newK U w w') D z := by
  obtain ⟨M, G, V, L, h1, h2, h3, h4, h5⟩ := h
  subst h3
  obtain ⟨M', V', L', s, k1, k2, k3, k4, C⟩ := open_ok w bd bl M G h1 Lk hl hL (fun e => hnl (h5 bl e)) mode hm c hc V L h2
  refine C.mono ?_
  rintro e w' ⟨G', rfl, q1, q2, q3⟩
  exact ⟨_, rfl, q2.mono fun b hb => .inl (h5 b hb), M', G', V', L', q1.d, k1, k2, by omega, fun b hb => (q3 b hb).elim (fun e => .inl (h5 b e)) fun e => .inr ⟨e, q1.d.olt b hb⟩⟩

set_option maxHeartbeats 1000000 in
theorem indexFunc_nil (w : World) (A : Option Addr) (c : Nat) (f : Value) : Calls Tryz.prog 79 #[.slice A 0 c, f] w fun e w' => e = .returned (I (-1)) ∧ w' = w := by
  go_enter Tryz.func79, Tryz.ntmps79
  go_wp2_with fail
  refine wp_loop_rounds 1 ?_
  rw [rounds_succ]
  go_wp2_with fail
  go_ret
  exact ⟨rfl, rfl⟩
set_option maxHeartbeats 1000000 in
set_option maxRecDepth 100000 in
/-- no mark of a number -/
theorem back_none (w : World) (bp bd bl : Nat) (P : PagerM) (R : Nat → Nat) (hp : PagerW w bp bd bl P R) (ha : askM P = 0) (hm : P.marks = []) (m : Int) :
    Calls Tryz.prog 34 #[ptr bp, I m] w fun e w' => e = .returned (I 1) ∧ Chg Non w w' := by
  have ST : Hid (∃ A c, ∀ u, Chg Non w u → (Calls Tryz.prog 72 #[ptr bp] u fun e w' => e = .returned (I 0) ∧ w' = u) ∧ u.cell? ⟨bp, 10, none⟩ = some (.slice A 0 c)) := by
    obtain ⟨vwas, vown, vmarks, mb, hp⟩ := hp
    have hr := hp.row
    rw [hm] at hr
    obtain ⟨A, c, e, _⟩ := ownsRow_form hr
    refine ⟨A, c, fun u cu => ?_⟩
    have hp2 := hp.chg cu fun _ _ => id
    refine ⟨?_, ?_⟩
    · have := ask_any u bp bd bl P R ⟨_, _, _, _, hp2⟩
      rw [ha] at this; exact this
    · exact (hp2.blk.cell 10).trans (congrArg some e)
  obtain ⟨A, c, ST⟩ := ST.out
  obtain ⟨W, hW⟩ : ∃ W, W = w.alloc (.cells #[I m] 3) := ⟨_, rfl⟩
  have cW : Chg Non w W := by rw [hW]; exact (Chg.refl _ w).alloc _
  obtain ⟨AS, c10⟩ := ST W cW
  have FIN := Lib.hid cW
  have AS := Lib.hid AS
  rw [hW] at AS c10 FIN
  clear hp ha hm ST hW cW
  go_enter Tryz.func34, Tryz.ntmps34
  go_wp2_with (first | (go_at_call 72; refine AS.out.mono ?_; rintro e w' ⟨rfl, hw'⟩; have hw2 := hw'.symm; subst hw2) | (go_at_call 79; refine (indexFunc_nil _ _ _ _).mono ?_; rintro e w' ⟨rfl, hw'⟩; have hw2 := hw'.symm; subst hw2))
  go_ret
  exact ⟨rfl, FIN.out⟩
theorem sback_none (w : World) (bp bd : Nat) (U : Nat → Prop) (D : List Bts) (own : PgL) (c : Nat) (wrote : Bool) (z : Nat) (mode next : Int) (h : STx w bp bd U D own c wrote [] z mode next) (m : Int) :
    Calls Tryz.prog 34 #[ptr bp, I m] w fun e w' => e = .returned (I 1) ∧ Chg Non w w' := by
  obtain ⟨bl, M, G, P, R, V, L, h1, h2, h3, h4, h5, h6, h7, h8⟩ := h
  exact back_none w bp bd bl P R h1.p h5.ask h7 m
theorem sread_bad (w : World) (bp bd : Nat) (U : Nat → Prop) (D : List Bts) (own : PgL) (c : Nat) (wrote : Bool) (marks : List MarkM) (z : Nat) (mode next : Int) (h : STx w bp bd U D own c wrote marks z mode next) (n : Int) (hn : n < 0 ∨ 4096 ≤ n) :
    Calls Tryz.prog 26 #[ptr bp, I n] w fun e w' => e = .returned (.tuple #[.slice none 0 0, I 1]) ∧ w' = w := by
  obtain ⟨bl, M, G, P, R, V, L, h1, h2, h3, h4, h5, _⟩ := h
  exact read_bad w bp bd bl P R h1.p n h5.ask hn
theorem swrite_bad (w : World) (bp bd : Nat) (U : Nat → Prop) (D : List Bts) (own : PgL) (c : Nat) (wrote : Bool) (marks : List MarkM) (z : Nat) (mode next : Int) (h : STx w bp bd U D own c wrote marks z mode next) (n : Int) (A : Option Addr) (m cp : Nat) (hn : (n < 0 ∨ 4096 ≤ n) ∨ m ≠ 512) :
    Calls Tryz.prog 23 #[ptr bp, I n, .slice A m cp] w fun e w' => e = .returned (I 1) ∧ w' = w := by
  obtain ⟨bl, M, G, P, R, V, L, h1, h2, h3, h4, h5, _⟩ := h
  exact write_bad w bp bd bl P R h1.p n A m cp h5.ask hn
end Go.Proofs.YtamhjjagjjdmoaaGreat
end

section
namespace Go.Proofs.YtamhjjagjjdmoaaGreat
open Go.RowKit Go.Maps Go.Shelf Go.Sort

/-- v reads as n acts -/
def ActsW (w : World) (v : Value) (n : Nat) (acts : Nat → Int × Int × Int) : Prop :=
  (n = 0 ∧ ∃ A cap, v = .slice A 0 cap) ∨ ∃ g o cap, v = .slice (some ⟨g, o, none⟩) n cap ∧ ∀ i, i < n → w.cell? ⟨g, o + i * 3, none⟩ = some (I (acts i).1) ∧ w.cell? ⟨g, o + i * 3 + 1, none⟩ = some (I (acts i).2.1) ∧ w.cell? ⟨g, o + i * 3 + 2, none⟩ = some (I (acts i).2.2)
theorem ActsW.chg {w w' : World} {v : Value} {n : Nat} {acts : Nat → Int × Int × Int} (h : ActsW w v n acts) (c : Chg Non w w') : ActsW w' v n acts := by
  rcases h with h | ⟨g, o, cap, rfl, h⟩
  · exact .inl h
  · refine .inr ⟨g, o, cap, rfl, fun i hi => ?_⟩
    obtain ⟨h1, h2, h3⟩ := h i hi
    have hb := World.block_lt_of_cell? w _ h1
    exact ⟨(c.cell (a := ⟨g, o + i * 3, none⟩) hb id).trans h1, (c.cell (a := ⟨g, o + i * 3 + 1, none⟩) hb id).trans h2, (c.cell (a := ⟨g, o + i * 3 + 2, none⟩) hb id).trans h3⟩
theorem ActsW.form {w : World} {v : Value} {n : Nat} {acts : Nat → Int × Int × Int} (h : ActsW w v n acts) : ∃ A cap, v = .slice A n cap := by
  rcases h with ⟨rfl, A, cap, rfl⟩ | ⟨g, o, cap, rfl, h⟩
  · exact ⟨_, _, rfl⟩
  · exact ⟨_, _, rfl⟩
theorem ActsW.at {w : World} {A : Option Addr} {n cap : Nat} {acts : Nat → Int × Int × Int} (h : ActsW w (.slice A n cap) n acts) (i : Nat) (hi : i < n) : ∃ g o, A = some ⟨g, o, none⟩ ∧ w.cell? ⟨g, o + i * 3, none⟩ = some (I (acts i).1) ∧ w.cell? ⟨g, o + i * 3 + 1, none⟩ = some (I (acts i).2.1) ∧ w.cell? ⟨g, o + i * 3 + 2, none⟩ = some (I (acts i).2.2) := by
  rcases h with ⟨e, e2⟩ | ⟨g, o, cap', e, h⟩
  · omega
  · injection e with e1 e2 e3
    exact ⟨g, o, e1, h i hi⟩


theorem cells42 : Tryz.prog.cellsOf 42 = 3 := by kernel_rfl
set_option maxRecDepth 100000 in
theorem acts_open {H : Type} {enc : TypeId × Value → H} {w : World} {fuel : Nat} {v : Value} {x : DataW H × List MemPlace} (h : DataW.trod enc Tryz.prog w 0 (fun _ => true) true fuel 58 [v] = some x) :
    ∃ n acts, ActsW w v n acts ∧ n ≤ maxLen := by
  rcases Go.Deep.open_slice Tryz.underlying58 h with ⟨e, _⟩ | ⟨a, len, cap, m, k, D, Pl, e, _, hl, hm, hmm, _, hx⟩
  · injection e with e
    exact ⟨0, fun _ => (0, 0, 0), .inl ⟨rfl, _, _, e⟩, Nat.zero_le _⟩
  · injection e with e
    simp only [if_true] at hmm
    by_cases h0 : len = 0
    · subst h0
      exact ⟨0, fun _ => (0, 0, 0), .inl ⟨rfl, _, _, e⟩, Nat.zero_le _⟩
    · have each : ∀ i, i < len → ∃ q : Int × Int × Int, w.cell? (a.add (i * 3)) = some (I q.1) ∧ w.cell? ((a.add (i * 3)).add 1) = some (I q.2.1) ∧ w.cell? ((a.add (i * 3)).add 2) = some (I q.2.2) := by
        intro i hi
        obtain ⟨cs, h1, h2⟩ := hx i (by omega)
        rw [cells42] at h1
        obtain ⟨_, hlen, hcell⟩ := World.cells?_some h1
        obtain ⟨xs, k', _, _, _, hxl, hf⟩ := DataW.trod_struct Tryz.underlying42 h2
        match cs, hlen with
        | [v0, v1, v2], _ =>
          match xs, hxl with
          | [y0, y1, y2], _ =>
            have g0 := hf 0 _ rfl
            have g1 := hf 1 _ rfl
            have g2 := hf 2 _ rfl
            have c1 : Tryz.prog.cellsOf 3 = 1 := by kernel_rfl
            simp [c1] at g0 g1 g2
            obtain ⟨q0, e0, _, _⟩ := DataW.trod_int Tryz.underlying3 g0
            obtain ⟨q1, e1, _, _⟩ := DataW.trod_int Tryz.underlying3 g1
            obtain ⟨q2, e2, _, _⟩ := DataW.trod_int Tryz.underlying3 g2
            simp at e0 e1 e2
            subst e0; subst e1; subst e2
            have k0 := hcell 0 (by omega)
            have k1 := hcell 1 (by omega)
            have k2 := hcell 2 (by omega)
            have z : (a.add (i * 3)).add 0 = a.add (i * 3) := by simp [Addr.add]
            rw [z] at k0
            exact ⟨(q0, q1, q2), by simpa using k0, by simpa using k1, by simpa using k2⟩
      obtain ⟨b, off, spot⟩ := a
      obtain ⟨q, hq⟩ := Go.Deep.choose_lt each
      have hs : spot = none := by
        have := (hq 0 (by omega)).1
        simpa [Addr.add] using World.cell?_spot this
      subst hs
      refine ⟨len, q, .inr ⟨b, off, cap, e, fun i hi => ?_⟩, by omega⟩
      have := hq i hi
      rw [addr_add, addr_add, addr_add] at this
      exact this
end Go.Proofs.YtamhjjagjjdmoaaGreat
end
