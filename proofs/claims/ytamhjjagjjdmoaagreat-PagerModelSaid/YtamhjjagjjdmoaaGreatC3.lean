/- the pager's helpers: what they compute -/
import Derived.Test.YtamhjjagjjdmoaaGreatC2
import Derived.Deep.RegionHeld3
import Derived.Maps.RangeWalk
import Derived.Laws.CopyOwn
section
namespace Go.Proofs.YtamhjjagjjdmoaaGreat
open Go.RowKit Go.Maps Go.Shelf Go.Sort

/-- the pager at bp has the disk at bd -/
structure PD (w : World) (bp bd : Nat) (G : DG) : Prop where
  d : w.cell? ⟨bp, 0, none⟩ = some (ptr bd)
  n : ¬ G.F bp
theorem PD.chg {w w' : World} {bp bd : Nat} {G G' : DG} {S : Nat → Prop} (h : PD w bp bd G) (c : Chg S w w') (hS : ¬ S bp) (hs : ∀ b, G'.F b → G.F b ∨ w.heap.size ≤ b) : PD w' bp bd G' := by
  have l0 : bp < w.heap.size := World.block_lt_of_cell? w _ h.d
  exact ⟨(c.cell l0 hS).trans h.d, fun e => by rcases hs _ e with e | e; exact h.n e; omega⟩

set_option maxHeartbeats 1000000 in
set_option maxRecDepth 100000 in
theorem all_no (w : World) (bp bd : Nat) (M : DiskM) (G : DG) (h : DiskAt w bd M G) (hp : PD w bp bd G) (s : ByteArray) (hs : GoodName s) (ho : M.off = false) (hn : s.data.toList ∉ M.names) :
    Calls Tryz.prog 116 #[ptr bp, .string s] w fun e w' => e = .returned (.tuple #[.slice none 0 0, .bool false, I 0]) ∧ w' = w := by
  have S := Lib.hid (size_any w bd M G h s hs)
  have e : sizeM M s.data.toList = (0, 2) := by simp [sizeM, ho, hn]
  rw [e] at S
  have d0 := hp.d
  clear h hp ho hn e hs
  go_enter Tryz.func116, Tryz.ntmps116
  go_wp2_with (go_at_call 132; refine S.out.mono ?_; rintro e w' ⟨rfl, rfl⟩)
  go_ret3
  exact ⟨rfl, rfl⟩

set_option maxHeartbeats 1000000 in
set_option maxRecDepth 100000 in
theorem all_off (w : World) (bp bd : Nat) (M : DiskM) (G : DG) (h : DiskAt w bd M G) (hp : PD w bp bd G) (s : ByteArray) (hs : GoodName s) (ho : M.off = true) :
    Calls Tryz.prog 116 #[ptr bp, .string s] w fun e w' => e = .returned (.tuple #[.slice none 0 0, .bool false, I 9]) ∧ w' = w := by
  have S := Lib.hid (size_any w bd M G h s hs)
  have e : sizeM M s.data.toList = (0, 9) := by simp [sizeM, ho]
  rw [e] at S
  have d0 := hp.d
  clear h hp ho e hs
  go_enter Tryz.func116, Tryz.ntmps116
  go_wp2_with (go_at_call 132; refine S.out.mono ?_; rintro e w' ⟨rfl, rfl⟩)
  go_ret3
  exact ⟨rfl, rfl⟩

set_option maxHeartbeats 1000000 in
set_option maxRecDepth 100000 in
theorem all_yes (w : World) (bp bd : Nat) (M : DiskM) (G : DG) (h : DiskAt w bd M G) (hp : PD w bp bd G) (s : ByteArray) (hs : GoodName s) (ho : M.off = false) (hn : s.data.toList ∈ M.names) :
    Calls Tryz.prog 116 #[ptr bp, .string s] w fun e w' => ∃ v, e = .returned (.tuple #[v, .bool true, I 0]) ∧ OwnB w' v (M.file s.data.toList).seen ∧ Below w.heap.size w w' ∧ ∀ g, v.ownBlock = some g → w.heap.size ≤ g := by
  have S := Lib.hid (size_any w bd M G h s hs)
  have R := Lib.hid (read_all w bd M G h s hs ho hn)
  have e : sizeM M s.data.toList = (((M.file s.data.toList).seen.length : Int), 0) := by simp [sizeM, ho, hn]
  rw [e] at S
  have d0 := hp.d
  clear h hp ho hn e hs
  generalize (M.file s.data.toList).seen = L at *
  generalize hL : L.length = n at *
  clear hL
  go_enter Tryz.func116, Tryz.ntmps116
  go_wp2_with (first | (go_at_call 132; refine S.out.mono ?_; rintro e w' ⟨rfl, rfl⟩) | (go_at_call 163; refine R.out.mono ?_; rintro e w2 ⟨v, rfl, h⟩; have FIN := Lib.hid h; clear h))
  go_ret3
  exact ⟨_, rfl, FIN.out⟩
end Go.Proofs.YtamhjjagjjdmoaaGreat
end

section
namespace Go.Proofs.YtamhjjagjjdmoaaGreat
open Go.RowKit Go.Maps Go.Shelf Go.Sort

def nBase : ByteArray := ⟨#[98, 97, 115, 101]⟩
def nLog : ByteArray := ⟨#[98, 97, 115, 101, 45, 108, 111, 103]⟩
def nJournal : ByteArray := ⟨#[98, 97, 115, 101, 45, 106, 111, 117, 114, 110, 97, 108]⟩
def baseN : Bts := [98, 97, 115, 101]
def logN : Bts := [98, 97, 115, 101, 45, 108, 111, 103]
def journalN : Bts := [98, 97, 115, 101, 45, 106, 111, 117, 114, 110, 97, 108]
instance (n : Nat) : Decidable (okc n) := by unfold okc; infer_instance
theorem goodName_of (l : Bts) (h1 : l.all (fun c => decide (okc c.toNat)) = true) (h2 : 1 ≤ l.length) (h3 : l.length ≤ 32) : GoodName ⟨l.toArray⟩ := by
  refine ⟨fun i hi => ?_, h2, h3⟩
  have := List.all_eq_true.1 h1 (l[i]'hi) (List.getElem_mem _)
  exact of_decide_eq_true this
theorem good_base : GoodName nBase := goodName_of baseN (by decide) (by decide) (by decide)
theorem good_log : GoodName nLog := goodName_of logN (by decide) (by decide) (by decide)
theorem good_journal : GoodName nJournal := goodName_of journalN (by decide) (by decide) (by decide)

def writesGo : DiskM → PgL → Int × DiskM
  | M, [] => (0, M)
  | M, p :: r => if (writeM M baseN (p.1.toNat * 512) p.2).1 = 0 then writesGo (writeM M baseN (p.1.toNat * 512) p.2).2 r else writeM M baseN (p.1.toNat * 512) p.2
def writesM (M : DiskM) (l : PgL) : Int × DiskM :=
  if (writesGo M l).1 = 0 then (if l = [] then (0, (writesGo M l).2) else syncM (writesGo M l).2 baseN) else writesGo M l

theorem strokeAll_tr (M : DiskM) (d : Int × DiskM) (safe : DiskM → DiskM) (h1 : d.2.tr = M.tr) (h2 : (safe d.2).tr = M.tr) : (strokeAll M d safe).2.tr = M.tr := by
  unfold strokeAll
  split
  · rfl
  · split
    · rfl
    · split
      · rfl
      · split
        · exact h1
        · split
          · exact h2
          · exact h1
theorem writeDo_tr (M : DiskM) (n : Bts) (at_ : Nat) (b : Bts) : (writeDo M n at_ b).2.tr = M.tr := by
  unfold writeDo
  split
  · rfl
  · split <;> rfl
theorem writeM_tr (M : DiskM) (n : Bts) (at_ : Nat) (b : Bts) : (writeM M n at_ b).2.tr = M.tr := by
  unfold writeM
  split
  · exact strokeAll_tr M _ _ (writeDo_tr _ _ _ _) (writeDo_tr _ _ _ _)
  · rfl
theorem syncM_tr (M : DiskM) (n : Bts) : (syncM M n).2.tr = M.tr := strokeAll_tr M _ _ rfl rfl
theorem deleteM_tr (M : DiskM) (n : Bts) : (deleteM M n).2.tr = M.tr := strokeAll_tr M _ _ rfl rfl
theorem TrOk.of_tr {M M' : DiskM} (h : TrOk M) (e : M'.tr = M.tr) : TrOk M' := by unfold TrOk; rw [e]; exact h

set_option maxHeartbeats 2000000 in
set_option maxRecDepth 100000 in
theorem writes_any (w : World) (bp bd : Nat) (M : DiskM) (G : DG) (h : DiskAt w bd M G) (ht : TrOk M) (hp : PD w bp bd G) (F : Nat → Prop) (b : Nat) (l : PgL) (hl : PgOk l) (hw : PgW w F b l) (hb : ¬ G.F b) (hF : ∀ g, F g → ¬ G.F g) :
    Calls Tryz.prog 123 #[ptr bp, .map (some b)] w (DPost w bd G (I (writesM M l).1) (writesM M l).2) := by
  obtain ⟨n, hn⟩ : ∃ n, n = l.length := ⟨_, rfl⟩
  have hn4 := hl.1
  rw [← hn] at hn4
  obtain ⟨m, h1, h2⟩ := hw
  have hml : m.length = n := by rw [hn]; exact All2.length h2
  have cS := sortedI_any w b m h1 (by omega)
  rw [PgE.keys h2, hml] at cS
  have S := Lib.hid cS
  have HW : Hid (PgW w F b l) := ⟨m, h1, h2⟩
  have H := Lib.hid (And.intro h (And.intro ht (And.intro hp (And.intro hl (And.intro hb (And.intro hF hn))))))
  clear h1 h2 cS hml h ht hl hb hF hn
  have d0 := hp.d
  clear hp
  go_enter Tryz.func123, Tryz.ntmps123
  go_wp2_with (first | (go_at_call 176; refine (keysI_any _ _).mono ?_; rintro e w' ⟨rfl, rfl⟩) | (go_at_call 175; refine S.out.mono ?_; rintro e w3 ⟨v, rfl, h3, _, h4⟩; obtain ⟨A3, c3, rfl, hn3⟩ := ownsRow_form h3; have KR := Lib.hid (And.intro h3 h4); clear h3 h4))
  have cw3 : Chg G.F w w3 := Chg.of_below KR.out.2
  go_loopw [12] (fun v12 wr => ∃ k Mk Gk, k ≤ n ∧ v12 = I k ∧ writesGo M l = writesGo Mk (l.drop k) ∧ Mk.tr = M.tr ∧ DiskAt wr bd Mk Gk ∧ Chg G.F w wr ∧ (∀ b, Gk.F b → G.F b ∨ w.heap.size ≤ b) ∧ (∀ b, Gk.F b → G.F b ∨ w3.heap.size ≤ b) ∧ w3.heap.size ≤ wr.heap.size ∧ wr.ownsRow w.heap.size 3 1 (.slice A3 n c3) n ((l.map (·.1)).map encZ)) (fun v12 _ => n - (intOf v12).toNat)
  case atStart =>
    have hD3 : DiskAt w3 bd M G := H.out.1.chg (S := Non) (Chg.of_below KR.out.2) fun _ _ => id
    exact ⟨0, M, G, Nat.zero_le _, rfl, rfl, rfl, hD3, cw3, fun b hb => .inl hb, fun b hb => .inl hb, Nat.le_refl _, KR.out.1⟩
  case round =>
    obtain ⟨k, Mk, Gk, hk, rfl, hgo, htr, hD, hchg, hGk, hGk3, hchg3, hrow⟩ := hrel
    have hF0 := H.out.2.2.2.2.2.1
    have hb0 := H.out.2.2.2.2.1
    have nG : ∀ g, g < w.heap.size → ¬ G.F g → ¬ Gk.F g := fun g hg hn e => by rcases hGk g e with e | e; exact hn e; omega
    have hd : wr.cell? ⟨bp, 0, none⟩ = some (ptr bd) := (hchg.cell (a := ⟨bp, 0, none⟩) (World.block_lt_of_cell? w _ d0) H.out.2.2.1.n).trans d0
    by_cases hlt : k < n
    · obtain ⟨gk, ck, cur, hv3, hgb, hblk, hcells⟩ := ownsRow_some hrow (by omega)
      injection hv3 with hA3 _ hck
      subst hA3
      subst hck
      obtain ⟨_, _, _, hl, _, _, hnl⟩ := H.out
      have hkl : k < l.length := by omega
      have hcell : wr.cell? ⟨gk, k, none⟩ = some (I (l[k]).1) := by rw [hblk.cell, hcells k (by simpa using hkl)]; simp
      obtain ⟨hk0, hk1, hk2⟩ := hl.2 _ (List.getElem_mem hkl)
      obtain ⟨vp, hvp, hlook⟩ := HW.out.look_any _ (WalkArith.wf_i64 (by omega)) _ (pfind_at HW.out.pair k hkl)
      have hl0 := hlook G.F wr.drew hchg.drew hb0
      have hgo1 : writesGo Mk (l.drop k) = if (writeM Mk baseN ((l[k]).1.toNat * 512) (l[k]).2).1 = 0 then writesGo (writeM Mk baseN ((l[k]).1.toNat * 512) (l[k]).2).2 (l.drop (k + 1)) else writeM Mk baseN ((l[k]).1.toNat * 512) (l[k]).2 := by
        rw [List.drop_eq_getElem_cons hkl]; rfl
      rw [hgo1] at hgo
      generalize hkey : (l[k]).1 = key at *
      generalize hpage : (l[k]).2 = page at *
      obtain ⟨q, rfl⟩ : ∃ q : Nat, key = (q : Int) := ⟨key.toNat, by omega⟩
      rw [Int.toNat_natCast] at hgo
      have hvpr : PgV wr.drew F vp page := hvp.chg hchg.drew hF0
      obtain ⟨gp, op, cp, rfl, hcp1, hcp2, hcpc⟩ := hvpr.1.cells_at (by omega)
      have hgp : F gp ∧ gp < w.heap.size := ⟨(hvpr.2 gp rfl).1, (hvp.2 gp rfl).2⟩
      have hW := write_any wr.drew bd Mk Gk (hD.chg (S := Non) (Chg.refl _ _).drew fun _ _ => id) (H.out.2.1.of_tr htr) nBase good_base (q * 512) (by omega) gp op cp page (by omega)
        (fun j u hu => by
          rw [List.getElem?_map] at hu
          cases hj : page[j]? with
          | none => simp [hj] at hu
          | some y =>
            obtain ⟨hj1, rfl⟩ := List.getElem?_eq_some_iff.1 hj
            rw [hcpc j hj1]; simpa [hj] using hu) (nG gp hgp.2 (hF0 gp hgp.1))
      rw [hk2] at hW hl0
      have hx : writeM Mk nBase.data.toList (q * 512) page = writeM Mk baseN (q * 512) page := rfl
      rw [hx] at hW
      have htr2 := writeM_tr Mk baseN (q * 512) page
      generalize hX : writeM Mk baseN (q * 512) page = X at *
      have WC : Hid (∀ z : Int, z = ((q * 512 : Nat) : Int) → Calls Tryz.prog 170 #[ptr bd, .string ⟨#[98, 97, 115, 101]⟩, I z, .slice (some ⟨gp, op, none⟩) 512 cp] wr.drew (DPost wr.drew bd Gk (I X.1) X.2)) := fun z hz => by rw [hz]; exact hW
      have HK := Lib.hid (And.intro hgo (And.intro (htr2.trans htr) (And.intro hchg (And.intro hGk (And.intro hGk3 (And.intro hchg3 (And.intro hrow hblk)))))))
      have NG := Lib.hid (And.intro nG (And.intro hF0 hb0))
      have i1 : (k : Int) < (n : Int) := by omega
      have i2 : (0 : Int) ≤ (k : Int) := by omega
      have hwr : IntKind.i64.wrap ((q : Int) * 512) = (q : Int) * 512 := by rw [IntKind.wrap_i64]; omega
      have hq4 : q < 4096 := by omega
      clear hnl hl hvp hlook hgo1 hgo hvpr hcpc hW htr2 htr hchg hGk hGk3 hchg3 hrow hblk hcells nG hF0 hb0 hD hgp hx hX
      go_wp2_with fail
      go_region_held3 (fun w' => w'.cell? ⟨bp, 0, none⟩ = some (ptr bd)) (go_keep) (first | (go_at_call 170; refine (WC.out _ (by omega)).mono ?_; rintro e w5 hpost; obtain ⟨G5, rfl, p1, p2, p3⟩ := hpost; have P5 := Lib.hid (And.intro p1 (And.intro p2 p3)); have hd5 : w5.cell? ⟨bp, 0, none⟩ = some (ptr bd) := (p2.cell (a := ⟨bp, 0, none⟩) (World.block_lt_of_cell? wr _ hd) (NG.out.1 bp (World.block_lt_of_cell? w _ d0) H.out.2.2.1.n)).trans hd; clear p1 p2 p3))
      have NXT : Hid (DiskAt w5 bd X.2 G5 ∧ X.2.tr = M.tr ∧ Chg G.F w w5 ∧ (∀ b, G5.F b → G.F b ∨ w.heap.size ≤ b) ∧ (∀ b, G5.F b → G.F b ∨ w3.heap.size ≤ b) ∧ w3.heap.size ≤ w5.heap.size ∧ w5.ownsRow w.heap.size 3 1 (.slice (some ⟨gk, 0, none⟩) n c3) n ((l.map (·.1)).map encZ)) := by
        obtain ⟨p1, p2, p3⟩ := P5.out
        obtain ⟨hgo, htr, hchg, hGk, hGk3, hchg3, hrow, hblk⟩ := HK.out
        have q3 : ∀ b, G5.F b → G.F b ∨ w.heap.size ≤ b := fun b hb => by
          rcases p3 b hb with e | e
          · exact hGk b e
          · exact .inr (Nat.le_trans hchg.size e)
        have q4 : ∀ b, G5.F b → G.F b ∨ w3.heap.size ≤ b := fun b hb => by
          rcases p3 b hb with e | e
          · exact hGk3 b e
          · exact .inr (Nat.le_trans hchg3 e)
        have hgk : ¬ Gk.F gk := fun e => by
          rcases hGk3 gk e with e | e
          · have := H.out.1.olt gk e; omega
          · have := (World.ownsRow.lt KR.out.1 gk rfl).2; omega
        refine ⟨p1, htr, (hchg.drew).trans p2 hGk, q3, q4, ?_, World.ownsRow.keep_ hrow fun g hg => ?_⟩
        · exact Nat.le_trans hchg3 p2.size
        · simp [Value.ownBlock] at hg; subst hg
          exact p2.block gk hblk.lt hgk
      obtain ⟨x1, X2⟩ := X
      by_cases hx1 : x1 = 0
      · subst hx1
        clear hd hd5 hl0 hcell
        go_wp2_with fail
        go_roundw
        case measure => simp [intOf]; omega
        case rel =>
          obtain ⟨r1, r2, r3, r4, r5, r6, r7⟩ := NXT.out
          exact ⟨k + 1, X2, G5, by omega, by simp, by rw [HK.out.1]; simp, r2, r1, r3, r4, r5, r6, r7⟩
      · have bx : (x1 != 0) = true := by simpa using hx1
        have FIN : Hid (DPost w bd G (I (writesM M l).1) (writesM M l).2 (.returned (I x1)) w5) := by
          obtain ⟨r1, r2, r3, r4, r5, r6, r7⟩ := NXT.out
          have e : writesM M l = (x1, X2) := by
            have := HK.out.1
            simp only [hx1, if_false] at this
            unfold writesM
            rw [this]
            simp [hx1]
          rw [e]
          exact ⟨G5, rfl, r1, r3, r4⟩
        clear hd hd5 hl0 hcell hx1
        go_wp2_with fail
        go_ret
        exact FIN.out
    · obtain rfl : k = n := by omega
      obtain ⟨_, ht, hpd, hl, _, _, hnl⟩ := H.out
      rw [hnl, List.drop_length] at hgo
      have hlen : ∀ ty, (Builtin.len_ #[137] ty #[.map (some b)]).run Tryz.prog wr = .ok (I k) wr := fun ty => by
        rw [(HW.out.chg hchg hb0 hF0).len, ← hnl]
      have e0 : (writesGo M l) = (0, Mk) := by rw [hgo]; rfl
      by_cases hl0 : l = []
      · have FIN : Hid (DPost w bd G (I (writesM M l).1) (writesM M l).2 (.returned (I 0)) wr) := by
          have e : writesM M l = (0, Mk) := by unfold writesM; rw [e0, hl0]; rfl
          rw [e]
          exact ⟨Gk, rfl, hD, hchg, hGk⟩
        obtain rfl : k = 0 := by rw [hnl, hl0]; rfl
        clear hl hnl hgo e0 hl0 hD hchg hGk hGk3 hchg3 hrow nG hF0 hb0 ht hpd
        go_wp2_with fail
        go_ret
        exact FIN.out
      · have bk : ((k : Int) == 0) = false := by
          have : 0 < l.length := List.length_pos_iff.2 hl0
          simp; omega
        have e : writesM M l = syncM Mk baseN := by unfold writesM; rw [e0]; simp [hl0]
        have SY : Hid (Calls Tryz.prog 118 #[ptr bd, .string ⟨#[98, 97, 115, 101]⟩] wr (DPost w bd G (I (writesM M l).1) (writesM M l).2)) := by
          rw [e]
          exact (sync_any wr bd Mk Gk hD (ht.of_tr htr) nBase good_base).mono fun e' w' hp => hp.from_ hchg hGk
        clear hl hnl hgo e0 hl0 hD hchg hGk hGk3 hchg3 hrow nG hF0 hb0 ht hpd e
        go_wp2_with (go_at_call 118; refine SY.out.mono ?_; rintro e' w' hp; have FIN := Lib.hid hp; obtain ⟨G', rfl, _⟩ := hp)
        go_ret
        exact FIN.out
end Go.Proofs.YtamhjjagjjdmoaaGreat
end

section
namespace Go.Proofs.YtamhjjagjjdmoaaGreat
open Go.RowKit Go.Maps Go.Shelf Go.Sort

/-- what lay's closures captured -/
structure LayCap (w : World) (bp bd k0 k1 k2 k3 : Nat) (s : ByteArray) (at_ : Nat) (v : Value) (b : Bts) (G : DG) : Prop where
  c0 : w.cell? ⟨k0, 0, none⟩ = some (ptr bp)
  c1 : w.cell? ⟨k1, 0, none⟩ = some (.string s)
  c2 : w.cell? ⟨k2, 0, none⟩ = some (I at_)
  c3 : w.cell? ⟨k3, 0, none⟩ = some v
  n0 : ¬ G.F k0
  n1 : ¬ G.F k1
  n2 : ¬ G.F k2
  n3 : ¬ G.F k3
  pd : PD w bp bd G
  sl : Sl w v b
  nv : ∀ g, v.ownBlock = some g → ¬ G.F g ∧ g < w.heap.size
theorem LayCap.chg {w w' : World} {bp bd k0 k1 k2 k3 : Nat} {s : ByteArray} {at_ : Nat} {v : Value} {b : Bts} {G G' : DG} (h : LayCap w bp bd k0 k1 k2 k3 s at_ v b G) (c : Chg G.F w w') (hs : ∀ b, G'.F b → G.F b ∨ w.heap.size ≤ b) : LayCap w' bp bd k0 k1 k2 k3 s at_ v b G' := by
  have l0 := World.block_lt_of_cell? w _ h.c0
  have l1 := World.block_lt_of_cell? w _ h.c1
  have l2 := World.block_lt_of_cell? w _ h.c2
  have l3 := World.block_lt_of_cell? w _ h.c3
  have nn : ∀ k, ¬ G.F k → k < w.heap.size → ¬ G'.F k := fun k hk hl e => by rcases hs k e with e | e; exact hk e; omega
  exact ⟨(c.cell l0 h.n0).trans h.c0, (c.cell l1 h.n1).trans h.c1, (c.cell l2 h.n2).trans h.c2, (c.cell l3 h.n3).trans h.c3, nn _ h.n0 l0, nn _ h.n1 l1, nn _ h.n2 l2, nn _ h.n3 l3,
    h.pd.chg c h.pd.n hs, h.sl.chg c fun g hg => (h.nv g hg).1, fun g hg => ⟨nn g (h.nv g hg).1 (h.nv g hg).2, Nat.lt_of_lt_of_le (h.nv g hg).2 c.size⟩⟩

theorem write_sl (w : World) (bd : Nat) (M : DiskM) (G : DG) (h : DiskAt w bd M G) (ht : TrOk M) (s : ByteArray) (hs : GoodName s) (at_ : Nat) (hat : at_ ≤ 1000000000) (v : Value) (b : Bts) (hbl : b.length ≤ 1000000000) (h0 : 0 < b.length) (hsl : Sl w v b) (hg : ∀ g, v.ownBlock = some g → ¬ G.F g) :
    Calls Tryz.prog 170 #[ptr bd, .string s, I at_, v] w (DPost w bd G (I (writeM M s.data.toList at_ b).1) (writeM M s.data.toList at_ b).2) := by
  obtain ⟨g, o, c, rfl, _, _, hc⟩ := hsl.cells_at h0
  exact write_any w bd M G h ht s hs at_ hat g o c b hbl (fun j u hu => by
    rw [List.getElem?_map] at hu
    cases hj : b[j]? with
    | none => simp [hj] at hu
    | some y =>
      obtain ⟨hj1, rfl⟩ := List.getElem?_eq_some_iff.1 hj
      rw [hc j hj1]; simpa [hj] using hu) (hg g rfl)

set_option maxHeartbeats 1000000 in
set_option maxRecDepth 100000 in
theorem lay1_any (w : World) (bp bd k0 k1 k2 k3 : Nat) (s : ByteArray) (hs : GoodName s) (at_ : Nat) (hat : at_ ≤ 1000000000) (v : Value) (b : Bts) (hbl : b.length ≤ 1000000000) (h0 : 0 < b.length) (M : DiskM) (G : DG) (h : DiskAt w bd M G) (ht : TrOk M) (hk : LayCap w bp bd k0 k1 k2 k3 s at_ v b G) :
    Calls Tryz.prog 169 #[ptr k0, ptr k1, ptr k2, ptr k3] w (DPost w bd G (I (writeM M s.data.toList at_ b).1) (writeM M s.data.toList at_ b).2) := by
  have hk' : LayCap w.drew bp bd k0 k1 k2 k3 s at_ v b G := hk.chg (Chg.refl _ _).drew fun b hb => .inl hb
  have W := Lib.hid (write_sl w.drew bd M G (h.chg (S := Non) (Chg.refl _ _).drew fun _ _ => id) ht s hs at_ hat v b hbl h0 hk'.sl fun g hg => (hk'.nv g hg).1)
  have HK := Lib.hid hk'
  have q0 := hk.c0; have q1 := hk.c1; have q2 := hk.c2; have q3 := hk.c3; have q4 := hk.pd.d
  obtain ⟨A, c, rfl, _⟩ := hk.sl.form
  generalize writeM M s.data.toList at_ b = X at *
  obtain ⟨x1, X2⟩ := X
  clear h ht hk hk' hs
  go_enter Tryz.func169, Tryz.ntmps169
  go_wp2_with fail
  go_region_held3 (fun w' => w'.cell? ⟨k0, 0, none⟩ = some (ptr bp) ∧ w'.cell? ⟨k1, 0, none⟩ = some (.string s) ∧ w'.cell? ⟨k2, 0, none⟩ = some (I at_) ∧ w'.cell? ⟨k3, 0, none⟩ = some (.slice A b.length c) ∧ w'.cell? ⟨bp, 0, none⟩ = some (ptr bd)) (go_keep) (first | (go_at_call 170; refine W.out.mono ?_; rintro e w5 hp; have FIN := Lib.hid (hp.from_ (Chg.refl G.F w).drew fun b hb => .inl hb); obtain ⟨G5, rfl, p1, p2, p3⟩ := hp; have K5 := HK.out.chg p2 p3; have r0 := K5.c0; have r1 := K5.c1; have r2 := K5.c2; have r3 := K5.c3; have r4 := K5.pd.d; clear K5 p1 p2 p3))
  go_wp2_with fail
  go_ret
  exact FIN.out

set_option maxHeartbeats 1000000 in
set_option maxRecDepth 100000 in
theorem lay2_any (w : World) (bp bd k0 k1 k2 k3 : Nat) (s : ByteArray) (hs : GoodName s) (at_ : Nat) (v : Value) (b : Bts) (M : DiskM) (G : DG) (h : DiskAt w bd M G) (ht : TrOk M) (hk : LayCap w bp bd k0 k1 k2 k3 s at_ v b G) :
    Calls Tryz.prog 171 #[ptr k0, ptr k1] w (DPost w bd G (I (syncM M s.data.toList).1) (syncM M s.data.toList).2) := by
  have hk' : LayCap w.drew bp bd k0 k1 k2 k3 s at_ v b G := hk.chg (Chg.refl _ _).drew fun b hb => .inl hb
  have W := Lib.hid (sync_any w.drew bd M G (h.chg (S := Non) (Chg.refl _ _).drew fun _ _ => id) ht s hs)
  have HK := Lib.hid hk'
  have q0 := hk.c0; have q1 := hk.c1; have q4 := hk.pd.d
  generalize syncM M s.data.toList = X at *
  obtain ⟨x1, X2⟩ := X
  clear h ht hk hk' hs
  go_enter Tryz.func171, Tryz.ntmps171
  go_wp2_with fail
  go_region_held3 (fun w' => w'.cell? ⟨k0, 0, none⟩ = some (ptr bp) ∧ w'.cell? ⟨k1, 0, none⟩ = some (.string s) ∧ w'.cell? ⟨bp, 0, none⟩ = some (ptr bd)) (go_keep) (first | (go_at_call 118; refine W.out.mono ?_; rintro e w5 hp; have FIN := Lib.hid (hp.from_ (Chg.refl G.F w).drew fun b hb => .inl hb); obtain ⟨G5, rfl, p1, p2, p3⟩ := hp; have K5 := HK.out.chg p2 p3; have r0 := K5.c0; have r1 := K5.c1; have r4 := K5.pd.d; clear K5 p1 p2 p3))
  go_wp2_with fail
  go_ret
  exact FIN.out

set_option maxHeartbeats 1000000 in
set_option maxRecDepth 100000 in
theorem lay4_any (w : World) (bp bd k0 k1 k2 k3 : Nat) (s : ByteArray) (hs : GoodName s) (at_ : Nat) (v : Value) (b : Bts) (M : DiskM) (G : DG) (h : DiskAt w bd M G) (ht : TrOk M) (hk : LayCap w bp bd k0 k1 k2 k3 s at_ v b G) :
    Calls Tryz.prog 173 #[ptr k0, ptr k1] w (DPost w bd G (I (syncM M s.data.toList).1) (syncM M s.data.toList).2) := by
  have hk' : LayCap w.drew bp bd k0 k1 k2 k3 s at_ v b G := hk.chg (Chg.refl _ _).drew fun b hb => .inl hb
  have W := Lib.hid (sync_any w.drew bd M G (h.chg (S := Non) (Chg.refl _ _).drew fun _ _ => id) ht s hs)
  have HK := Lib.hid hk'
  have q0 := hk.c0; have q1 := hk.c1; have q4 := hk.pd.d
  generalize syncM M s.data.toList = X at *
  obtain ⟨x1, X2⟩ := X
  clear h ht hk hk' hs
  go_enter Tryz.func173, Tryz.ntmps173
  go_wp2_with fail
  go_region_held3 (fun w' => w'.cell? ⟨k0, 0, none⟩ = some (ptr bp) ∧ w'.cell? ⟨k1, 0, none⟩ = some (.string s) ∧ w'.cell? ⟨bp, 0, none⟩ = some (ptr bd)) (go_keep) (first | (go_at_call 118; refine W.out.mono ?_; rintro e w5 hp; have FIN := Lib.hid (hp.from_ (Chg.refl G.F w).drew fun b hb => .inl hb); obtain ⟨G5, rfl, p1, p2, p3⟩ := hp; have K5 := HK.out.chg p2 p3; have r0 := K5.c0; have r1 := K5.c1; have r4 := K5.pd.d; clear K5 p1 p2 p3))
  go_wp2_with fail
  go_ret
  exact FIN.out

set_option maxHeartbeats 1000000 in
set_option maxRecDepth 100000 in
theorem lay3_any (w : World) (bp bd k0 k1 k2 k3 : Nat) (s : ByteArray) (hs : GoodName s) (at_ : Nat) (hat : at_ ≤ 1000000000) (v : Value) (b : Bts) (M : DiskM) (G : DG) (h : DiskAt w bd M G) (ht : TrOk M) (hk : LayCap w bp bd k0 k1 k2 k3 s at_ v b G) :
    Calls Tryz.prog 172 #[ptr k0, ptr k1, ptr k2] w (DPost w bd G (I (writeM M s.data.toList at_ [1]).1) (writeM M s.data.toList at_ [1]).2) := by
  obtain ⟨w0, hw0⟩ : ∃ w0, w0 = w.drew.alloc (.cells #[.int .u8 1] 5) := ⟨_, rfl⟩
  have cw : Chg Non w w0 := by rw [hw0]; exact (Chg.refl _ _).drew.alloc _
  have hk' : LayCap w0 bp bd k0 k1 k2 k3 s at_ v b G := hk.chg (cw.mono fun _ hf => hf.elim) fun b hb => .inl hb
  have hsl : Sl w0 (.slice (some ⟨w.heap.size, 0, none⟩) 1 1) [1] := .inr ⟨w.heap.size, 0, 1, rfl, Nat.le_refl _, by decide, fun j u hu => by
    rw [hw0, Nat.zero_add, show w.heap.size = w.drew.heap.size from rfl, (Blk.new w.drew _ _).cell j]
    match j, hu with
    | 0, hu => simpa [B] using hu⟩
  have W := Lib.hid (write_sl w0 bd M G (h.chg cw fun _ _ => id) ht s hs at_ hat _ [1] (by simp) (by simp) hsl fun g hg => by
    simp [Value.ownBlock] at hg; subst hg; exact fun e => by have := h.olt _ e; omega)
  have HK := Lib.hid hk'
  have q0 := hk.c0; have q1 := hk.c1; have q2 := hk.c2; have q4 := hk.pd.d
  have FR : Hid (∀ e w5, DPost w0 bd G (I (writeM M s.data.toList at_ [1]).1) (writeM M s.data.toList at_ [1]).2 e w5 → DPost w bd G (I (writeM M s.data.toList at_ [1]).1) (writeM M s.data.toList at_ [1]).2 e w5) := fun e w5 hp => hp.from_ (cw.mono fun _ hf => hf.elim) fun b hb => .inl hb
  rw [hw0] at W HK FR
  generalize writeM M s.data.toList at_ [1] = X at *
  obtain ⟨x1, X2⟩ := X
  clear h ht hk hk' hs hsl cw hw0
  have n0 := World.new_ne w _ q0; have n1 := World.new_ne w _ q1; have n2 := World.new_ne w _ q2; have n4 := World.new_ne w _ q4
  go_enter Tryz.func172, Tryz.ntmps172
  go_wp2_with fail
  go_region_held3 (fun w' => w'.cell? ⟨k0, 0, none⟩ = some (ptr bp) ∧ w'.cell? ⟨k1, 0, none⟩ = some (.string s) ∧ w'.cell? ⟨k2, 0, none⟩ = some (I at_) ∧ w'.cell? ⟨bp, 0, none⟩ = some (ptr bd)) (go_keep) (first | (go_at_call 170; refine W.out.mono ?_; rintro e w5 hp; have FIN := Lib.hid (FR.out _ _ hp); obtain ⟨G5, rfl, p1, p2, p3⟩ := hp; have K5 := HK.out.chg p2 p3; have r0 := K5.c0; have r1 := K5.c1; have r2 := K5.c2; have r4 := K5.pd.d; clear K5 p1 p2 p3))
  go_wp2_with fail
  go_ret
  exact FIN.out

/-- one of lay's four steps -/
def layStep (n : Bts) (at_ : Nat) (b : Bts) : Nat → DiskM → Int × DiskM
  | 0, M => writeM M n at_ b
  | 1, M => syncM M n
  | 2, M => writeM M n at_ [1]
  | _, M => syncM M n
/-- what is left of lay, j steps ahead of its end -/
def layLeft (n : Bts) (at_ : Nat) (b : Bts) : Nat → DiskM → Int × DiskM
  | 0, M => (0, M)
  | j + 1, M => if (layStep n at_ b (3 - j) M).1 = 0 then layLeft n at_ b j (layStep n at_ b (3 - j) M).2 else layStep n at_ b (3 - j) M
def layM (M : DiskM) (n : Bts) (at_ : Nat) (b : Bts) : Int × DiskM := layLeft n at_ b 4 M
theorem layStep_tr (n : Bts) (at_ : Nat) (b : Bts) (k : Nat) (M : DiskM) : (layStep n at_ b k M).2.tr = M.tr := by
  match k with
  | 0 => exact writeM_tr _ _ _ _
  | 1 => exact syncM_tr _ _
  | 2 => exact writeM_tr _ _ _ _
  | k + 3 => exact syncM_tr _ _
theorem layLeft_succ (n : Bts) (at_ : Nat) (b : Bts) (k : Nat) (hk : k < 4) (M : DiskM) : layLeft n at_ b (4 - k) M = if (layStep n at_ b k M).1 = 0 then layLeft n at_ b (4 - (k + 1)) (layStep n at_ b k M).2 else layStep n at_ b k M := by
  have e : 4 - k = (3 - k) + 1 := by omega
  rw [e, layLeft, show 3 - (3 - k) = k by omega, show 4 - (k + 1) = 3 - k by omega]

set_option maxHeartbeats 2000000 in
set_option maxRecDepth 100000 in
theorem lay_any (w : World) (bp bd : Nat) (s : ByteArray) (hs : GoodName s) (at_ : Nat) (hat : at_ ≤ 1000000000) (v : Value) (b : Bts) (hbl : b.length ≤ 1000000000) (h0 : 0 < b.length) (hsl : Sl w v b) (M : DiskM) (G : DG) (h : DiskAt w bd M G) (ht : TrOk M) (hp : PD w bp bd G) (hv : ∀ g, v.ownBlock = some g → ¬ G.F g ∧ g < w.heap.size) :
    Calls Tryz.prog 121 #[ptr bp, .string s, I at_, v] w (DPost w bd G (I (layM M s.data.toList at_ b).1) (layM M s.data.toList at_ b).2) := by
  obtain ⟨A, c, rfl, _⟩ := hsl.form
  have H := Lib.hid (And.intro hsl (And.intro h (And.intro ht (And.intro hp hv))))
  clear hsl h ht hp hv
  generalize hm : b.length = m at *
  obtain ⟨k0, hk0⟩ : ∃ k0, k0 = w.heap.size := ⟨_, rfl⟩
  obtain ⟨FS, hFS⟩ : ∃ FS : Array Value, FS = #[.func (.func 169) #[] #[ptr k0, ptr (k0 + 1), ptr (k0 + 1 + 1), ptr (k0 + 1 + 1 + 1)], .func (.func 171) #[] #[ptr k0, ptr (k0 + 1)], .func (.func 172) #[] #[ptr k0, ptr (k0 + 1), ptr (k0 + 1 + 1)], .func (.func 173) #[] #[ptr k0, ptr (k0 + 1)]] := ⟨_, rfl⟩
  obtain ⟨W, hW⟩ : ∃ W, W = ((((w.alloc (.cells #[ptr bp] 34)).alloc (.cells #[.string s] 9)).alloc (.cells #[I at_] 3)).alloc (.cells #[.slice A m c] 48)).alloc (.cells FS 46) := ⟨_, rfl⟩
  have ST : Hid (DiskAt W bd M G ∧ Chg G.F w W ∧ LayCap W bp bd k0 (k0 + 1) (k0 + 1 + 1) (k0 + 1 + 1 + 1) s at_ (.slice A m c) b G ∧ Blk W (k0 + 1 + 1 + 1 + 1) 46 FS ∧ ¬ G.F (k0 + 1 + 1 + 1 + 1)) := by
    obtain ⟨hsl, h, ht, hp, hv⟩ := H.out
    have cN : Chg Non w W := by rw [hW]; exact (((((Chg.refl _ w).alloc _).alloc _).alloc _).alloc _).alloc _
    have nn : ∀ k, w.heap.size ≤ k → ¬ G.F k := fun k hk e => by have := h.olt k e; omega
    refine ⟨h.chg cN fun _ _ => id, cN.mono fun _ hf => hf.elim, ⟨?_, ?_, ?_, ?_, nn _ (by omega), nn _ (by omega), nn _ (by omega), nn _ (by omega), hp.chg cN id fun b hb => .inl hb, hsl.chg cN fun _ _ => id, fun g hg => ⟨(hv g hg).1, Nat.lt_of_lt_of_le (hv g hg).2 cN.size⟩⟩, ?_, nn _ (by omega)⟩
    · rw [hW, hk0]; simp [go_sem]
    · rw [hW, hk0]; simp [go_sem]
    · rw [hW, hk0]; simp [go_sem]
    · rw [hW, hk0]; simp [go_sem]
    · rw [hW]
      have := Blk.new (((((w.alloc (.cells #[ptr bp] 34)).alloc (.cells #[.string s] 9)).alloc (.cells #[I at_] 3)).alloc (.cells #[.slice A m c] 48))) 46 FS
      simpa [hk0] using this
  have HS := Lib.hid hs
  have HX := Lib.hid (And.intro hat (And.intro hbl (And.intro h0 hm)))
  have HT := Lib.hid H.out.2.2.1
  have HF := Lib.hid hFS
  have HWK := Lib.hid (And.intro hW hk0)
  clear H hs hat hbl h0 hm
  go_enter Tryz.func121, Tryz.ntmps121
  go_wp2_with fail
  rw [← hk0]
  simp only [← hFS, ← hW]
  clear hFS hW hk0
  go_loopw [18] (fun v18 wr => ∃ (k : Nat) (Mk : DiskM) (Gk : DG), k ≤ 4 ∧ v18 = I k ∧ layM M s.data.toList at_ b = layLeft s.data.toList at_ b (4 - k) Mk ∧ Mk.tr = M.tr ∧ DiskAt wr bd Mk Gk ∧ Chg G.F w wr ∧ (∀ b, Gk.F b → G.F b ∨ w.heap.size ≤ b) ∧ LayCap wr bp bd k0 (k0 + 1) (k0 + 1 + 1) (k0 + 1 + 1 + 1) s at_ (.slice A m c) b Gk ∧ Blk wr (k0 + 1 + 1 + 1 + 1) 46 FS ∧ ¬ Gk.F (k0 + 1 + 1 + 1 + 1)) (fun v18 _ => 4 - (intOf v18).toNat)
  case atStart => exact ⟨0, M, G, by omega, rfl, rfl, rfl, ST.out.1, ST.out.2.1, fun b hb => .inl hb, ST.out.2.2.1, ST.out.2.2.2.1, ST.out.2.2.2.2⟩
  case round =>
    obtain ⟨k, Mk, Gk, hk, rfl, hgo, htr, hD, hchg, hGk, hcap, hblk, hnf⟩ := hrel
    have NXT : Hid (∀ j : Nat, j < 4 → k = j → ∀ e w5, DPost wr bd Gk (I (layStep s.data.toList at_ b j Mk).1) (layStep s.data.toList at_ b j Mk).2 e w5 →
        e = .returned (I (layStep s.data.toList at_ b j Mk).1) ∧
        ((layStep s.data.toList at_ b j Mk).1 = 0 → ∃ (k' : Nat) (Mk' : DiskM) (Gk' : DG), k' ≤ 4 ∧ I ((j + 1 : Nat) : Int) = I k' ∧ layM M s.data.toList at_ b = layLeft s.data.toList at_ b (4 - k') Mk' ∧ Mk'.tr = M.tr ∧ DiskAt w5 bd Mk' Gk' ∧ Chg G.F w w5 ∧ (∀ b, Gk'.F b → G.F b ∨ w.heap.size ≤ b) ∧ LayCap w5 bp bd k0 (k0 + 1) (k0 + 1 + 1) (k0 + 1 + 1 + 1) s at_ (.slice A m c) b Gk' ∧ Blk w5 (k0 + 1 + 1 + 1 + 1) 46 FS ∧ ¬ Gk'.F (k0 + 1 + 1 + 1 + 1)) ∧
        (¬ (layStep s.data.toList at_ b j Mk).1 = 0 → DPost w bd G (I (layM M s.data.toList at_ b).1) (layM M s.data.toList at_ b).2 (.returned (I (layStep s.data.toList at_ b j Mk).1)) w5)) := by
      rintro j hj rfl e w5 ⟨G5, rfl, p1, p2, p3⟩
      rw [layLeft_succ _ _ _ k hj] at hgo
      have q3 : ∀ b, G5.F b → G.F b ∨ w.heap.size ≤ b := fun b hb => by
        rcases p3 b hb with e | e
        · exact hGk b e
        · exact .inr (Nat.le_trans hchg.size e)
      refine ⟨rfl, fun h0 => ?_, fun h0 => ?_⟩
      · rw [if_pos h0] at hgo
        exact ⟨k + 1, _, G5, by omega, rfl, hgo, (layStep_tr _ _ _ _ _).trans htr, p1, hchg.trans p2 hGk, q3, hcap.chg p2 p3, hblk.chg p2 hnf, fun e => by
          rcases p3 _ e with e | e
          · exact hnf e
          · have := hblk.lt; omega⟩
      · rw [if_neg h0] at hgo
        rw [hgo]
        exact ⟨G5, rfl, p1, hchg.trans p2 hGk, q3⟩
    have hk4 : k = 0 ∨ k = 1 ∨ k = 2 ∨ k = 3 ∨ k = 4 := by omega
    rcases hk4 with rfl | rfl | rfl | rfl | rfl
    · have C := Lib.hid (lay1_any wr bp bd k0 (k0 + 1) (k0 + 1 + 1) (k0 + 1 + 1 + 1) s HS.out at_ HX.out.1 _ b (by rw [HX.out.2.2.2]; exact HX.out.2.1) (by rw [HX.out.2.2.2]; exact HX.out.2.2.1) Mk Gk hD (HT.out.of_tr htr) hcap)
      have fc : wr.cell? ⟨k0 + 1 + 1 + 1 + 1, 0, none⟩ = some FS[0]! := by rw [hblk.cell 0, HF.out]; rfl
      rw [HF.out] at fc
      simp only [Array.getElem!_eq_getD] at fc
      change wr.cell? ⟨k0 + 1 + 1 + 1 + 1, 0, none⟩ = some (.func (.func 169) #[] #[ptr k0, ptr (k0 + 1), ptr (k0 + 1 + 1), ptr (k0 + 1 + 1 + 1)]) at fc
      have NX := Lib.hid (NXT.out 0 (by omega) rfl)
      change Hid (Calls Tryz.prog _ _ wr (DPost wr bd Gk (I (layStep s.data.toList at_ b 0 Mk).1) (layStep s.data.toList at_ b 0 Mk).2)) at C
      generalize layStep s.data.toList at_ b 0 Mk = X at *
      obtain ⟨x1, X2⟩ := X
      clear NXT hgo htr hD hchg hGk hcap hblk hnf hk
      by_cases hx1 : x1 = 0
      · subst hx1
        go_wp2_with (go_at_call 169; refine C.out.mono ?_; rintro e w5 hp; obtain ⟨h1, h2, _⟩ := NX.out e w5 hp; subst h1; have R := Lib.hid (h2 rfl); clear h2 hp)
        go_roundw
        case measure => simp [intOf]
        case rel => exact R.out
      · have bx : (x1 != 0) = true := by simpa using hx1
        have HX1 := Lib.hid hx1
        clear hx1
        go_wp2_with (go_at_call 169; refine C.out.mono ?_; rintro e w5 hp; obtain ⟨h1, _, h3⟩ := NX.out e w5 hp; subst h1; have R := Lib.hid (h3 HX1.out); clear h3 hp)
        go_ret
        exact R.out
    · have C := Lib.hid (lay2_any wr bp bd k0 (k0 + 1) (k0 + 1 + 1) (k0 + 1 + 1 + 1) s HS.out at_ _ b Mk Gk hD (HT.out.of_tr htr) hcap)
      have fc : wr.cell? ⟨k0 + 1 + 1 + 1 + 1, 1, none⟩ = some FS[1]! := by rw [hblk.cell 1, HF.out]; rfl
      rw [HF.out] at fc
      simp only [Array.getElem!_eq_getD] at fc
      change wr.cell? ⟨k0 + 1 + 1 + 1 + 1, 1, none⟩ = some (.func (.func 171) #[] #[ptr k0, ptr (k0 + 1)]) at fc
      have NX := Lib.hid (NXT.out 1 (by omega) rfl)
      change Hid (Calls Tryz.prog _ _ wr (DPost wr bd Gk (I (layStep s.data.toList at_ b 1 Mk).1) (layStep s.data.toList at_ b 1 Mk).2)) at C
      generalize layStep s.data.toList at_ b 1 Mk = X at *
      obtain ⟨x1, X2⟩ := X
      clear NXT hgo htr hD hchg hGk hcap hblk hnf hk
      by_cases hx1 : x1 = 0
      · subst hx1
        go_wp2_with (go_at_call 171; refine C.out.mono ?_; rintro e w5 hp; obtain ⟨h1, h2, _⟩ := NX.out e w5 hp; subst h1; have R := Lib.hid (h2 rfl); clear h2 hp)
        go_roundw
        case measure => simp [intOf]
        case rel => exact R.out
      · have bx : (x1 != 0) = true := by simpa using hx1
        have HX1 := Lib.hid hx1
        clear hx1
        go_wp2_with (go_at_call 171; refine C.out.mono ?_; rintro e w5 hp; obtain ⟨h1, _, h3⟩ := NX.out e w5 hp; subst h1; have R := Lib.hid (h3 HX1.out); clear h3 hp)
        go_ret
        exact R.out
    · have C := Lib.hid (lay3_any wr bp bd k0 (k0 + 1) (k0 + 1 + 1) (k0 + 1 + 1 + 1) s HS.out at_ HX.out.1 _ b Mk Gk hD (HT.out.of_tr htr) hcap)
      have fc : wr.cell? ⟨k0 + 1 + 1 + 1 + 1, 2, none⟩ = some FS[2]! := by rw [hblk.cell 2, HF.out]; rfl
      rw [HF.out] at fc
      simp only [Array.getElem!_eq_getD] at fc
      change wr.cell? ⟨k0 + 1 + 1 + 1 + 1, 2, none⟩ = some (.func (.func 172) #[] #[ptr k0, ptr (k0 + 1), ptr (k0 + 1 + 1)]) at fc
      have NX := Lib.hid (NXT.out 2 (by omega) rfl)
      change Hid (Calls Tryz.prog _ _ wr (DPost wr bd Gk (I (layStep s.data.toList at_ b 2 Mk).1) (layStep s.data.toList at_ b 2 Mk).2)) at C
      generalize layStep s.data.toList at_ b 2 Mk = X at *
      obtain ⟨x1, X2⟩ := X
      clear NXT hgo htr hD hchg hGk hcap hblk hnf hk
      by_cases hx1 : x1 = 0
      · subst hx1
        go_wp2_with (go_at_call 172; refine C.out.mono ?_; rintro e w5 hp; obtain ⟨h1, h2, _⟩ := NX.out e w5 hp; subst h1; have R := Lib.hid (h2 rfl); clear h2 hp)
        go_roundw
        case measure => simp [intOf]
        case rel => exact R.out
      · have bx : (x1 != 0) = true := by simpa using hx1
        have HX1 := Lib.hid hx1
        clear hx1
        go_wp2_with (go_at_call 172; refine C.out.mono ?_; rintro e w5 hp; obtain ⟨h1, _, h3⟩ := NX.out e w5 hp; subst h1; have R := Lib.hid (h3 HX1.out); clear h3 hp)
        go_ret
        exact R.out
    · have C := Lib.hid (lay4_any wr bp bd k0 (k0 + 1) (k0 + 1 + 1) (k0 + 1 + 1 + 1) s HS.out at_ _ b Mk Gk hD (HT.out.of_tr htr) hcap)
      have fc : wr.cell? ⟨k0 + 1 + 1 + 1 + 1, 3, none⟩ = some FS[3]! := by rw [hblk.cell 3, HF.out]; rfl
      rw [HF.out] at fc
      simp only [Array.getElem!_eq_getD] at fc
      change wr.cell? ⟨k0 + 1 + 1 + 1 + 1, 3, none⟩ = some (.func (.func 173) #[] #[ptr k0, ptr (k0 + 1)]) at fc
      have NX := Lib.hid (NXT.out 3 (by omega) rfl)
      change Hid (Calls Tryz.prog _ _ wr (DPost wr bd Gk (I (layStep s.data.toList at_ b 3 Mk).1) (layStep s.data.toList at_ b 3 Mk).2)) at C
      generalize layStep s.data.toList at_ b 3 Mk = X at *
      obtain ⟨x1, X2⟩ := X
      clear NXT hgo htr hD hchg hGk hcap hblk hnf hk
      by_cases hx1 : x1 = 0
      · subst hx1
        go_wp2_with (go_at_call 173; refine C.out.mono ?_; rintro e w5 hp; obtain ⟨h1, h2, _⟩ := NX.out e w5 hp; subst h1; have R := Lib.hid (h2 rfl); clear h2 hp)
        go_roundw
        case measure => simp [intOf]
        case rel => exact R.out
      · have bx : (x1 != 0) = true := by simpa using hx1
        have HX1 := Lib.hid hx1
        clear hx1
        go_wp2_with (go_at_call 173; refine C.out.mono ?_; rintro e w5 hp; obtain ⟨h1, _, h3⟩ := NX.out e w5 hp; subst h1; have R := Lib.hid (h3 HX1.out); clear h3 hp)
        go_ret
        exact R.out
    · have FIN : Hid (DPost w bd G (I (layM M s.data.toList at_ b).1) (layM M s.data.toList at_ b).2 (.returned (I 0)) wr) := by
        rw [hgo]
        exact ⟨Gk, rfl, hD, hchg, hGk⟩
      clear NXT hgo htr hD hchg hGk hcap hblk hnf hk
      go_wp2_with fail
      go_ret
      exact FIN.out
end Go.Proofs.YtamhjjagjjdmoaaGreat
end

section
namespace Go.Proofs.YtamhjjagjjdmoaaGreat
open Go.RowKit Go.Maps Go.Shelf Go.Sort

set_option maxHeartbeats 1000000 in
set_option maxRecDepth 100000 in
theorem undo_no (w : World) (bp bd : Nat) (M : DiskM) (G : DG) (h : DiskAt w bd M G) (hp : PD w bp bd G) (ho : M.off = false) (hn : journalN ∉ M.names) :
    Calls Tryz.prog 87 #[ptr bp] w fun e w' => e = .returned (I 0) ∧ w' = w := by
  have A := Lib.hid (all_no w bp bd M G h hp nJournal good_journal ho hn)
  clear h hp ho hn
  go_enter Tryz.func87, Tryz.ntmps87
  go_wp2_with (go_at_call 116; refine A.out.mono ?_; rintro e w' ⟨rfl, rfl⟩)
  go_ret
  exact ⟨rfl, rfl⟩

abbrev LogL := List (Nat × PgL)
def blocksOn (L : LogL) : Bts := L.flatMap fun p => blockOn p.1 p.2
def overlay (L : LogL) : PgL := L.foldl (fun m p => pover m p.2) []
def lastCount (L : LogL) : Int := match L.getLast? with | some p => p.1 | none => -1
def BlkOk (p : Nat × PgL) : Prop := p.1 ≤ 4096 ∧ PgOk p.2 ∧ p.2.Pairwise fun a b => a.1 < b.1
def LogOk (L : LogL) : Prop := ∀ p ∈ L, BlkOk p
/-- the log of a disk: these blocks, one behind the other -/
def LogIs (M : DiskM) (L : LogL) : Prop := (logN ∉ M.names ∧ L = []) ∨ (logN ∈ M.names ∧ (M.file logN).seen = blocksOn L)

theorem all_log (w : World) (bp bd : Nat) (M : DiskM) (G : DG) (h : DiskAt w bd M G) (hp : PD w bp bd G) (ho : M.off = false) (L : LogL) (hL : LogIs M L) :
    Calls Tryz.prog 116 #[ptr bp, .string nLog] w fun e w' => ∃ v t, e = .returned (.tuple #[v, .bool t, I 0]) ∧ OwnB w' v (blocksOn L) ∧ Below w.heap.size w w' ∧ ∀ g, v.ownBlock = some g → w.heap.size ≤ g := by
  rcases hL with ⟨hn, rfl⟩ | ⟨hn, hs⟩
  · refine (all_no w bp bd M G h hp nLog good_log ho hn).mono ?_
    rintro e w' ⟨rfl, rfl⟩
    exact ⟨_, _, rfl, .inl ⟨rfl, rfl⟩, Below.refl _ _, fun g hg => by simp [Value.ownBlock] at hg⟩
  · refine (all_yes w bp bd M G h hp nLog good_log ho hn).mono ?_
    rintro e w' ⟨v, rfl, h1, h2⟩
    exact ⟨v, _, rfl, by rw [← hs]; exact h1, h2⟩
theorem LogIs.len {w : World} {bd : Nat} {M : DiskM} {G : DG} {L : LogL} (h : DiskAt w bd M G) (hL : LogIs M L) : (blocksOn L).length ≤ 4194304 := by
  rcases hL with ⟨hn, rfl⟩ | ⟨hn, hs⟩
  · simp [blocksOn]
  · rw [← hs]; exact (h.lens _ hn).2

theorem length_blockOn (p : Nat × PgL) (h : BlkOk p) : (blockOn p.1 p.2).length = 9 + p.2.length * 516 := by
  simp [blockOn, bytes4, length_flat p.2 h.2.1.2]; omega
theorem length_pins (x : Int × Bts) : ∀ l : PgL, (pins x l).length = l.length + 1
  | [] => rfl
  | y :: r => by
    simp only [pins]
    split
    · rfl
    · simp [length_pins x r]
theorem length_pput (l : PgL) (k : Int) (x : Bts) : (pput l k x).length ≤ l.length + 1 := by
  rw [pput, length_pins]
  have : (pdel l k).length ≤ l.length := List.length_filter_le _ _
  omega
theorem length_pover : ∀ (l m : PgL), (pover m l).length ≤ m.length + l.length
  | [], m => by simp [pover]
  | p :: r, m => by
    have h1 := length_pover r (pput m p.1 p.2)
    have h2 := length_pput m p.1 p.2
    simp only [pover, List.foldl_cons, List.length_cons] at h1 ⊢
    omega
theorem overlay_snoc (L : LogL) (p : Nat × PgL) : overlay (L ++ [p]) = pover (overlay L) p.2 := by simp [overlay, List.foldl_append]
theorem blocksOn_snoc (L : LogL) (p : Nat × PgL) : blocksOn (L ++ [p]) = blocksOn L ++ blockOn p.1 p.2 := by simp [blocksOn]
theorem lastCount_snoc (L : LogL) (p : Nat × PgL) : lastCount (L ++ [p]) = p.1 := by simp [lastCount]
set_option maxRecDepth 100000 in
theorem length_overlay : ∀ (n : Nat) (L : LogL), L.length = n → LogOk L → (overlay L).length * 516 + L.length * 9 ≤ (blocksOn L).length := by
  intro n
  induction n with
  | zero => intro L hl _; obtain rfl : L = [] := List.eq_nil_of_length_eq_zero hl; simp [overlay, blocksOn]
  | succ n ih =>
    intro L hl hok
    have hne : L ≠ [] := fun e => by rw [e] at hl; simp at hl
    obtain ⟨L', p, rfl⟩ : ∃ L' p, L = L' ++ [p] := ⟨L.dropLast, L.getLast hne, (List.dropLast_concat_getLast hne).symm⟩
    have := ih L' (by simpa using hl) fun q hq => hok q (by simp [hq])
    have h2 := length_pover p.2 (overlay L')
    have h3 : (blocksOn (L' ++ [p])).length = (blocksOn L').length + (9 + p.2.length * 516) := by
      have h4 := length_blockOn p (hok p (by simp))
      rw [blocksOn_snoc, ← h4]; exact List.length_append
    have h5 : (L' ++ [p]).length = L'.length + 1 := by simp
    rw [overlay_snoc, h3, h5]
    generalize (pover (overlay L') p.2).length = x1 at *
    generalize (overlay L').length = x2 at *
    generalize L'.length = x3 at *
    generalize (blocksOn L').length = x4 at *
    generalize p.2.length = x5 at *
    omega

theorem PgW.ne_blk {w : World} {F : Nat → Prop} {b g : Nat} {l : PgL} {t : TypeId} {cs : Array Value} (h : PgW w F b l) (hb : Blk w g t cs) : g ≠ b := by
  rintro rfl
  obtain ⟨m, ⟨es, clock, hm, _⟩, _⟩ := h
  unfold Blk at hb
  rw [hb] at hm
  cases hm
/-- maps.Copy at pages -/
theorem PgW.copy {w : World} {F : Nat → Prop} {b b2 : Nat} {m l : PgL} (h : PgW w F b m) (h2 : PgW w F b2 l) (hne : b2 ≠ b) (hl : m.length + l.length ≤ maxLen) :
    Calls Tryz.prog 164 #[.map (some b), .map (some b2)] w fun e w' => e = .returned (.tuple #[]) ∧ PgW w' F b (pover m l) ∧ Chg (fun x => x = b) w w' := by
  obtain ⟨mm, h3, h4⟩ := h
  obtain ⟨ll, h5, h6⟩ := h2
  refine (copyM_any w b b2 mm ll h3 h5 hne (by rw [All2.length h4, All2.length h6]; exact hl)).mono ?_
  rintro e w' ⟨rfl, h7, h8⟩
  have c := Chg.grown (S := fun x => x = b) (Chg.refl _ w) h8 fun g hg => .inl (by injection hg with hg; exact hg.symm)
  exact ⟨rfl, ⟨_, h7, All2.imp' (PgE.over h6 h4) fun p q hpq => ⟨hpq.1, hpq.2.put_ h8 h3⟩⟩, c⟩
/-- BLOCKS -/
def BlocksJ (w0 : World) (F : Nat → Prop) (bp N : Nat) (L : LogL) : Act → World → Prop := fun a' w' => ∃ (k : Nat) (f : Int) (end_ : Nat) (t : Bool) (bm : Nat) (A1 : Option Addr) (c1 : Nat) (u9 u10 u11 u12 u13 u14 u15 u16 u17 u18 u19 u20 u21 u22 u23 u24 u25 u26 u27 u28 u29 u30 u31 u32 u33 u34 u35 u36 u37 u38 u39 u40 u41 u42 u43 : Value), a' = { tmps := #[ptr bp, undef, .map (some bm), I f, I end_, I 0, I 0, .slice A1 N c1, .bool t, u9, u10, u11, u12, u13, u14, u15, u16, u17, u18, u19, u20, u21, u22, u23, u24, u25, u26, u27, u28, u29, u30, u31, u32, u33, u34, u35, u36, u37, u38, u39, u40, u41, u42, u43], defers := [] } ∧ k ≤ L.length ∧ f = lastCount (L.take k) ∧ end_ = (blocksOn (L.take k)).length ∧ PgW w' F bm (overlay (L.take k)) ∧ Chg Non w0 w' ∧ OwnB w' (.slice A1 N c1) (blocksOn L) ∧ w0.heap.size ≤ bm ∧ (∀ g, (Value.slice A1 N c1).ownBlock = some g → w0.heap.size ≤ g)
theorem results_tmp5 {fn : Func} {t u v x y : Tmp} (h : fn.results = #[.tmp t, .tmp u, .tmp v, .tmp x, .tmp y]) (tmps : Array Value) (P : Program) (w : World) :
    (results fn tmps).run P w = .ok (.tuple #[tmps.getD t undef, tmps.getD u undef, tmps.getD v undef, tmps.getD x undef, tmps.getD y undef]) w := by
  simp [results, h]
theorem blocksOn_drop (L : LogL) (k : Nat) (hk : k < L.length) : (blocksOn L).drop (blocksOn (L.take k)).length = blockOn (L[k]).1 (L[k]).2 ++ blocksOn (L.drop (k + 1)) := by
  have e : blocksOn L = blocksOn (L.take k) ++ (blockOn (L[k]).1 (L[k]).2 ++ blocksOn (L.drop (k + 1))) := by
    have e2 : L = L.take k ++ (L[k] :: L.drop (k + 1)) := by rw [← List.drop_eq_getElem_cons hk, List.take_append_drop]
    calc blocksOn L = blocksOn (L.take k ++ (L[k] :: L.drop (k + 1))) := by rw [← e2]
      _ = _ := by simp only [blocksOn, List.flatMap_append, List.flatMap_cons]
  rw [e]; exact List.drop_left' rfl

set_option maxHeartbeats 2000000 in
set_option maxRecDepth 100000 in
theorem blocks_any (w : World) (bp bd : Nat) (M : DiskM) (G : DG) (h : DiskAt w bd M G) (hp : PD w bp bd G) (ho : M.off = false) (L : LogL) (hL : LogIs M L) (hok : LogOk L) :
    Calls Tryz.prog 117 #[ptr bp] w fun e w' => ∃ bm, e = .returned (.tuple #[.map (some bm), I (lastCount L), I (blocksOn L).length, I (blocksOn L).length, I 0]) ∧ PgW w' (fun g => w.heap.size ≤ g) bm (overlay L) ∧ Chg Non w w' ∧ w.heap.size ≤ bm := by
  have A := Lib.hid (all_log w bp bd M G h hp ho L hL)
  have hN := hL.len h
  have HK := Lib.hid (And.intro hok hN)
  clear h hp ho hL hok hN
  have hmk := fun w => makeMap_run w
  go_enter Tryz.func117, Tryz.ntmps117
  generalize hN : (blocksOn L).length = N at *
  go_wp2_with fail
  refine wp_scope_once 0 (BlocksJ w (fun g => w.heap.size ≤ g) bp N L) (fun a' _ => N - (intOf (a'.tmps.getD 4 undef)).toNat) rfl ?_ ?_
  · rintro a wr ⟨k, f, end_, t, bm, A1, c1, u9, u10, u11, u12, u13, u14, u15, u16, u17, u18, u19, u20, u21, u22, u23, u24, u25, u26, u27, u28, u29, u30, u31, u32, u33, u34, u35, u36, u37, u38, u39, u40, u41, u42, u43, rfl, hk, hf, hend, hpg, hchg, how, hbm, hfr⟩
    by_cases hlt : k < L.length
    · obtain ⟨g1, cap, cur, hv, hblk, _, _, _, _⟩ := how.some_form (by
        have h1 := blocksOn_drop L k hlt
        have h2 : 0 < ((blocksOn L).drop (blocksOn (L.take k)).length).length := by rw [h1]; simp [blockOn]
        rw [List.length_drop] at h2; omega)
      injection hv with hA1 hN1 hc1
      subst hA1
      subst hc1
      have hbk := HK.out.1 _ (List.getElem_mem hlt)
      have hdr := blocksOn_drop L k hlt
      have hE : end_ + (blockOn (L[k]).1 (L[k]).2).length ≤ N := by
        have h2 := congrArg List.length hdr
        rw [List.length_drop, List.length_append, ← hend, hN] at h2
        have h3 : (blockOn (L[k]).1 (L[k]).2).length > 0 := by simp [blockOn]
        omega
      have h9 : 9 ≤ (blockOn (L[k]).1 (L[k]).2).length := by rw [length_blockOn _ hbk]; omega
      have hsl : Sl wr (.slice (some ⟨g1, end_, none⟩) (N - end_) (c1 - end_)) (blockOn (L[k]).1 (L[k]).2 ++ blocksOn (L.drop (k + 1))) := by
        have := Sl.sub how.sl end_ N (by omega) (Nat.le_refl _)
        rw [Nat.zero_add] at this
        rw [← hdr, ← hend, ← hN]
        rw [← hN, List.take_length] at this
        rw [hN] at this ⊢
        exact this
      have PB := Lib.hid (parse_block wr _ (L[k]).1 (L[k]).2 _ hsl hbk.2.1 hbk.2.2 hbk.1 (by rw [← hdr, List.length_drop, hN]; have := HK.out.2; omega))
      have htk : L.take (k + 1) = L.take k ++ [L[k]] := List.take_succ_eq_append_getElem hlt
      have NX : Hid ((lastCount (L.take (k + 1)) = (L[k]).1) ∧ (end_ + (blockOn (L[k]).1 (L[k]).2).length = (blocksOn (L.take (k + 1))).length) ∧ overlay (L.take (k + 1)) = pover (overlay (L.take k)) (L[k]).2 ∧ (overlay (L.take k)).length + (L[k]).2.length ≤ maxLen) := by
        refine ⟨by rw [htk, lastCount_snoc], by rw [htk, blocksOn_snoc, List.length_append, hend], by rw [htk, overlay_snoc], ?_⟩
        have h1 := length_overlay _ (L.take k) rfl fun q hq => HK.out.1 q (List.mem_of_mem_take hq)
        have h2 := hbk.2.1.1
        have h3 := HK.out.2
        unfold maxLen
        omega
      have HS := Lib.hid (And.intro hpg (And.intro hchg (And.intro how (And.intro hbm (And.intro hfr hblk)))))
      generalize hcnt : (L[k]).1 = cnt at *
      generalize hlp : (L[k]).2 = lp at *
      obtain ⟨z, hz⟩ : ∃ z, z = (blockOn cnt lp).length := ⟨_, rfl⟩
      rw [← hz] at hE h9 PB NX
      have b1 : decide (0 < (z : Int)) = true := by simp; omega
      have i1 : (end_ : Int) ≤ (N : Int) := by omega
      have i2 : ¬ c1 = end_ := by have := how.len; omega
      have hw1 : IntKind.i64.wrap ((end_ : Int) + (z : Int)) = ((end_ + z : Nat) : Int) := by rw [IntKind.wrap_i64]; have := HK.out.2; omega
      have HZ := Lib.hid (And.intro hz hend)
      clear hz hend hf hpg hchg how hbm hfr hblk hsl htk hdr hcnt hlp hbk hN hN1
      go_wp2_with fail
      refine PB.out.mono ?_
      rintro e w5 ⟨bm2, rfl, p1, p2, p3⟩
      have hpg5 := HS.out.1.chg p2 id fun _ _ => id
      have hlt2 := HS.out.1.lt
      have hpg2 : PgW w5 (fun g => w.heap.size ≤ g) bm2 lp := p1.mono fun g hg => HS.out.2.2.2.2.1 g hg
      have CP := Lib.hid (PgW.copy hpg5 hpg2 (by omega) NX.out.2.2.2)
      have HP5 := Lib.hid (And.intro hpg5 p2)
      clear p1 p2 hpg5 hpg2
      go_wp2_with (go_at_call 164; refine CP.out.mono ?_; rintro e w6 ⟨rfl, q1, q2⟩; have Q := Lib.hid (And.intro q1 q2); clear q1 q2)
      go_step3
      refine ⟨rfl, ⟨k + 1, _, end_ + z, t, bm, _, _, _, _, _, _, _, _, _, _, _, _, _, _, _, _, _, _, _, _, _, _, _, _, _, _, _, _, _, _, _, _, _, _, _, _, _, rfl, by omega, NX.out.1.symm, NX.out.2.1, by rw [NX.out.2.2.1]; exact Q.out.1, ?_, ?_, HS.out.2.2.2.1, HS.out.2.2.2.2.1⟩, ?_⟩
      · exact (HS.out.2.1.tr HP5.out.2).trans Q.out.2 fun b hb => .inr (by rw [hb]; exact HS.out.2.2.2.1)
      · refine (HS.out.2.2.1.chg HP5.out.2 fun _ _ => id).chg Q.out.2 fun g hg e => ?_
        simp [Value.ownBlock] at hg
        subst hg
        have hb5 := HS.out.2.2.2.2.2.chg HP5.out.2 id
        rw [e] at hb5
        exact HP5.out.1.ne_blk hb5 rfl
      · simp [intOf]; omega
    · obtain rfl : k = L.length := by omega
      rw [List.take_length] at hf hend hpg
      rw [hN] at hend
      have FIN : Hid (PgW wr (fun g => w.heap.size ≤ g) bm (overlay L) ∧ Chg Non w wr ∧ w.heap.size ≤ bm) := ⟨hpg, hchg, hbm⟩
      have EQ : Hid (f = lastCount L ∧ N = (blocksOn L).length) := ⟨hf, hN.symm⟩
      subst hend
      clear hf hpg hchg hbm hfr hN
      rcases how with ⟨hv, _⟩ | ⟨g1, cap, cur, hv, _⟩
      · injection hv with h1 h2 h3
        subst h1; subst h2; subst h3
        go_wp2_with (go_at_call 131; refine (parse_short _ _ _ _ (by omega)).mono ?_; rintro e w5 ⟨rfl, rfl⟩)
        simp only [Exit.jump]
        (try simp only [Exit.inBlock, Exit.then])
        refine bodyPost_ret (results_tmp5 rfl _ _ _) rfl ?_
        exact ⟨bm, by first | (rw [← EQ.out.1, ← EQ.out.2]; rfl) | (rw [← EQ.out.1]; rfl), FIN.out⟩
      · injection hv with h1 h2 h3
        subst h1
        subst h3
        by_cases hcN : c1 = end_
        · subst hcN
          go_wp2_with (go_at_call 131; refine (parse_short _ _ _ _ (by omega)).mono ?_; rintro e w5 ⟨rfl, rfl⟩)
          simp only [Exit.jump]
          (try simp only [Exit.inBlock, Exit.then])
          refine bodyPost_ret (results_tmp5 rfl _ _ _) rfl ?_
          exact ⟨bm, by first | (rw [← EQ.out.1, ← EQ.out.2]; rfl) | (rw [← EQ.out.1]; rfl), FIN.out⟩
        · go_wp2_with (go_at_call 131; refine (parse_short _ _ _ _ (by omega)).mono ?_; rintro e w5 ⟨rfl, rfl⟩)
          simp only [Exit.jump]
          (try simp only [Exit.inBlock, Exit.then])
          refine bodyPost_ret (results_tmp5 rfl _ _ _) rfl ?_
          exact ⟨bm, by first | (rw [← EQ.out.1, ← EQ.out.2]; rfl) | (rw [← EQ.out.1]; rfl), FIN.out⟩
  · intro HP
    have HPH := Lib.hid HP
    clear HP
    go_wp2_with (go_at_call 116; refine A.out.mono ?_; rintro e w1 ⟨v, t, rfl, h1, h2, h3⟩; obtain ⟨A1, c1, rfl, hc1⟩ := h1.form; have V := Lib.hid (And.intro h1 (And.intro h2 h3)); clear h1 h2 h3)
    go_step3
    rename_i hK
    refine hK _ _ (HPH.out _ _ ⟨0, -1, 0, t, _, _, _, _, _, _, _, _, _, _, _, _, _, _, _, _, _, _, _, _, _, _, _, _, _, _, _, _, _, _, _, _, _, _, _, _, _, _, rfl, Nat.zero_le _, rfl, rfl, ?_, ?_, ?_, ?_, ?_⟩)
    · exact PgW.made _ _
    · exact (Chg.of_below V.out.2.1).alloc _
    · have := V.out.1.chg ((Chg.refl Non w1).alloc (.map #[] 0)) fun _ _ => id
      rw [hN] at this; exact this
    · exact V.out.2.1.size
    · have := V.out.2.2; rw [hN] at this; exact this
end Go.Proofs.YtamhjjagjjdmoaaGreat
end

section
namespace Go.Proofs.YtamhjjagjjdmoaaGreat
open Go.RowKit Go.Maps Go.Shelf Go.Sort

structure MarkM where
  n : Int
  own : PgL
  count : Int
structure PagerM where
  mode : Int
  c : Nat
  dead : Bool
  inn : Bool
  wrote : Bool
  was : Bts
  own : Option PgL
  count : Int
  marks : List MarkM
  next : Int
  sure : Int

/-- the cells of marks, their maps' blocks given -/
def markCells : List Nat → List MarkM → List Value
  | b :: bs, m :: ms => I m.n :: .map (some b) :: I m.count :: markCells bs ms
  | _, _ => []
/-- the roles of blocks: 0: not the pager's; 1: itself; 2: the map of its own pages; 3: the marks' row; 4: a mark's map; 5: bytes that never change -/
structure PagerAt (w : World) (bp bd bl : Nat) (P : PagerM) (R : Nat → Nat) (vwas vown vmarks : Value) (mb : List Nat) : Prop where
  blk : Blk w bp 140 #[ptr bd, I P.mode, ptr bl, I P.c, .bool P.dead, .bool P.inn, .bool P.wrote, vwas, vown, I P.count, vmarks, I P.next, I P.sure]
  r1 : R bp = 1
  was : Sl w vwas P.was
  rw_ : ∀ g, vwas.ownBlock = some g → R g = 5
  own : (P.own = none ∧ vown = .map none) ∨ ∃ b l, P.own = some l ∧ vown = .map (some b) ∧ PgW w (fun g => R g = 5) b l ∧ R b = 2
  row : w.ownsRow 0 150 3 vmarks P.marks.length (markCells mb P.marks)
  rr : ∀ g, vmarks.ownBlock = some g → R g = 3
  marks : All2 (fun b m => PgW w (fun g => R g = 5) b m.own ∧ R b = 4) mb P.marks
  lt : ∀ b, R b ≠ 0 → b < w.heap.size
/-- the pager, whatever its parts are -/
def PagerW (w : World) (bp bd bl : Nat) (P : PagerM) (R : Nat → Nat) : Prop := ∃ vwas vown vmarks mb, PagerAt w bp bd bl P R vwas vown vmarks mb

section
variable {w w' : World} {bp bd bl : Nat} {P : PagerM} {R : Nat → Nat} {vwas vown vmarks : Value} {mb : List Nat} {S : Nat → Prop}
/-- but for the pager's own block all stands -/
theorem PagerAt.chg1 (h : PagerAt w bp bd bl P R vwas vown vmarks mb) (c : Chg S w w') (hn : ∀ b, R b ≠ 0 → b ≠ bp → ¬ S b) (P' : PagerM) (hw : P'.was = P.was) (ho : P'.own = P.own) (hm : P'.marks = P.marks)
    (hb : Blk w' bp 140 #[ptr bd, I P'.mode, ptr bl, I P'.c, .bool P'.dead, .bool P'.inn, .bool P'.wrote, vwas, vown, I P'.count, vmarks, I P'.next, I P'.sure]) : PagerAt w' bp bd bl P' R vwas vown vmarks mb := by
  have ne : ∀ b r, R b = r → r ≠ 0 → r ≠ 1 → ¬ S b := fun b r hb h0 h1 => hn b (by rw [hb]; exact h0) (fun e => by rw [e, h.r1] at hb; exact h1 hb.symm)
  refine ⟨hb, h.r1, ?_, h.rw_, ?_, ?_, h.rr, ?_, fun b hb => Nat.lt_of_lt_of_le (h.lt b hb) c.size⟩
  · rw [hw]; exact h.was.chg c fun g hg => ne g 5 (h.rw_ g hg) (by decide) (by decide)
  · rw [ho]
    rcases h.own with h1 | ⟨b, l, h1, h2, h3, h4⟩
    · exact .inl h1
    · exact .inr ⟨b, l, h1, h2, h3.chg c (ne b 2 h4 (by decide) (by decide)) fun g hg => ne g 5 hg (by decide) (by decide), h4⟩
  · rw [hm]
    exact World.ownsRow.keep_ h.row fun g hg => c.block g (h.lt g (by rw [h.rr g hg]; decide)) (ne g 3 (h.rr g hg) (by decide) (by decide))
  · rw [hm]
    exact All2.imp' h.marks fun b m hbm => ⟨hbm.1.chg c (ne b 4 hbm.2 (by decide) (by decide)) fun g hg => ne g 5 hg (by decide) (by decide), hbm.2⟩
theorem PagerAt.chg (h : PagerAt w bp bd bl P R vwas vown vmarks mb) (c : Chg S w w') (hn : ∀ b, R b ≠ 0 → ¬ S b) : PagerAt w' bp bd bl P R vwas vown vmarks mb :=
  h.chg1 c (fun b hb _ => hn b hb) P rfl rfl rfl (h.blk.chg c (hn bp (by rw [h.r1]; decide)))
theorem PagerAt.pd (h : PagerAt w bp bd bl P R vwas vown vmarks mb) {G : DG} (hG : ∀ b, R b ≠ 0 → ¬ G.F b) : PD w bp bd G := ⟨h.blk.cell 0, hG bp (by rw [h.r1]; decide)⟩
theorem PagerAt.sure_ (h : PagerAt w bp bd bl P R vwas vown vmarks mb) (s : Int) : PagerAt (w.setCell ⟨bp, 12, none⟩ (I s)) bp bd bl { P with sure := s } R vwas vown vmarks mb := by
  refine h.chg1 (S := fun b => b = bp) (Chg.setCell (S := fun b => b = bp) (p := ⟨bp, 12, none⟩) (Chg.refl _ w) (.inl rfl) _) (fun b _ hb => hb) { P with sure := s } rfl rfl rfl ?_
  have := h.blk.set_ 12 (I s)
  simpa using this
theorem PagerAt.dead_ (h : PagerAt w bp bd bl P R vwas vown vmarks mb) (s : Bool) : PagerAt (w.setCell ⟨bp, 4, none⟩ (.bool s)) bp bd bl { P with dead := s } R vwas vown vmarks mb := by
  refine h.chg1 (S := fun b => b = bp) (Chg.setCell (S := fun b => b = bp) (p := ⟨bp, 4, none⟩) (Chg.refl _ w) (.inl rfl) _) (fun b _ hb => hb) { P with dead := s } rfl rfl rfl ?_
  have := h.blk.set_ 4 (.bool s)
  simpa using this
theorem PagerAt.wrote_ (h : PagerAt w bp bd bl P R vwas vown vmarks mb) (s : Bool) : PagerAt (w.setCell ⟨bp, 6, none⟩ (.bool s)) bp bd bl { P with wrote := s } R vwas vown vmarks mb := by
  refine h.chg1 (S := fun b => b = bp) (Chg.setCell (S := fun b => b = bp) (p := ⟨bp, 6, none⟩) (Chg.refl _ w) (.inl rfl) _) (fun b _ hb => hb) { P with wrote := s } rfl rfl rfl ?_
  have := h.blk.set_ 6 (.bool s)
  simpa using this
theorem PagerAt.count_ (h : PagerAt w bp bd bl P R vwas vown vmarks mb) (s : Int) : PagerAt (w.setCell ⟨bp, 9, none⟩ (I s)) bp bd bl { P with count := s } R vwas vown vmarks mb := by
  refine h.chg1 (S := fun b => b = bp) (Chg.setCell (S := fun b => b = bp) (p := ⟨bp, 9, none⟩) (Chg.refl _ w) (.inl rfl) _) (fun b _ hb => hb) { P with count := s } rfl rfl rfl ?_
  have := h.blk.set_ 9 (I s)
  simpa using this
theorem PagerAt.next_ (h : PagerAt w bp bd bl P R vwas vown vmarks mb) (s : Int) : PagerAt (w.setCell ⟨bp, 11, none⟩ (I s)) bp bd bl { P with next := s } R vwas vown vmarks mb := by
  refine h.chg1 (S := fun b => b = bp) (Chg.setCell (S := fun b => b = bp) (p := ⟨bp, 11, none⟩) (Chg.refl _ w) (.inl rfl) _) (fun b _ hb => hb) { P with next := s } rfl rfl rfl ?_
  have := h.blk.set_ 11 (I s)
  simpa using this
end
end Go.Proofs.YtamhjjagjjdmoaaGreat
end

section
namespace Go.Proofs.YtamhjjagjjdmoaaGreat
open Go.RowKit Go.Maps Go.Shelf Go.Sort

theorem pair_len (hi : Int) : ∀ (l : PgL) (lo : Int), l.Pairwise (fun p q => p.1 < q.1) → (∀ p ∈ l, lo ≤ p.1 ∧ p.1 < hi) → l.length ≤ (hi - lo).toNat
  | [], _, _, _ => Nat.zero_le _
  | a :: r, lo, hp, hb => by
    rw [List.pairwise_cons] at hp
    have h1 := hb a (by simp)
    have := pair_len hi r (a.1 + 1) hp.2 fun p hpm => ⟨by have := hp.1 p hpm; omega, (hb p (by simp [hpm])).2⟩
    simp only [List.length_cons]
    omega
theorem mem_pins (x : Int × Bts) : ∀ (l : PgL) (p : Int × Bts), p ∈ pins x l → p = x ∨ p ∈ l
  | [], p, h => by simp [pins] at h; exact .inl h
  | y :: r, p, h => by
    simp only [pins] at h
    split at h
    · rcases List.mem_cons.1 h with h | h
      · exact .inl h
      · exact .inr h
    · rcases List.mem_cons.1 h with h | h
      · exact .inr (by simp [h])
      · exact (mem_pins x r p h).imp id fun h => by simp [h]
theorem mem_pput {l : PgL} {k : Int} {x : Bts} {p : Int × Bts} (h : p ∈ pput l k x) : p = (k, x) ∨ p ∈ l := by
  rcases mem_pins _ _ _ h with h | h
  · exact .inl h
  · exact .inr (List.mem_filter.1 h).1
theorem mem_pover : ∀ (l m : PgL) (p : Int × Bts), p ∈ pover m l → p ∈ m ∨ p ∈ l
  | [], m, p, h => .inl h
  | a :: r, m, p, h => by
    rcases mem_pover r (pput m a.1 a.2) p h with h | h
    · rcases mem_pput h with h | h
      · exact .inr (by simp [h])
      · exact .inl h
    · exact .inr (by simp [h])
theorem mem_overlay (n : Nat) : ∀ (L : LogL), L.length = n → ∀ p, p ∈ overlay L → ∃ q ∈ L, p ∈ q.2 := by
  induction n with
  | zero => intro L hl p h; obtain rfl : L = [] := List.eq_nil_of_length_eq_zero hl; simp [overlay] at h
  | succ n ih =>
    intro L hl p h
    have hne : L ≠ [] := fun e => by rw [e] at hl; simp at hl
    obtain ⟨L', q, rfl⟩ : ∃ L' q, L = L' ++ [q] := ⟨L.dropLast, L.getLast hne, (List.dropLast_concat_getLast hne).symm⟩
    rw [overlay_snoc] at h
    rcases mem_pover _ _ _ h with h | h
    · obtain ⟨q', h1, h2⟩ := ih L' (by simpa using hl) p h
      exact ⟨q', by simp [h1], h2⟩
    · exact ⟨q, by simp, h⟩
theorem overlay_ok {L : LogL} (hok : LogOk L) (hp : (overlay L).Pairwise fun p q => p.1 < q.1) : PgOk (overlay L) := by
  have hm : ∀ p ∈ overlay L, 0 ≤ p.1 ∧ p.1 < 4096 ∧ p.2.length = 512 := fun p hpm => by
    obtain ⟨q, h1, h2⟩ := mem_overlay _ L rfl p hpm
    exact (hok q h1).2.1.2 p h2
  exact ⟨by simpa using pair_len 4096 _ 0 hp fun p hpm => ⟨(hm p hpm).1, (hm p hpm).2.1⟩, hm⟩

/-- what fold does: its answer, the disk, what the pager knows the log to be safe up to -/
def foldM (M : DiskM) (L : LogL) (s : Int) : Int × DiskM × Int :=
  if logN ∈ M.names then
    if (writesM M (overlay L)).1 = 0 then ((deleteM (writesM M (overlay L)).2 logN).1, (deleteM (writesM M (overlay L)).2 logN).2, -1)
    else ((writesM M (overlay L)).1, (writesM M (overlay L)).2, s)
  else (0, M, s)

/-- what a call on the pager and its disk leaves -/
def FPost (w : World) (bp bd bl : Nat) (G : DG) (R : Nat → Nat) (v : Value) (M' : DiskM) (P' : PagerM) (e : Ending) (w' : World) : Prop :=
  ∃ G' : DG, e = .returned v ∧ DiskAt w' bd M' G' ∧ PagerW w' bp bd bl P' R ∧ Chg (fun b => G.F b ∨ b = bp) w w' ∧ ∀ b, G'.F b → G.F b ∨ w.heap.size ≤ b

theorem writesGo_tr : ∀ (l : PgL) (M : DiskM), (writesGo M l).2.tr = M.tr
  | [], M => rfl
  | p :: r, M => by
    simp only [writesGo]
    split
    · rw [writesGo_tr r, writeM_tr]
    · exact writeM_tr _ _ _ _
theorem writesM_tr (M : DiskM) (l : PgL) : (writesM M l).2.tr = M.tr := by
  unfold writesM
  split
  · split
    · exact writesGo_tr l M
    · rw [syncM_tr]; exact writesGo_tr l M
  · exact writesGo_tr l M

theorem contains_log (w : World) (v : Value) (base : Nat) (l : List Bts) (h : w.ownsRow base 9 1 v l.length (l.map encStr)) (hl : l.length ≤ 16) (b : Bool) (hb : decide (logN ∈ l) = b) :
    Calls Tryz.prog 134 #[v, .string ⟨#[98, 97, 115, 101, 45, 108, 111, 103]⟩] w fun e w' => e = .returned (.bool b) ∧ w' = w := by
  have := containsS_any w v l base logN h (by omega)
  have e : (l.any fun y => logN == y) = b := by
    rw [← hb, Bool.eq_iff_iff, List.any_eq_true, decide_eq_true_eq]
    exact ⟨fun ⟨y, h1, h2⟩ => by rw [beq_iff_eq.1 h2]; exact h1, fun h => ⟨_, h, beq_self_eq_true _⟩⟩
  rw [e] at this
  exact this

set_option maxHeartbeats 1000000 in
set_option maxRecDepth 100000 in
theorem fold_any (w : World) (bp bd bl : Nat) (M : DiskM) (G : DG) (P : PagerM) (R : Nat → Nat) (h : DiskAt w bd M G) (ht : TrOk M) (hp : PagerW w bp bd bl P R) (hR : ∀ b, R b ≠ 0 → ¬ G.F b) (ho : M.off = false) (L : LogL) (hL : LogIs M L) (hok : LogOk L) :
    Calls Tryz.prog 88 #[ptr bp] w (FPost w bp bd bl G R (I (foldM M L P.sure).1) (foldM M L P.sure).2.1 { P with sure := (foldM M L P.sure).2.2 }) := by
  obtain ⟨vwas, vown, vmarks, mb, hp⟩ := hp
  have LI := Lib.hid (list_any w bd M G h ho)
  have d0 : w.cell? ⟨bp, 0, none⟩ = some (ptr bd) := hp.blk.cell 0
  have hcount := h.count
  by_cases hn : logN ∈ M.names
  · have H := Lib.hid (And.intro h (And.intro ht (And.intro hp (And.intro hR (And.intro ho (And.intro hL (And.intro hok hn)))))))
    clear h ht hp hR ho hL hok hn
    by_cases hx : (writesM M (overlay L)).1 = 0
    · have e : foldM M L P.sure = ((deleteM (writesM M (overlay L)).2 logN).1, (deleteM (writesM M (overlay L)).2 logN).2, -1) := by simp [foldM, H.out.2.2.2.2.2.2.2, hx]
      rw [e]
      have ST : Hid (∀ w1 v, NewS w w1 v M.names → Calls Tryz.prog 117 #[ptr bp] w1 fun e w' => ∃ bm, e = .returned (.tuple #[.map (some bm), I (lastCount L), I (blocksOn L).length, I (blocksOn L).length, I 0]) ∧
          Calls Tryz.prog 123 #[ptr bp, .map (some bm)] w' (DPost w bd G (I (writesM M (overlay L)).1) (writesM M (overlay L)).2)) := by
        intro w1 v hN
        obtain ⟨h, ht, hp, hR, ho, hL, hok, _⟩ := H.out
        have c := Chg.of_below (S := Non) hN.2
        refine (blocks_any w1 bp bd M G (h.chg c fun _ _ => id) ((hp.pd hR).chg c id fun b hb => .inl hb) ho L hL hok).mono ?_
        rintro e w2 ⟨bm, rfl, h1, h2, h3⟩
        have c2 := c.tr h2
        refine ⟨bm, rfl, (writes_any w2 bp bd M G (h.chg c2 fun _ _ => id) ht ((hp.pd hR).chg c2 id fun b hb => .inl hb) _ bm (overlay L) (overlay_ok hok h1.pair) h1 (fun e => by have := h.olt _ e; have := c.size; omega) fun g hg e => by have := h.olt _ e; have := c.size; omega).mono fun e w' hp => hp.from_ (c2.mono fun _ hf => hf.elim) fun b hb => .inl hb⟩
      have DL : Hid (∀ w3 G3, DiskAt w3 bd (writesM M (overlay L)).2 G3 → Chg G.F w w3 → (∀ b, G3.F b → G.F b ∨ w.heap.size ≤ b) →
          w3.cell? ⟨bp, 0, none⟩ = some (ptr bd) ∧ w3.cell? ⟨bp, 12, none⟩ = some (I P.sure) ∧ w3.frozen? ⟨bp, 12, none⟩ = false ∧
          Calls Tryz.prog 124 #[ptr bd, .string ⟨#[98, 97, 115, 101, 45, 108, 111, 103]⟩] (w3.setCell ⟨bp, 12, none⟩ (I (-1))) (FPost w bp bd bl G R (I (deleteM (writesM M (overlay L)).2 logN).1) (deleteM (writesM M (overlay L)).2 logN).2 { P with sure := -1 })) := by
        intro w3 G3 h1 h2 h3
        obtain ⟨h, ht, hp, hR, ho, hL, hok, _⟩ := H.out
        have hp3 := hp.chg h2 hR
        have hp4 := hp3.sure_ (-1)
        have hbG : ¬ G3.F bp := fun e => by
          rcases h3 bp e with e | e
          · exact hR bp (by rw [hp.r1]; decide) e
          · have := hp.lt bp (by rw [hp.r1]; decide); omega
        have cS : Chg (fun b => b = bp) w3 (w3.setCell ⟨bp, 12, none⟩ (I (-1))) := Chg.setCell (S := fun b => b = bp) (p := ⟨bp, 12, none⟩) (Chg.refl _ w3) (.inl rfl) _
        have hD4 : DiskAt (w3.setCell ⟨bp, 12, none⟩ (I (-1))) bd (writesM M (overlay L)).2 G3 := h1.chg cS fun b hb e => hbG (by rw [← e]; exact hb)
        refine ⟨hp3.blk.cell 0, hp3.blk.cell 12, hp3.blk.frozen 12, (delete_any _ bd _ G3 hD4 (ht.of_tr (writesM_tr M _)) nLog good_log).mono ?_⟩
        rintro e w5 ⟨G5, rfl, d1, d2, d3⟩
        have hR3 : ∀ b, R b ≠ 0 → ¬ G3.F b := fun b hb e => by
          rcases h3 b e with e | e
          · exact hR b hb e
          · have := hp.lt b hb; omega
        refine ⟨G5, rfl, d1, ⟨_, _, _, _, hp4.chg d2 hR3⟩, ?_, fun b hb => ?_⟩
        · refine ((h2.mono fun b hb => .inl (.inl hb)).trans cS fun b hb => .inl (.inr hb)).trans d2 fun b hb => ?_
          exact (h3 b hb).imp .inl id
        · rcases d3 b hb with e | e
          · exact h3 b e
          · exact .inr (by have := h2.size; simp [World.setCell] at e; omega)
      clear e
      generalize writesM M (overlay L) = X at *
      obtain ⟨x1, X2⟩ := X
      simp only at hx
      subst hx
      simp only at ST DL ⊢
      generalize deleteM X2 logN = Y at *
      obtain ⟨y1, Y2⟩ := Y
      go_enter Tryz.func88, Tryz.ntmps88
      go_wp2_with (first | (go_at_call 133; refine LI.out.mono ?_; rintro e w1 ⟨v, rfl, h1⟩; have N := Lib.hid h1; clear h1) | (go_at_call 134; refine (contains_log _ _ _ _ N.out.1 hcount true (by simpa using H.out.2.2.2.2.2.2.2)).mono ?_; rintro e w2 ⟨rfl, rfl⟩) | (go_at_call 117; refine (ST.out _ _ N.out).mono ?_; rintro e w2 ⟨bm, rfl, h1⟩; have WR := Lib.hid h1; clear h1) | (go_at_call 123; refine WR.out.mono ?_; rintro e w3 ⟨G3, rfl, h1, h2, h3⟩; obtain ⟨d3, q3, f3, hDL⟩ := DL.out w3 G3 h1 h2 h3; have DC := Lib.hid hDL; clear h1 h2 h3 hDL) | (go_at_call 124; refine DC.out.mono ?_; rintro e w5 hp; have FIN := Lib.hid hp; obtain ⟨G5, rfl, _⟩ := hp))
      go_ret
      exact FIN.out
    · have e : foldM M L P.sure = ((writesM M (overlay L)).1, (writesM M (overlay L)).2, P.sure) := by simp [foldM, H.out.2.2.2.2.2.2.2, hx]
      rw [e]
      have bx : ((writesM M (overlay L)).1 != 0) = true := by simpa using hx
      clear e hx
      have ST : Hid (∀ w1 v, NewS w w1 v M.names → Calls Tryz.prog 117 #[ptr bp] w1 fun e w' => ∃ bm, e = .returned (.tuple #[.map (some bm), I (lastCount L), I (blocksOn L).length, I (blocksOn L).length, I 0]) ∧
          Calls Tryz.prog 123 #[ptr bp, .map (some bm)] w' (DPost w bd G (I (writesM M (overlay L)).1) (writesM M (overlay L)).2)) := by
        intro w1 v hN
        obtain ⟨h, ht, hp, hR, ho, hL, hok, _⟩ := H.out
        have c := Chg.of_below (S := Non) hN.2
        refine (blocks_any w1 bp bd M G (h.chg c fun _ _ => id) ((hp.pd hR).chg c id fun b hb => .inl hb) ho L hL hok).mono ?_
        rintro e w2 ⟨bm, rfl, h1, h2, h3⟩
        have c2 := c.tr h2
        refine ⟨bm, rfl, (writes_any w2 bp bd M G (h.chg c2 fun _ _ => id) ht ((hp.pd hR).chg c2 id fun b hb => .inl hb) _ bm (overlay L) (overlay_ok hok h1.pair) h1 (fun e => by have := h.olt _ e; have := c.size; omega) fun g hg e => by have := h.olt _ e; have := c.size; omega).mono fun e w' hp => hp.from_ (c2.mono fun _ hf => hf.elim) fun b hb => .inl hb⟩
      generalize writesM M (overlay L) = X at *
      obtain ⟨x1, X2⟩ := X
      go_enter Tryz.func88, Tryz.ntmps88
      go_wp2_with (first | (go_at_call 133; refine LI.out.mono ?_; rintro e w1 ⟨v, rfl, h1⟩; have N := Lib.hid h1; clear h1) | (go_at_call 134; refine (contains_log _ _ _ _ N.out.1 hcount true (by simpa using H.out.2.2.2.2.2.2.2)).mono ?_; rintro e w2 ⟨rfl, rfl⟩) | (go_at_call 117; refine (ST.out _ _ N.out).mono ?_; rintro e w2 ⟨bm, rfl, h1⟩; have WR := Lib.hid h1; clear h1) | (go_at_call 123; refine WR.out.mono ?_; rintro e w3 ⟨G3, rfl, h1, h2, h3⟩; have D3 := Lib.hid (And.intro h1 (And.intro h2 h3)); clear h1 h2 h3))
      go_ret
      obtain ⟨_, _, hp, hR, _⟩ := H.out
      exact ⟨G3, rfl, D3.out.1, ⟨_, _, _, _, hp.chg D3.out.2.1 hR⟩, D3.out.2.1.mono fun b hb => .inl (.inl hb), D3.out.2.2⟩
  · have e : foldM M L P.sure = (0, M, P.sure) := by simp [foldM, hn]
    rw [e]
    have H := Lib.hid (And.intro h (And.intro hp (And.intro hcount hn)))
    clear h ht hp hR ho hL hok hn hcount e
    go_enter Tryz.func88, Tryz.ntmps88
    go_wp2_with (first | (go_at_call 133; refine LI.out.mono ?_; rintro e w1 ⟨v, rfl, h1⟩; have N := Lib.hid h1; clear h1) | (go_at_call 134; refine (contains_log _ _ _ _ N.out.1 H.out.2.2.1 false (by simpa using H.out.2.2.2)).mono ?_; rintro e w2 ⟨rfl, rfl⟩))
    go_ret
    obtain ⟨h, hp, _, _⟩ := H.out
    have c := Chg.of_below (S := Non) N.out.2
    exact ⟨G, rfl, h.chg c fun _ _ => id, ⟨_, _, _, _, hp.chg c fun _ _ => id⟩, c.mono fun _ hf => hf.elim, fun b hb => .inl hb⟩
end Go.Proofs.YtamhjjagjjdmoaaGreat
end

section
namespace Go.Proofs.YtamhjjagjjdmoaaGreat
open Go.RowKit Go.Maps Go.Shelf Go.Sort

/-- block r is an iterator over the pages l at block b; left k: the page k is still to come -/
def PgR (w : World) (F : Nat → Prop) (b r : Nat) (l : PgL) (left : Int → Bool) (cnt : Nat) : Prop :=
  ∃ (m : MList) (lf : Lit → Bool), w.ranges Tryz.prog 3 hr b r m.length m.data lf cnt ∧ All2 (PgE w F) m l ∧ ∀ k, lf (.int .i64 k) = left k

section
variable {w w' : World} {F : Nat → Prop} {b r : Nat} {l : PgL} {left : Int → Bool} {cnt : Nat}
theorem PgR.pgw (h : PgR w F b r l left cnt) : PgW w F b l := by
  obtain ⟨m, lf, h1, h2, _⟩ := h
  exact ⟨m, MapW.exact_ h1.owns, h2⟩
theorem PgR.left_eq (h : PgR w F b r l left cnt) : w.rangeLeft b r = cnt := by obtain ⟨m, lf, h1, _⟩ := h; exact h1.left_eq
theorem PgR.lt (h : PgR w F b r l left cnt) : r < w.heap.size := by obtain ⟨m, lf, h1, _⟩ := h; exact h1.lt
theorem PgR.chg {S : Nat → Prop} (h : PgR w F b r l left cnt) (c : Chg S w w') (hb : ¬ S b) (hr' : ¬ S r) (hF : ∀ g, F g → ¬ S g) : PgR w' F b r l left cnt := by
  obtain ⟨m, lf, ⟨es, clock, since, seen, c0, h1, h2, h3, h4, h5, h6⟩, k, kl⟩ := h
  exact ⟨m, lf, ⟨es, clock, since, seen, c0, c.heap h1 hb, h2, h3, h4, c.heap h5 hr', h6⟩, All2.imp' k fun p q hpq => ⟨hpq.1, hpq.2.chg c hF⟩, kl⟩
/-- what has cells is no iterator -/
theorem PgR.ne_blk {g : Nat} {t : TypeId} {cs : Array Value} (h : PgR w F b r l left cnt) (hb : Blk w g t cs) : g ≠ r := by
  rintro rfl
  obtain ⟨m, lf, ⟨es, clock, since, seen, c0, h1, h2, h3, h4, h5, h6⟩, _⟩ := h
  unfold Blk at hb
  rw [hb] at h5; cases h5
theorem PgV.iter {v : Value} {x : Bts} (h : PgV w F v x) (hg : w.grownBy w' (some r)) (hnc : ∀ off, w.cell? ⟨r, off, none⟩ = none) : PgV w' F v x := by
  refine ⟨?_, fun g hgo => ⟨(h.2 g hgo).1, Nat.lt_of_lt_of_le (h.2 g hgo).2 hg.size⟩⟩
  rcases h.1 with h1 | ⟨g, o, cap, rfl, h1, h2, hc⟩
  · exact .inl h1
  · refine .inr ⟨g, o, cap, rfl, h1, h2, fun j u hu => ?_⟩
    have hcell := hc j u hu
    have hne : g ≠ r := fun e => by subst e; rw [hnc] at hcell; cases hcell
    rw [World.grownBy.cell_far hg _ (World.block_lt_of_cell? w _ hcell) (by simpa using hne)]
    exact hcell

theorem has_pfind : ∀ {m : MList} {l : PgL}, All2 (PgE w F) m l → ∀ k : Int, Maps.has m.data (.int .i64 k) = (pfind l k).isSome
  | [], [], _, _ => rfl
  | p :: ms, q :: ls, ⟨⟨h1, _⟩, ht⟩, k => by
    have ih := has_pfind ht k
    have hk : (p.1.sameKey (.int .i64 k)) = (q.1 == k) := by rw [h1]; simp only [Lit.sameKey, true_and]; rfl
    simp only [Maps.has, MList.data, List.map_cons, List.any_cons, pfind, List.find?_cons, hk] at ih ⊢
    cases e : q.1 == k
    · simpa using ih
    · simp

theorem wpList_pgRange {ops : Array Oper} {rest : List Oper} {o : Oper} {a : Act} {Q : Exit → Act → World → Prop} (hg : o.guard = none) (m : Operand) (hop : o.op = Op.range 137 m)
    (hm : a.eval m = .map (some b)) (h : PgW w F b l)
    (hK : ∀ w', PgR w' F b w.heap.size l (fun k => (pfind l k).isSome) l.length → Chg Non w w' → w'.heap.size = w.heap.size + 1 → wpList Tryz.prog ops Q rest (a.put o.dst (ptr w.heap.size)) w') :
    wpList Tryz.prog ops Q (o :: rest) a w := by
  obtain ⟨mm, h1, h2⟩ := h
  refine wpList_range_own w hg m _ hop 3 48 keyI Tryz.underlying137 hr b mm.length mm.data hm h1 fun w' r1 r2 r3 => ?_
  have c : Chg Non w w' := Chg.grown (Chg.refl _ w) r2 fun g hg => by cases hg
  refine hK w' ⟨mm, _, ?_, All2.imp' h2 fun p q hpq => ⟨hpq.1, hpq.2.chg c fun _ _ => id⟩, has_pfind h2⟩ c r3
  have e : Maps.size mm.data = l.length := by rw [← All2.length h2]; simp [MList.data, Maps.size_eq]
  rw [← e]; exact r1

theorem wpList_pgNext {ops : Array Oper} {rest : List Oper} {o : Oper} {a : Act} {Q : Exit → Act → World → Prop} (hg : o.guard = none) (it : Operand) (hop : o.op = Op.next it false)
    (hit : a.eval it = ptr r) (h : PgR w F b r l left cnt)
    (hDone : (∀ k, left k = false) → wpList Tryz.prog ops Q rest (a.put o.dst (.tuple #[.bool false])) w)
    (hMore : ∀ (k : Int) (v : Value) (x : Bts) (w' : World) (cnt' : Nat), left k = true → pfind l k = some x → PgV w' F v x → (Lit.int .i64 k).wf = true → PgR w' F b r l (fun z => left z && !(z == k)) cnt' → cnt' < cnt → Chg (fun g => g = r) w w' → w'.heap.size = w.heap.size →
      (Instr.entry (ptr r)).run Tryz.prog w' = .ok (.tuple #[I k, v]) w' → wpList Tryz.prog ops Q rest (a.put o.dst (.tuple #[.bool true, I k, v])) w') :
    wpList Tryz.prog ops Q (o :: rest) a w := by
  obtain ⟨m, lf, h1, h2, h3⟩ := h
  refine wpList_next_ranges w hg it hop 3 keyI hr (fun k : Int => I k) (fun v : Value => v) (fun key kl hkey => by obtain ⟨x, h, _⟩ := Maps.keyOf_i64 Tryz.underlying3 hkey; exact ⟨x, h⟩) (fun v y hv => ⟨v, rfl⟩) b r m.length m.data lf cnt hit h1 (fun _ hl => hDone fun k => by rw [← h3]; exact hl _) ?_
  intro k v kl y w' cnt' hkey hlk hv hat hrg hlt hgr hsz hen
  obtain ⟨x, hx, rfl, hwf⟩ := Maps.keyOf_i64 Tryz.underlying3 hkey
  have hx : k = x := by simpa [encZ] using hx
  subst hx
  have hmf : mfind m (.int .i64 k) = some v := mfind_some (by
    intro zd; rw [hat]; simp [hr] at hv; rw [← hv])
  rcases PgE.find h2 k with ⟨_, e⟩ | ⟨x, v', e1, e2, e3⟩
  · rw [hmf] at e; cases e
  · rw [hmf] at e2; injection e2 with e2; subst e2
    have hnc : ∀ off, w.cell? ⟨r, off, none⟩ = none := fun off => by
      obtain ⟨es, clock, since, seen, c0, _, _, _, _, h5, _⟩ := h1
      simp [World.cell?, h5]
    have hch : Chg (fun g => g = r) w w' := Chg.grown (S := fun g => g = r) (Chg.refl _ w) hgr fun g hg => .inl (Option.some.inj hg).symm
    refine hMore k v x w' cnt' (by rw [← h3]; exact hlk) e1 (e3.iter hgr hnc) hwf ⟨m, _, hrg, All2.imp' h2 fun p q hpq => ⟨hpq.1, hpq.2.iter hgr hnc⟩, fun z => ?_⟩ hlt hch hsz hen
    have e : (Lit.int .i64 z).sameKey (.int .i64 k) = (z == k) := by simp only [Lit.sameKey, true_and]; rfl
    simp only [h3, e]
end
end Go.Proofs.YtamhjjagjjdmoaaGreat
end

section
namespace Go.Proofs.YtamhjjagjjdmoaaGreat
open Go.RowKit Go.Maps Go.Shelf Go.Sort

theorem wpList_copyB {w : World} {ops : Array Oper} {rest : List Oper} {o : Oper} {a : Act} {Q : Exit → Act → World → Prop} (hgd : o.guard = none) (d s : Operand)
    (ho : o.op = .call { callee := .builtin .copy, args := #[d, s], argTypes := #[48, 48] }) (g n cap off dl dc : Nat) (l x : Bts) (sv : Value)
    (hd : a.eval d = .slice (some ⟨g, off, none⟩) dl dc) (hs : a.eval s = sv) (hown : OwnB w (.slice (some ⟨g, 0, none⟩) n cap) l) (hdl : dl = n - off) (hsl : Sl w sv x) (hx : 0 < x.length) (hfit : off + x.length ≤ n)
    (h : ∀ w', OwnB w' (.slice (some ⟨g, 0, none⟩) n cap) (splice l off x) → Chg (fun b => b = g) w w' → wpList Tryz.prog ops Q rest (a.put o.dst (I x.length)) w') :
    wpList Tryz.prog ops Q (o :: rest) a w := by
  obtain ⟨gs, os, cs, rfl, _, _, hc⟩ := hsl.cells_at hx
  have hn := hown.len.1
  rcases hown with ⟨e, _⟩ | ⟨g', cap', cur, e, hb, h1, h2, h3, h4⟩
  · cases e
  · injection e with e1 e2 e3
    injection e1 with e1; injection e1 with e1
    subst e1; subst e2; subst e3
    have hlen : (x.map B).length = x.length := List.length_map ..
    refine wpList_copy_own hgd d s _ _ ho 5 Tryz.underlying48 (by kernel_rfl) g off dl dc ⟨gs, os, none⟩ x.length cs hd hs cur 5 hb (x.map B) (by rw [hlen]; show _ = min _ _; omega) (fun j u hu => ?_) (by rw [hlen]; omega) (B_one x) ?_
    · rw [addr_add]
      rw [List.getElem?_map] at hu
      cases hj : x[j]? with
      | none => simp [hj] at hu
      | some y =>
        obtain ⟨hj1, rfl⟩ := List.getElem?_eq_some_iff.1 hj
        rw [hc j hj1]; simpa [hj] using hu
    · rw [hlen]
      refine h _ (.inr ⟨g, cap, _, ?_, setRow_heap w g cur _ _ _ hb, ?_, ?_, h3, ?_⟩) (Chg.grown (S := fun b => b = g) (row := some g) (Chg.refl _ w) ⟨rfl, rfl, rfl, by simp [World.setRow], fun k _ hk => setRow_other _ g k _ (fun e => hk (by rw [e]))⟩ fun k hk => .inl (Option.some.inj hk).symm)
      · rw [length_splice _ _ _ hfit]
      · rw [length_splice _ _ _ hfit]; exact h1
      · have hcl : cur.toList.length = cur.size := Array.length_toList
        have e2 : ∀ L : List Value, L.toArray.size = L.length := fun L => List.size_toArray
        rw [e2, List.length_append, List.length_append, List.length_take, List.length_drop, hlen]; omega
      · rw [length_splice _ _ _ hfit, map_splice, ← h4]
        unfold splice
        have hcl : l.length ≤ cur.toList.length := by have : cur.toList.length = cur.size := Array.length_toList; omega
        simp only [hlen]
        rw [List.take_append, List.take_append, List.length_take, List.take_take, List.take_take, hlen, List.take_of_length_le (l := x.map B) (by omega), List.drop_take]
        congr 1
        · rw [show min l.length off = off by omega, show min off l.length = off by omega]
        · rw [show min off cur.toList.length = off by omega, show l.length - off - x.length = l.length - (off + x.length) by omega]

theorem splice_get (l : Bts) (o : Nat) (x : Bts) (h : o + x.length ≤ l.length) (n : Nat) : (splice l o x)[n]? = if o ≤ n ∧ n < o + x.length then x[n - o]? else l[n]? := by
  unfold splice
  have hl : (l.take o).length = o := by rw [List.length_take]; omega
  by_cases h1 : n < o
  · rw [if_neg (by omega), List.getElem?_append_left (by omega), List.getElem?_take, if_pos h1]
  · rw [List.getElem?_append_right (by omega), hl]
    by_cases h2 : n < o + x.length
    · rw [if_pos ⟨by omega, h2⟩, List.getElem?_append_left (by omega)]
    · rw [if_neg (by omega), List.getElem?_append_right (by omega), List.getElem?_drop]
      congr 1; omega
theorem splice_comm (l : Bts) (i j : Nat) (x y : Bts) (hi : i + x.length ≤ l.length) (hj : j + y.length ≤ l.length) (hd : i + x.length ≤ j ∨ j + y.length ≤ i) : splice (splice l i x) j y = splice (splice l j y) i x := by
  apply List.ext_getElem?
  intro n
  have l1 := length_splice l i x hi
  have l2 := length_splice l j y hj
  rw [splice_get _ j y (by omega), splice_get l i x hi, splice_get _ i x (by omega), splice_get l j y hj]
  by_cases h1 : i ≤ n ∧ n < i + x.length <;> by_cases h2 : j ≤ n ∧ n < j + y.length
  · omega
  · simp [h1, h2]
  · simp [h1, h2]
  · simp [h1, h2]

/-- pages below c laid over bytes -/
def copies (c : Int) (b : Bts) (l : PgL) : Bts := l.foldl (fun b p => if p.1 < c then splice b (p.1.toNat * 512) p.2 else b) b
set_option maxRecDepth 100000 in
theorem length_copies (c : Int) : ∀ (l : PgL) (b : Bts), (∀ p ∈ l, 0 ≤ p.1 ∧ p.2.length = 512) → c.toNat * 512 ≤ b.length → (copies c b l).length = b.length
  | [], b, _, _ => rfl
  | p :: r, b, h, hc => by
    obtain ⟨h0, h1⟩ := h p (by simp)
    have e : (if p.1 < c then splice b (p.1.toNat * 512) p.2 else b).length = b.length := by
      split
      · exact length_splice _ _ _ (by omega)
      · rfl
    show (copies c (if p.1 < c then splice b (p.1.toNat * 512) p.2 else b) r).length = _
    rw [length_copies c r _ (fun q hq => h q (by simp [hq])) (by omega), e]
set_option maxRecDepth 100000 in
/-- one page more, wherever it stands in the list -/
theorem copies_one (c : Int) (k : Int) (x : Bts) (hk : 0 ≤ k) (hx : x.length = 512) (hkc : k < c) : ∀ (l : PgL) (b : Bts), (∀ p ∈ l, 0 ≤ p.1 ∧ p.2.length = 512 ∧ p.1 ≠ k) → c.toNat * 512 ≤ b.length →
    splice (copies c b l) (k.toNat * 512) x = copies c (splice b (k.toNat * 512) x) l
  | [], b, _, _ => rfl
  | p :: r, b, h, hc => by
    obtain ⟨h0, h1, h2⟩ := h p (by simp)
    show splice (copies c (if p.1 < c then splice b (p.1.toNat * 512) p.2 else b) r) _ _ = copies c (if p.1 < c then splice (splice b (k.toNat * 512) x) (p.1.toNat * 512) p.2 else (splice b (k.toNat * 512) x)) r
    by_cases hp : p.1 < c
    · rw [if_pos hp, if_pos hp, copies_one c k x hk hx hkc r _ (fun q hq => h q (by simp [hq])) (by rw [length_splice _ _ _ (by omega)]; exact hc), splice_comm _ _ _ _ _ (by omega) (by omega) (by omega)]
    · rw [if_neg hp, if_neg hp, copies_one c k x hk hx hkc r _ (fun q hq => h q (by simp [hq])) hc]
/-- the pages that have come, in the list's order -/
def came (l : PgL) (left : Int → Bool) : PgL := l.filter fun p => !left p.1
set_option maxRecDepth 100000 in
theorem came_step (c : Int) (l : PgL) (left : Int → Bool) (k : Int) (x : Bts) (b : Bts) (hp : l.Pairwise fun p q => p.1 < q.1) (hl : ∀ p ∈ l, 0 ≤ p.1 ∧ p.2.length = 512) (hk : left k = true) (hx : pfind l k = some x) (hb : c.toNat * 512 ≤ b.length) :
    copies c b (came l fun z => left z && !(z == k)) = if k < c then splice (copies c b (came l left)) (k.toNat * 512) x else copies c b (came l left) := by
  induction l generalizing b with
  | nil => simp [pfind] at hx
  | cons p r ih =>
    rw [List.pairwise_cons] at hp
    have hl' := hl p (by simp)
    by_cases e : p.1 = k
    · obtain rfl : p.2 = x := by simpa [pfind, e] using hx
      have hr : came r (fun z => left z && !(z == k)) = came r left := by
        refine List.filter_congr fun q hq => ?_
        have := hp.1 q hq
        have : (q.1 == k) = false := by simp; omega
        simp [this]
      have h1 : came (p :: r) (fun z => left z && !(z == k)) = p :: came r left := by
        rw [← hr]; simp [came, e]
      have h2 : came (p :: r) left = came r left := by simp [came, e, hk]
      rw [h1, h2]
      show copies c (if p.1 < c then splice b (p.1.toNat * 512) p.2 else b) (came r left) = _
      rw [e]
      by_cases hc : k < c
      · rw [if_pos hc, if_pos hc, copies_one c k p.2 (by omega) hl'.2 hc]
        · intro q hq
          have hqr := (List.mem_filter.1 hq).1
          have := hp.1 q hqr
          exact ⟨(hl q (by simp [hqr])).1, (hl q (by simp [hqr])).2, by omega⟩
        · exact hb
      · rw [if_neg hc, if_neg hc]
    · have hx' : pfind r k = some x := by simpa [pfind, List.find?_cons, e] using hx
      have hs : (left p.1 && !(p.1 == k)) = left p.1 := by simp [e]
      by_cases hlp : left p.1 = true
      · have h1 : came (p :: r) (fun z => left z && !(z == k)) = came r fun z => left z && !(z == k) := by simp [came, hlp, e]
        have h2 : came (p :: r) left = came r left := by simp [came, hlp]
        rw [h1, h2]
        exact ih b hp.2 (fun q hq => hl q (by simp [hq])) hx' hb
      · have hlp' : left p.1 = false := by simpa using hlp
        have h1 : came (p :: r) (fun z => left z && !(z == k)) = p :: came r fun z => left z && !(z == k) := by simp [came, hlp']
        have h2 : came (p :: r) left = p :: came r left := by simp [came, hlp']
        rw [h1, h2]
        show copies c (if p.1 < c then splice b (p.1.toNat * 512) p.2 else b) _ = if k < c then splice (copies c (if p.1 < c then splice b (p.1.toNat * 512) p.2 else b) (came r left)) _ _ else copies c (if p.1 < c then splice b (p.1.toNat * 512) p.2 else b) (came r left)
        refine ih _ hp.2 (fun q hq => hl q (by simp [hq])) hx' ?_
        split
        · rw [length_splice _ _ _ (by omega)]; exact hb
        · exact hb
end Go.Proofs.YtamhjjagjjdmoaaGreat
end

section
namespace Go.Proofs.YtamhjjagjjdmoaaGreat
open Go.RowKit Go.Maps Go.Shelf Go.Sort

/-- the base's bytes -/
def BaseIs (M : DiskM) (b : Bts) : Prop := (baseN ∉ M.names ∧ b = []) ∨ (baseN ∈ M.names ∧ (M.file baseN).seen = b)
theorem all_base (w : World) (bp bd : Nat) (M : DiskM) (G : DG) (h : DiskAt w bd M G) (hp : PD w bp bd G) (ho : M.off = false) (b : Bts) (hb : BaseIs M b) :
    Calls Tryz.prog 116 #[ptr bp, .string nBase] w fun e w' => ∃ v t, e = .returned (.tuple #[v, .bool t, I 0]) ∧ OwnB w' v b ∧ Below w.heap.size w w' ∧ ∀ g, v.ownBlock = some g → w.heap.size ≤ g := by
  rcases hb with ⟨hn, rfl⟩ | ⟨hn, hs⟩
  · refine (all_no w bp bd M G h hp nBase good_base ho hn).mono ?_
    rintro e w' ⟨rfl, rfl⟩
    exact ⟨_, _, rfl, .inl ⟨rfl, rfl⟩, Below.refl _ _, fun g hg => by simp [Value.ownBlock] at hg⟩
  · refine (all_yes w bp bd M G h hp nBase good_base ho hn).mono ?_
    rintro e w' ⟨v, rfl, h1, h2⟩
    exact ⟨v, _, rfl, by rw [← hs]; exact h1, h2⟩

/-- append(v, make([]byte, k)...), k may be nought -/
theorem append_zeros (w : World) (ty : TypeId) (v : Value) (l : Bts) (hown : OwnB w v l) (k : Nat) (h63 : l.length + k ≤ 4194304 * 4) :
    ∃ v' w', (Builtin.append_ #[48, 3] ty #[v, I k]).run Tryz.prog w = .ok v' w' ∧ OwnB w' v' (l ++ List.replicate k 0) ∧ w.grownBy w' v.ownBlock ∧ (v'.ownBlock = v.ownBlock ∨ v'.ownBlock = some w.heap.size) := by
  by_cases hk : 0 < k
  · exact run_append_zeros_own w ty v l hown k hk h63
  · obtain rfl : k = 0 := by omega
    obtain ⟨i, hi, hz, hsize, hby⟩ := info_parts infoU8
    obtain ⟨A, c, rfl, hc⟩ := hown.form
    refine ⟨_, w, ?_, by simpa using hown, World.grownBy.refl _ _, .inl rfl⟩
    have ht := Tryz.underlying48
    have htn := Tryz.underlying3
    have hw : IntKind.i64.wrap (0 : Int) = 0 := by decide
    cases A <;> simp [Builtin.append_, run_underlying ht, run_underlying htn, sizeOf, typeInfo, zeroValue, hi, hz, asInt, asIntOf, hby, hc, hw, storeCells, Builtin.zeroCells]
theorem OwnB.take {w : World} {A : Option Addr} {n c : Nat} {l : Bts} (h : OwnB w (.slice A n c) l) (m : Nat) (hm : m ≤ n) : OwnB w (.slice A m c) (l.take m) := by
  rcases h with ⟨e, rfl⟩ | ⟨g, cap, cur, e, hb, h1, h2, h3, h4⟩
  · injection e with e1 e2 e3
    subst e1; subst e2; subst e3
    obtain rfl : m = 0 := by omega
    exact .inl ⟨rfl, rfl⟩
  · injection e with e1 e2 e3
    subst e1; subst e2; subst e3
    refine .inr ⟨g, c, cur, ?_, hb, ?_, h2, h3, ?_⟩
    · rw [List.length_take, Nat.min_eq_left hm]
    · rw [List.length_take, Nat.min_eq_left hm]; omega
    · rw [List.length_take, Nat.min_eq_left hm, List.map_take, ← h4, List.take_take, Nat.min_eq_left hm]

/-- bytes cut, or filled up, to a length -/
def resize (b : Bts) (n : Nat) : Bts := b.take n ++ List.replicate (n - b.length) 0
theorem length_resize (b : Bts) (n : Nat) : (resize b n).length = n := by simp [resize]; omega
/-- the committed pages of a base and a log -/
def commB (b : Bts) (L : LogL) : Bts := if 0 ≤ lastCount L then copies (lastCount L) (resize b ((lastCount L).toNat * 512)) (overlay L) else b

/-- what committed tells; the disk is known otherwise -/
def CPost (w : World) (bp bd bl : Nat) (G : DG) (R : Nat → Nat) (x : Int) (b : Bts) (M' : DiskM) (P' : PagerM) (e : Ending) (w' : World) : Prop :=
  ∃ (G' : DG) (v : Value), e = .returned (.tuple #[v, I x]) ∧ OwnB w' v b ∧ (∀ g, v.ownBlock = some g → w.heap.size ≤ g ∧ ¬ G'.F g) ∧ DiskAt w' bd M' G' ∧ PagerW w' bp bd bl P' R ∧ Chg (fun b => G.F b ∨ b = bp) w w' ∧ ∀ b, G'.F b → G.F b ∨ w.heap.size ≤ b

set_option maxHeartbeats 2000000 in
set_option maxRecDepth 100000 in
/-- no log -/
theorem committed_nil2 (w : World) (bp bd bl : Nat) (M : DiskM) (G : DG) (P : PagerM) (R : Nat → Nat) (h : DiskAt w bd M G) (hp : PagerW w bp bd bl P R) (hR : ∀ b, R b ≠ 0 → ¬ G.F b) (ho : M.off = false) (hj : journalN ∉ M.names) (hL : LogIs M [])
    (b : Bts) (hb : BaseIs M b) (hb5 : b.length % 512 = 0) (hb2 : b.length ≤ 2097152) (hm : P.mode = 2) :
    Calls Tryz.prog 69 #[ptr bp] w (CPost w bp bd bl G R 0 b M P) := by
  obtain ⟨vwas, vown, vmarks, mb, hp⟩ := hp
  have pd := hp.pd hR
  have d0 : w.cell? ⟨bp, 0, none⟩ = some (ptr bd) := hp.blk.cell 0
  have d1 : w.cell? ⟨bp, 1, none⟩ = some (I 2) := by rw [← hm]; exact hp.blk.cell 1
  have U := Lib.hid (undo_no w bp bd M G h pd ho hj)
  have A := Lib.hid (all_base w bp bd M G h pd ho b hb)
  have BK : Hid (∀ w1, Below w.heap.size w w1 → Calls Tryz.prog 117 #[ptr bp] w1 fun e w' => ∃ bm, e = .returned (.tuple #[.map (some bm), I (-1), I 0, I 0, I 0]) ∧ PgW w' (fun g => w1.heap.size ≤ g) bm [] ∧ Chg Non w1 w' ∧ w1.heap.size ≤ bm) := fun w1 hw1 =>
    blocks_any w1 bp bd M G (h.chg (Chg.of_below (S := Non) hw1) fun _ _ => id) (pd.chg (Chg.of_below (S := Non) hw1) id fun b hb => .inl hb) ho [] hL (fun p hp => by simp at hp)
  have H := Lib.hid (And.intro h (And.intro hp (And.intro hR (And.intro ho hL))))
  clear h hp hR ho hj hL hb pd hm
  generalize hn : b.length = n at *
  have b1 : ((n : Int) % 512 != 0) = false := by simp; omega
  have b2 : decide ((2097152 : Int) < (n : Int)) = false := by simp; omega
  have HN := Lib.hid hn
  clear hn hb5 hb2
  go_enter Tryz.func69, Tryz.ntmps69
  go_wp2_with (first | (go_at_call 87; refine U.out.mono ?_; rintro e w' ⟨rfl, hw'⟩; have hw2 := hw'.symm; subst hw2) | (go_at_call 116; refine A.out.mono ?_; rintro e w1 ⟨v, t, rfl, h1, h2, h3⟩; obtain ⟨A1, c1, rfl, hc1⟩ := h1.form; rw [HN.out]; have V := Lib.hid (And.intro h1 (And.intro h2 h3)); clear h1 h2 h3) | (go_at_call 117; refine (BK.out _ V.out.2.1).mono ?_; rintro e w2 ⟨bm, rfl, h1, h2, h3⟩; have K := Lib.hid (And.intro h1 (And.intro h2 h3)); clear h1 h2 h3) | (at_range; refine wpList_pgRange rfl _ rfl rfl K.out.1 ?_; intro w3 hr3 hc3 _; have R3 := Lib.hid (And.intro hr3 hc3); clear hr3 hc3) | go_in)
  go_frame
  refine wp_loop_rounds 1 ?_
  rw [rounds_succ]
  go_wp2_with (first | (at_next; refine wpList_pgNext rfl _ rfl rfl R3.out.1 ?_ ?_) | go_in)
  · intro _
    go_wp2_with fail
    go_ret2
    obtain ⟨h, hp, hR, ho, hL⟩ := H.out
    have c3 : Chg Non w w3 := ((Chg.of_below V.out.2.1).tr K.out.2.1).tr R3.out.2
    refine ⟨G, _, rfl, by rw [← HN.out]; exact ((V.out.1.chg K.out.2.1 fun _ _ => id).chg R3.out.2 fun _ _ => id), fun g hg => ?_, h.chg c3 fun _ _ => id, ⟨_, _, _, _, hp.chg c3 fun _ _ => id⟩, c3.mono fun _ hf => hf.elim, fun b hb => .inl hb⟩
    have hg1 := V.out.2.2 g (by rw [HN.out]; exact hg)
    exact ⟨hg1, fun e => by have := h.olt _ e; omega⟩

set_option maxHeartbeats 2000000 in
set_option maxRecDepth 100000 in
/-- in journal mode, the log cannot be folded -/
theorem committed_foldbad (w : World) (bp bd bl : Nat) (M : DiskM) (G : DG) (P : PagerM) (R : Nat → Nat) (h : DiskAt w bd M G) (ht : TrOk M) (hp : PagerW w bp bd bl P R) (hR : ∀ b, R b ≠ 0 → ¬ G.F b) (ho : M.off = false) (hj : journalN ∉ M.names) (L : LogL) (hL : LogIs M L) (hok : LogOk L)
    (hm : P.mode = 1) (hf : ¬ (foldM M L P.sure).1 = 0) :
    Calls Tryz.prog 69 #[ptr bp] w (CPost w bp bd bl G R (foldM M L P.sure).1 [] (foldM M L P.sure).2.1 { P with sure := (foldM M L P.sure).2.2 }) := by
  have FD := Lib.hid (fold_any w bp bd bl M G P R h ht hp hR ho L hL hok)
  obtain ⟨vwas, vown, vmarks, mb, hp⟩ := hp
  have pd := hp.pd hR
  have d1 : w.cell? ⟨bp, 1, none⟩ = some (I 1) := by rw [← hm]; exact hp.blk.cell 1
  have U := Lib.hid (undo_no w bp bd M G h pd ho hj)
  clear h ht hp hR ho hj hL hok hm pd
  generalize foldM M L P.sure = X at *
  obtain ⟨x1, X2, s⟩ := X
  have bx : (x1 != 0) = true := by simpa using hf
  clear hf
  go_enter Tryz.func69, Tryz.ntmps69
  go_wp2_with (first | (go_at_call 87; refine U.out.mono ?_; rintro e w' ⟨rfl, hw'⟩; have hw2 := hw'.symm; subst hw2) | (go_at_call 88; refine FD.out.mono ?_; rintro e w1 hq; obtain ⟨G1, rfl, h1, h2, h3, h4⟩ := hq; have F1 := Lib.hid (And.intro h1 (And.intro h2 (And.intro h3 h4))); clear h1 h2 h3 h4))
  go_ret2
  exact ⟨G1, _, rfl, .inl ⟨rfl, rfl⟩, fun g hg => by simp [Value.ownBlock] at hg, F1.out⟩

set_option maxHeartbeats 2000000 in
set_option maxRecDepth 100000 in
/-- in journal mode, the log folded -/
theorem committed_fold (w : World) (bp bd bl : Nat) (M : DiskM) (G : DG) (P : PagerM) (R : Nat → Nat) (h : DiskAt w bd M G) (ht : TrOk M) (hp : PagerW w bp bd bl P R) (hR : ∀ b, R b ≠ 0 → ¬ G.F b) (ho : M.off = false) (hj : journalN ∉ M.names) (L : LogL) (hL : LogIs M L) (hok : LogOk L)
    (hm : P.mode = 1) (hf : (foldM M L P.sure).1 = 0) (ho1 : (foldM M L P.sure).2.1.off = false) (hL1 : LogIs (foldM M L P.sure).2.1 [])
    (b : Bts) (hb : BaseIs (foldM M L P.sure).2.1 b) (hb5 : b.length % 512 = 0) (hb2 : b.length ≤ 2097152) :
    Calls Tryz.prog 69 #[ptr bp] w (CPost w bp bd bl G R 0 b (foldM M L P.sure).2.1 { P with sure := (foldM M L P.sure).2.2 }) := by
  have FD := fold_any w bp bd bl M G P R h ht hp hR ho L hL hok
  rw [hf] at FD
  have FD := Lib.hid FD
  obtain ⟨vwas, vown, vmarks, mb, hp⟩ := hp
  have pd := hp.pd hR
  have d1 : w.cell? ⟨bp, 1, none⟩ = some (I 1) := by rw [← hm]; exact hp.blk.cell 1
  have U := Lib.hid (undo_no w bp bd M G h pd ho hj)
  have hRlt : ∀ b, R b ≠ 0 → b < w.heap.size := hp.lt
  clear hf
  generalize foldM M L P.sure = X at *
  obtain ⟨x1, X2, s⟩ := X
  simp only at *
  have AB : Hid (∀ w1 G1, DiskAt w1 bd X2 G1 → PagerW w1 bp bd bl { P with sure := s } R → (∀ b, G1.F b → G.F b ∨ w.heap.size ≤ b) →
      (Calls Tryz.prog 116 #[ptr bp, .string ⟨#[98, 97, 115, 101]⟩] w1 fun e w' => ∃ v t, e = .returned (.tuple #[v, .bool t, I 0]) ∧ OwnB w' v b ∧ Below w1.heap.size w1 w' ∧ ∀ g, v.ownBlock = some g → w1.heap.size ≤ g) ∧
      ∀ w2, Below w1.heap.size w1 w2 → Calls Tryz.prog 117 #[ptr bp] w2 fun e w' => ∃ bm, e = .returned (.tuple #[.map (some bm), I (-1), I 0, I 0, I 0]) ∧ PgW w' (fun g => w2.heap.size ≤ g) bm [] ∧ Chg Non w2 w' ∧ w2.heap.size ≤ bm) := by
    rintro w1 G1 h1 ⟨_, _, _, _, h2⟩ h3
    have hR1 : ∀ b, R b ≠ 0 → ¬ G1.F b := fun b hb e => by
      rcases h3 b e with e | e
      · exact hR b hb e
      · have := hRlt b hb; omega
    have pd1 := h2.pd hR1
    exact ⟨all_base w1 bp bd X2 G1 h1 pd1 ho1 b hb, fun w2 hw2 => blocks_any w2 bp bd X2 G1 (h1.chg (Chg.of_below (S := Non) hw2) fun _ _ => id) (pd1.chg (Chg.of_below (S := Non) hw2) id fun b hb => .inl hb) ho1 [] hL1 (fun p hp => by simp at hp)⟩
  have H := Lib.hid (And.intro hR hRlt)
  clear h ht hp hR ho hj hL hok hm pd ho1 hL1 hb hRlt
  generalize hn : b.length = n at *
  have b1 : ((n : Int) % 512 != 0) = false := by simp; omega
  have b2 : decide ((2097152 : Int) < (n : Int)) = false := by simp; omega
  have HN := Lib.hid hn
  clear hn hb5 hb2
  go_enter Tryz.func69, Tryz.ntmps69
  go_wp2_with (first | (go_at_call 87; refine U.out.mono ?_; rintro e w' ⟨rfl, hw'⟩; have hw2 := hw'.symm; subst hw2) | (go_at_call 88; refine FD.out.mono ?_; rintro e w1 hq; obtain ⟨G1, rfl, h1, h2, h3, h4⟩ := hq; have AB1 := Lib.hid (AB.out w1 G1 h1 h2 h4); have F1 := Lib.hid (And.intro h1 (And.intro h2 (And.intro h3 h4))); clear h1 h2 h3 h4) | (go_at_call 116; refine AB1.out.1.mono ?_; rintro e w2 ⟨v, t, rfl, h1, h2, h3⟩; obtain ⟨A1, c1, rfl, hc1⟩ := h1.form; rw [HN.out]; have V := Lib.hid (And.intro h1 (And.intro h2 h3)); clear h1 h2 h3) | (go_at_call 117; refine (AB1.out.2 _ V.out.2.1).mono ?_; rintro e w3 ⟨bm, rfl, h1, h2, h3⟩; have K := Lib.hid (And.intro h1 (And.intro h2 h3)); clear h1 h2 h3) | (at_range; refine wpList_pgRange rfl _ rfl rfl K.out.1 ?_; intro w4 hr3 hc3 _; have R3 := Lib.hid (And.intro hr3 hc3); clear hr3 hc3) | go_in)
  go_frame
  refine wp_loop_rounds 1 ?_
  rw [rounds_succ]
  go_wp2_with (first | (at_next; refine wpList_pgNext rfl _ rfl rfl R3.out.1 ?_ ?_) | go_in)
  · intro _
    go_wp2_with fail
    go_ret2
    obtain ⟨h, ⟨_, _, _, _, hp⟩, hc, hG⟩ := F1.out
    have c3 : Chg Non w1 w4 := ((Chg.of_below V.out.2.1).tr K.out.2.1).tr R3.out.2
    refine ⟨G1, _, rfl, by rw [← HN.out]; exact ((V.out.1.chg K.out.2.1 fun _ _ => id).chg R3.out.2 fun _ _ => id), fun g hg => ?_, h.chg c3 fun _ _ => id, ⟨_, _, _, _, hp.chg c3 fun _ _ => id⟩, hc.trans c3 fun _ hf => hf.elim, hG⟩
    have hg1 := V.out.2.2 g (by rw [HN.out]; exact hg)
    exact ⟨Nat.le_trans hc.size hg1, fun e => by have := h.olt _ e; omega⟩
end Go.Proofs.YtamhjjagjjdmoaaGreat
end
