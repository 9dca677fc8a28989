/- the laws' model of a pager, and its acts -/
import Derived.Test.YtamhjjagjjdmoaaGreatC7
import Derived.Test.YtamhjjagjjdmoaaGreatC6
section
namespace Go.Proofs.YtamhjjagjjdmoaaGreat
open Go.RowKit Go.Maps Go.Shelf Go.Sort

/-- the model -/
structure MoM where
  done : List Bts
  opn : Bool
  now : List Bts
  marks : List (List Bts)
  ids : List Int
/-- its blocks: itself, pages and rows of pages (K; they never change), the rows of marks and of numbers -/
def moB (bm : Nat) (K : Nat → Prop) (vm vi : Value) : Nat → Prop := fun g => g = bm ∨ K g ∨ vm.ownBlock = some g ∨ vi.ownBlock = some g
structure MoAt (w : World) (bm : Nat) (K : Nat → Prop) (m : MoM) (vd vn vm vi : Value) (xs : List Value) : Prop where
  blk : Blk w bm 73 #[vd, .bool m.opn, vn, vm, vi]
  d : RowW w K vd m.done
  n : RowW w K vn m.now
  mrow : w.ownsRow 0 32 1 vm m.marks.length xs
  mels : All2 (RowW w K) xs m.marks
  irow : w.ownsRow 0 3 1 vi m.ids.length (m.ids.map I)
  kb : ¬ K bm
  kl : ∀ g, K g → g < w.heap.size
  km : ∀ g, vm.ownBlock = some g → ¬ K g ∧ g ≠ bm
  ki : ∀ g, vi.ownBlock = some g → ¬ K g ∧ g ≠ bm ∧ vm.ownBlock ≠ some g
def MoW (w : World) (bm : Nat) (B : Nat → Prop) (m : MoM) : Prop := ∃ K vd vn vm vi xs, MoAt w bm K m vd vn vm vi xs ∧ ∀ g, moB bm K vm vi g → B g
section
variable {w w' : World} {bm : Nat} {K S : Nat → Prop} {m : MoM} {vd vn vm vi : Value} {xs : List Value}
theorem MoAt.lt (h : MoAt w bm K m vd vn vm vi xs) (g : Nat) (hg : moB bm K vm vi g) : g < w.heap.size := by
  rcases hg with e | e | e | e
  · rw [e]; exact h.blk.lt
  · exact h.kl g e
  · exact (World.ownsRow.lt h.mrow g e).2
  · exact (World.ownsRow.lt h.irow g e).2
theorem MoAt.chg (h : MoAt w bm K m vd vn vm vi xs) (c : Chg S w w') (hn : ∀ g, moB bm K vm vi g → ¬ S g) : MoAt w' bm K m vd vn vm vi xs where
  blk := h.blk.chg c (hn bm (.inl rfl))
  d := h.d.chg c fun g hg => hn g (.inr (.inl hg))
  n := h.n.chg c fun g hg => hn g (.inr (.inl hg))
  mrow := World.ownsRow.keep_ h.mrow fun g hg => c.block g (World.ownsRow.lt h.mrow g hg).2 (hn g (.inr (.inr (.inl hg))))
  mels := All2.imp' h.mels fun _ _ hxy => hxy.chg c fun g hg => hn g (.inr (.inl hg))
  irow := World.ownsRow.keep_ h.irow fun g hg => c.block g (World.ownsRow.lt h.irow g hg).2 (hn g (.inr (.inr (.inr hg))))
  kb := h.kb
  kl g hg := Nat.lt_of_lt_of_le (h.kl g hg) c.size
  km := h.km
  ki := h.ki
/-- stores into the model's own cells alone -/
theorem MoAt.cells (h : MoAt w bm K m vd vn vm vi xs) (c : Chg (fun g => g = bm) w w') (m' : MoM) (vd' vn' : Value)
    (hb : Blk w' bm 73 #[vd', .bool m'.opn, vn', vm, vi]) (hd : RowW w K vd' m'.done) (hn : RowW w K vn' m'.now) (hm : m'.marks = m.marks) (hi : m'.ids = m.ids) : MoAt w' bm K m' vd' vn' vm vi xs where
  blk := hb
  d := hd.chg c fun g hg e => h.kb (by rw [← e]; exact hg)
  n := hn.chg c fun g hg e => h.kb (by rw [← e]; exact hg)
  mrow := by rw [hm]; exact World.ownsRow.keep_ h.mrow fun g hg => c.block g (World.ownsRow.lt h.mrow g hg).2 (h.km g hg).2
  mels := by rw [hm]; exact All2.imp' h.mels fun _ _ hxy => hxy.chg c fun g hg e => h.kb (by rw [← e]; exact hg)
  irow := by rw [hi]; exact World.ownsRow.keep_ h.irow fun g hg => c.block g (World.ownsRow.lt h.irow g hg).2 (h.ki g hg).2.1
  kb := h.kb
  kl g hg := Nat.lt_of_lt_of_le (h.kl g hg) c.size
  km := h.km
  ki := h.ki
/-- other marks and numbers, over the same cells' store -/
theorem MoAt.rows (h : MoAt w bm K m vd vn vm vi xs) (c : Chg (fun g => g = bm) w w') (m' : MoM) (vd' vn' vm' vi' : Value) (xs' : List Value)
    (hb : Blk w' bm 73 #[vd', .bool m'.opn, vn', vm', vi']) (hd : RowW w K vd' m'.done) (hn : RowW w K vn' m'.now)
    (hm : w.ownsRow 0 32 1 vm' m'.marks.length xs') (hx : All2 (RowW w K) xs' m'.marks) (hi : w.ownsRow 0 3 1 vi' m'.ids.length (m'.ids.map I))
    (km : ∀ g, vm'.ownBlock = some g → ¬ K g ∧ g ≠ bm) (ki : ∀ g, vi'.ownBlock = some g → ¬ K g ∧ g ≠ bm ∧ vm'.ownBlock ≠ some g) : MoAt w' bm K m' vd' vn' vm' vi' xs' where
  blk := hb
  d := hd.chg c fun g hg e => h.kb (by rw [← e]; exact hg)
  n := hn.chg c fun g hg e => h.kb (by rw [← e]; exact hg)
  mrow := World.ownsRow.keep_ hm fun g hg => c.block g (World.ownsRow.lt hm g hg).2 (km g hg).2
  mels := All2.imp' hx fun _ _ hxy => hxy.chg c fun g hg e => h.kb (by rw [← e]; exact hg)
  irow := World.ownsRow.keep_ hi fun g hg => c.block g (World.ownsRow.lt hi g hg).2 (ki g hg).2.1
  kb := h.kb
  kl g hg := Nat.lt_of_lt_of_le (h.kl g hg) c.size
  km := km
  ki := ki
end

section
variable {w : World} {bm : Nat} {K : Nat → Prop} {m : MoM} {vd vn vm vi : Value} {xs : List Value}
theorem chg_bm (w : World) (bm i : Nat) (v : Value) : Chg (fun g => g = bm) w (w.setCell ⟨bm, i, none⟩ v) := Chg.setCell (S := fun g => g = bm) (p := ⟨bm, i, none⟩) (Chg.refl _ _) (.inl rfl) _
/-- m.open = false -/
theorem MoAt.close (h : MoAt w bm K m vd vn vm vi xs) : MoAt (w.setCell ⟨bm, 1, none⟩ (.bool false)) bm K { m with opn := false } vd vn vm vi xs ∧ Chg (fun g => g = bm) w (w.setCell ⟨bm, 1, none⟩ (.bool false)) := by
  refine ⟨h.cells (chg_bm _ _ _ _) { m with opn := false } vd vn ?_ h.d h.n rfl rfl, chg_bm _ _ _ _⟩
  have := h.blk.set_ 1 (.bool false)
  simpa using this
/-- m.done = m.now; m.open = false -/
theorem MoAt.commit (h : MoAt w bm K m vd vn vm vi xs) : MoAt ((w.setCell ⟨bm, 0, none⟩ vn).setCell ⟨bm, 1, none⟩ (.bool false)) bm K { m with done := m.now, opn := false } vn vn vm vi xs ∧ Chg (fun g => g = bm) w ((w.setCell ⟨bm, 0, none⟩ vn).setCell ⟨bm, 1, none⟩ (.bool false)) := by
  have c := (chg_bm w bm 0 vn).tr (chg_bm _ bm 1 (.bool false))
  refine ⟨h.cells c { m with done := m.now, opn := false } vn vn ?_ h.n h.n rfl rfl, c⟩
  have := (h.blk.set_ 0 vn).set_ 1 (.bool false)
  simpa using this
/-- a transaction begins -/
theorem MoAt.begin (h : MoAt w bm K m vd vn vm vi xs) : MoAt ((((w.setCell ⟨bm, 1, none⟩ (.bool true)).setCell ⟨bm, 2, none⟩ vd).setCell ⟨bm, 3, none⟩ (.slice none 0 0)).setCell ⟨bm, 4, none⟩ (.slice none 0 0)) bm K ⟨m.done, true, m.done, [], []⟩ vd vd (.slice none 0 0) (.slice none 0 0) [] ∧
    Chg (fun g => g = bm) w ((((w.setCell ⟨bm, 1, none⟩ (.bool true)).setCell ⟨bm, 2, none⟩ vd).setCell ⟨bm, 3, none⟩ (.slice none 0 0)).setCell ⟨bm, 4, none⟩ (.slice none 0 0)) := by
  have c := (((chg_bm w bm 1 (.bool true)).tr (chg_bm _ bm 2 vd)).tr (chg_bm _ bm 3 (.slice none 0 0))).tr (chg_bm _ bm 4 (.slice none 0 0))
  refine ⟨h.rows c ⟨m.done, true, m.done, [], []⟩ vd vd (.slice none 0 0) (.slice none 0 0) [] ?_ h.d h.d ⟨rfl, .inl ⟨rfl, rfl⟩⟩ True.intro ⟨rfl, .inl ⟨rfl, rfl⟩⟩ (fun g hg => by simp [Value.ownBlock] at hg) fun g hg => by simp [Value.ownBlock] at hg, c⟩
  have := (((h.blk.set_ 1 (.bool true)).set_ 2 vd).set_ 3 (.slice none 0 0)).set_ 4 (.slice none 0 0)
  simpa using this
end

/-- a pager beside its model: the transaction's own pages are what the model has -/
structure Like (m : MoM) (D : List Bts) (own : PgL) (c : Nat) (wrote : Bool) (marks : List MarkM) (nx : Nat) : Prop where
  eopn : m.opn = true
  edone : m.done = D
  enow : m.now = view D own c
  c12 : c ≤ 12
  emarks : m.marks = marks.map fun x => view D x.own x.count.toNat
  eids : m.ids = marks.map fun x => x.n
  m12 : ∀ x ∈ marks, x.count.toNat ≤ 12
  rise : marks.Pairwise fun x y => x.n < y.n
  le : ∀ x ∈ marks, x.n ≤ nx
  calm : wrote = false → own = [] ∧ c = D.length ∧ ∀ x ∈ marks, x.own = [] ∧ x.count = D.length
def Game (w : World) (bp bd bm : Nat) (U : Nat → Prop) (m : MoM) (D : List Bts) (mode : Int) (t : Nat) : Prop :=
  ∃ (Up B : Nat → Prop) (nx : Nat), nx ≤ t ∧ D.length ≤ 12 ∧ MoW w bm B m ∧ (∀ g, B g → ¬ Up g) ∧ (∀ g, B g → U g) ∧ (∀ g, Up g → U g) ∧ (∀ g, U g → g < w.heap.size) ∧
    ((m.opn = false ∧ m.done = D ∧ SIdle w bp bd Up D (t * 6201) mode nx) ∨ ∃ own c wrote marks, marks.length ≤ t ∧ Like m D own c wrote marks nx ∧ STx w bp bd Up D own c wrote marks (t * 6201) mode nx)
end Go.Proofs.YtamhjjagjjdmoaaGreat
end

section
namespace Go.Proofs.YtamhjjagjjdmoaaGreat
open Go.RowKit Go.Maps Go.Shelf Go.Sort

/-- within a walk that began at w: the model at wi, the pager's blocks Up, the act at a -/
structure Ga (w wi : World) (bm : Nat) (K : Nat → Prop) (m : MoM) (vd vn vm vi : Value) (xs : List Value) (U Up : Nat → Prop) (a : Nat) (d n b : Int) : Prop where
  mo : MoAt wi bm K m vd vn vm vi xs
  far : ∀ g, moB bm K vm vi g → ¬ Up g
  chg : Chg U w wi
  sub : ∀ g, moB bm K vm vi g ∨ Up g → U g ∨ w.heap.size ≤ g
  lt : ∀ g, Up g → g < wi.heap.size
  arg : Blk wi a 42 #[I d, I n, I b]
  afar : ¬ Up a ∧ ¬ moB bm K vm vi a
section
variable {w wi w' : World} {bm : Nat} {K : Nat → Prop} {m : MoM} {vd vn vm vi : Value} {xs : List Value} {U Up : Nat → Prop} {a : Nat} {d n b : Int}
theorem Ga.step (h : Ga w wi bm K m vd vn vm vi xs U Up a d n b) (c : Chg Up wi w') : Ga w w' bm K m vd vn vm vi xs U (newK Up wi w') a d n b where
  mo := h.mo.chg c h.far
  far g hg := fun e => e.elim (h.far g hg) fun e => by have := h.mo.lt g hg; omega
  chg := h.chg.trans c fun g hg => h.sub g (.inr hg)
  sub g hg := by
    rcases hg with e | e | e
    · exact h.sub g (.inl e)
    · exact h.sub g (.inr e)
    · exact .inr (Nat.le_trans h.chg.size e.1)
  lt g hg := hg.elim (fun e => Nat.lt_of_lt_of_le (h.lt g e) c.size) fun e => e.2
  arg := h.arg.chg c h.afar.1
  afar := ⟨fun e => e.elim h.afar.1 fun e => by have := h.arg.lt; omega, h.afar.2⟩
theorem Ga.still (h : Ga w wi bm K m vd vn vm vi xs U Up a d n b) (c : Chg Non wi w') : Ga w w' bm K m vd vn vm vi xs U Up a d n b where
  mo := h.mo.chg c fun _ _ => id
  far := h.far
  chg := h.chg.trans c fun _ hg => hg.elim
  sub := h.sub
  lt g hg := Nat.lt_of_lt_of_le (h.lt g hg) c.size
  arg := h.arg.chg c id
  afar := h.afar
/-- a change of blocks that are new since the walk began and are none of the pager's, the model's -/
theorem Ga.over {S : Nat → Prop} (h : Ga w wi bm K m vd vn vm vi xs U Up a d n b) (c : Chg S wi w') (h1 : ∀ g, S g → w.heap.size ≤ g ∧ ¬ moB bm K vm vi g ∧ g ≠ a) : Ga w w' bm K m vd vn vm vi xs U Up a d n b where
  mo := h.mo.chg c fun g hg e => (h1 g e).2.1 hg
  far := h.far
  chg := h.chg.trans c fun g hg => .inr (h1 g hg).1
  sub := h.sub
  lt g hg := Nat.lt_of_lt_of_le (h.lt g hg) c.size
  arg := h.arg.chg c fun e => (h1 _ e).2.2 rfl
  afar := h.afar
/-- the model stores into its own cells -/
theorem Ga.to (h : Ga w wi bm K m vd vn vm vi xs U Up a d n b) (c : Chg (fun g => g = bm) wi w') {m' : MoM} {vd' vn' vm' vi' : Value} {xs' : List Value} (hm : MoAt w' bm K m' vd' vn' vm' vi' xs')
    (hs : ∀ g, moB bm K vm' vi' g → moB bm K vm vi g) : Ga w w' bm K m' vd' vn' vm' vi' xs' U Up a d n b where
  mo := hm
  far g hg := h.far g (hs g hg)
  chg := h.chg.trans c fun g hg => h.sub g (.inl (.inl hg))
  sub g hg := h.sub g (hg.imp (hs g) id)
  lt g hg := Nat.lt_of_lt_of_le (h.lt g hg) c.size
  arg := h.arg.chg c fun e => h.afar.2 (.inl e)
  afar := ⟨h.afar.1, fun e => h.afar.2 (hs _ e)⟩
theorem Ga.start {B : Nat → Prop} (mo : MoAt w bm K m vd vn vm vi xs) (hB : ∀ g, moB bm K vm vi g → B g) (h1 : ∀ g, B g → ¬ Up g) (h2 : ∀ g, B g → U g) (h3 : ∀ g, Up g → U g) (h4 : ∀ g, U g → g < w.heap.size) :
    Ga w (w.alloc (.cells #[I d, I n, I b] 42)) bm K m vd vn vm vi xs U Up w.heap.size d n b where
  mo := mo.chg ((Chg.refl Non w).alloc _) fun _ _ => id
  far g hg := h1 g (hB g hg)
  chg := (Chg.refl _ w).alloc _
  sub g hg := .inl (hg.elim (fun e => h2 g (hB g e)) fun e => h3 g e)
  lt g hg := Nat.lt_of_lt_of_le (h4 g (h3 g hg)) ((Chg.refl Non w).alloc _).size
  arg := Blk.new _ _ _
  afar := ⟨fun e => by have := h4 _ (h3 _ e); omega, fun e => by have := h4 _ (h2 _ (hB _ e)); omega⟩
end
/-- what an act leaves -/
def APost (w : World) (bp bd bm : Nat) (U : Nat → Prop) (mode : Int) (t : Nat) : Ending → World → Prop := SPost w U (.bool true) fun w' U' => ∃ m' D', Game w' bp bd bm U' m' D' mode (t + 1)
section
variable {w wi : World} {bp bd bm : Nat} {K : Nat → Prop} {m : MoM} {vd vn vm vi : Value} {xs : List Value} {U Up : Nat → Prop} {a : Nat} {d n b : Int} {D : List Bts} {mode : Int} {t nx : Nat}
theorem Ga.fin (h : Ga w wi bm K m vd vn vm vi xs U Up a d n b) (hU : ∀ g, U g → g < w.heap.size) (hn : nx ≤ t + 1) (hD : D.length ≤ 12)
    (hs : (m.opn = false ∧ m.done = D ∧ SIdle wi bp bd Up D ((t + 1) * 6201) mode nx) ∨ ∃ own c wrote marks, marks.length ≤ t + 1 ∧ Like m D own c wrote marks nx ∧ STx wi bp bd Up D own c wrote marks ((t + 1) * 6201) mode nx) :
    APost w bp bd bm U mode t (.returned (.bool true)) wi := by
  have hin : ∀ g, moB bm K vm vi g ∨ Up g → newK U w wi g := fun g hg => by
    rcases h.sub g hg with e | e
    · exact .inl e
    · exact .inr ⟨e, hg.elim (h.mo.lt g) (h.lt g)⟩
  refine ⟨rfl, h.chg, m, D, Up, moB bm K vm vi, nx, hn, hD, ⟨K, vd, vn, vm, vi, xs, h.mo, fun _ h => h⟩, h.far, fun g hg => hin g (.inl hg), fun g hg => hin g (.inr hg), fun g hg => ?_, hs⟩
  rcases hg with e | e
  · exact Nat.lt_of_lt_of_le (hU g e) h.chg.size
  · exact e.2
theorem Ga.idle (h : Ga w wi bm K m vd vn vm vi xs U Up a d n b) (hU : ∀ g, U g → g < w.heap.size) (hn : nx ≤ t) (hD : D.length ≤ 12) (h1 : m.opn = false) (h2 : m.done = D) {z : Nat} (hs : SIdle wi bp bd Up D z mode nx) (hz : z ≤ (t + 1) * 6201) : APost w bp bd bm U mode t (.returned (.bool true)) wi :=
  h.fin hU (Nat.le_succ_of_le hn) hD (.inl ⟨h1, h2, hs.mono (fun _ h => h) hz⟩)
theorem Ga.tx (h : Ga w wi bm K m vd vn vm vi xs U Up a d n b) (hU : ∀ g, U g → g < w.heap.size) (hn : nx ≤ t + 1) (hD : D.length ≤ 12) {own : PgL} {c : Nat} {wrote : Bool} {marks : List MarkM} (hl : marks.length ≤ t + 1) (h1 : Like m D own c wrote marks nx) {z : Nat} (hs : STx wi bp bd Up D own c wrote marks z mode nx) (hz : z ≤ (t + 1) * 6201) : APost w bp bd bm U mode t (.returned (.bool true)) wi :=
  h.fin hU hn hD (.inr ⟨own, c, wrote, marks, hl, h1, hs.mono (fun _ h => h) hz⟩)
end

/-- a page of the model, as the pager sees it -/
theorem Like.at {m : MoM} {D : List Bts} {own : PgL} {c : Nat} {wrote : Bool} {marks : List MarkM} {nx : Nat} (h : Like m D own c wrote marks nx) (q : Nat) (hq : q < m.now.length) : m.now[q] = pgV D own q := by
  have e := h.enow
  have hc : q < c := by rw [e, length_view] at hq; exact hq
  have h1 : m.now[q]? = some (pgV D own q) := by rw [e]; exact view_getElem D own c q hc
  rw [List.getElem?_eq_getElem hq] at h1
  exact Option.some.inj h1
theorem Like.out {m : MoM} {D : List Bts} {own : PgL} {c : Nat} {wrote : Bool} {marks : List MarkM} {nx : Nat} (h : Like m D own c wrote marks nx) {P : PagerM} (hI : InTx P D own c) (q : Nat) (hq : ¬ q < m.now.length) : pgV D own q = zpage := by
  have hc : c ≤ q := by rw [h.enow, length_view] at hq; omega
  unfold pgV
  rw [hI.tops.lt.none hc, Option.getD_none, getD_out (by have := hI.tops.le; omega)]
end Go.Proofs.YtamhjjagjjdmoaaGreat
end

section
namespace Go.Proofs.YtamhjjagjjdmoaaGreat
open Go.RowKit Go.Maps Go.Shelf Go.Sort

theorem ownsRow_cut {w : World} {t : TypeId} {a : Option Addr} {n c k : Nat} {xs : List Value} (h : w.ownsRow 0 t 1 (.slice a n c) n xs) (hk : k ≤ n) (h0 : 0 < k) : w.ownsRow 0 t 1 (.slice a k c) k (xs.take k) := by
  refine ⟨by have := h.1; simp; omega, ?_⟩
  rcases h.2 with ⟨_, e⟩ | ⟨g, cap, cur, e, h1, h2, h3, h4, h5, h6⟩
  · omega
  · injection e with e1 e2 e3
    subst e1; subst e3
    refine .inr ⟨g, c, cur, rfl, h1, h2, by omega, h4, h5, ?_⟩
    rw [← h6, List.take_take]; congr 1; omega
theorem ownsRow_cell {w : World} {t : TypeId} {a : Option Addr} {n c : Nat} {xs : List Value} (h : w.ownsRow 0 t 1 (.slice a n c) n xs) (k : Nat) (hk : k < n) : ∃ g, a = some ⟨g, 0, none⟩ ∧ ∃ hx : k < xs.length, w.cell? ⟨g, k, none⟩ = some xs[k] := by
  have hl := h.1
  obtain ⟨g, c', cur, e, _, hb, hc⟩ := ownsRow_some h (by omega)
  injection e with e1
  exact ⟨g, e1, by omega, by rw [hb.cell]; exact hc k (by omega)⟩
theorem All2.take {α β : Type} {R : α → β → Prop} : ∀ {a : List α} {b : List β} (k : Nat), All2 R a b → All2 R (a.take k) (b.take k)
  | _, _, 0, _ => by simp; exact True.intro
  | [], [], _ + 1, _ => True.intro
  | _ :: _, _ :: _, k + 1, ⟨h, t⟩ => ⟨h, All2.take k t⟩
section
variable {w w' : World} {bm : Nat} {K : Nat → Prop} {m : MoM} {vd vn vm vi : Value} {xs : List Value}
/-- back to the k-th mark -/
theorem MoAt.back {am ai : Option Addr} {cm ci : Nat} (h : MoAt w bm K m vd vn (.slice am m.marks.length cm) (.slice ai m.ids.length ci) xs) (k : Nat) (hk : k < m.marks.length) (hi : k < m.ids.length) (hx : k < xs.length) :
    MoAt (((w.setCell ⟨bm, 2, none⟩ xs[k]).setCell ⟨bm, 4, none⟩ (.slice ai (k + 1) ci)).setCell ⟨bm, 3, none⟩ (.slice am (k + 1) cm)) bm K ⟨m.done, m.opn, m.marks[k], m.marks.take (k + 1), m.ids.take (k + 1)⟩ vd xs[k] (.slice am (k + 1) cm) (.slice ai (k + 1) ci) (xs.take (k + 1)) ∧
    Chg (fun g => g = bm) w (((w.setCell ⟨bm, 2, none⟩ xs[k]).setCell ⟨bm, 4, none⟩ (.slice ai (k + 1) ci)).setCell ⟨bm, 3, none⟩ (.slice am (k + 1) cm)) := by
  have c := ((chg_bm w bm 2 xs[k]).tr (chg_bm _ bm 4 (.slice ai (k + 1) ci))).tr (chg_bm _ bm 3 (.slice am (k + 1) cm))
  have e1 : (m.marks.take (k + 1)).length = k + 1 := by simp; omega
  have e2 : (m.ids.take (k + 1)).length = k + 1 := by simp; omega
  refine ⟨h.rows c ⟨m.done, m.opn, m.marks[k], m.marks.take (k + 1), m.ids.take (k + 1)⟩ vd xs[k] (.slice am (k + 1) cm) (.slice ai (k + 1) ci) (xs.take (k + 1)) ?_ h.d (All2.get k hx hk h.mels) ?_ (All2.take _ h.mels) ?_ ?_ ?_, c⟩
  · have := ((h.blk.set_ 2 xs[k]).set_ 4 (.slice ai (k + 1) ci)).set_ 3 (.slice am (k + 1) cm)
    simpa using this
  · show w.ownsRow 0 _ 1 _ (m.marks.take (k + 1)).length _
    rw [e1]; exact ownsRow_cut h.mrow hk (by omega)
  · show w.ownsRow 0 _ 1 _ (m.ids.take (k + 1)).length _
    rw [e2, List.map_take]; exact ownsRow_cut h.irow hi (by omega)
  · intro g hg; exact h.km g (by cases am with | none => (simp [Value.ownBlock] at hg) | some a => exact hg)
  · intro g hg
    have := h.ki g (by cases ai with | none => (simp [Value.ownBlock] at hg) | some a => exact hg)
    refine ⟨this.1, this.2.1, fun e => this.2.2 (by cases am with | none => (simp [Value.ownBlock] at e) | some a => exact e)⟩
/-- new blocks that may hold pages -/
theorem MoAt.grow (h : MoAt w bm K m vd vn vm vi xs) (c : Chg Non w w') : MoAt w' bm (newK K w w') m vd vn vm vi xs where
  blk := h.blk.chg c id
  d := (h.d.chg c fun _ _ => id).mono fun g hg => .inl hg
  n := (h.n.chg c fun _ _ => id).mono fun g hg => .inl hg
  mrow := World.ownsRow.keep_ h.mrow fun g hg => c.block g (World.ownsRow.lt h.mrow g hg).2 id
  mels := All2.imp' h.mels fun _ _ hxy => (hxy.chg c fun _ _ => id).mono fun g hg => .inl hg
  irow := World.ownsRow.keep_ h.irow fun g hg => c.block g (World.ownsRow.lt h.irow g hg).2 id
  kb := fun e => e.elim h.kb fun e => by have := h.blk.lt; omega
  kl g hg := hg.elim (fun e => Nat.lt_of_lt_of_le (h.kl g e) c.size) fun e => e.2
  km g hg := ⟨fun e => e.elim (h.km g hg).1 fun e => by have := (World.ownsRow.lt h.mrow g hg).2; omega, (h.km g hg).2⟩
  ki g hg := ⟨fun e => e.elim (h.ki g hg).1 fun e => by have := (World.ownsRow.lt h.irow g hg).2; omega, (h.ki g hg).2⟩
/-- m.now = .. -/
theorem MoAt.setNow (h : MoAt w bm K m vd vn vm vi xs) (v' : Value) (V : List Bts) (hv : RowW w K v' V) : MoAt (w.setCell ⟨bm, 2, none⟩ v') bm K { m with now := V } vd v' vm vi xs ∧ Chg (fun g => g = bm) w (w.setCell ⟨bm, 2, none⟩ v') := by
  refine ⟨h.cells (chg_bm _ _ _ _) { m with now := V } vd v' ?_ h.d hv rfl rfl, chg_bm _ _ _ _⟩
  have := h.blk.set_ 2 v'
  simpa using this
end
theorem Ga.grow {w wi w' : World} {bm : Nat} {K : Nat → Prop} {m : MoM} {vd vn vm vi : Value} {xs : List Value} {U Up : Nat → Prop} {a : Nat} {d n b : Int} (h : Ga w wi bm K m vd vn vm vi xs U Up a d n b) (c : Chg Non wi w') : Ga w w' bm (newK K wi w') m vd vn vm vi xs U Up a d n b where
  mo := h.mo.grow c
  far g hg := by
    rcases hg with e | e | e | e
    · exact h.far g (.inl e)
    · rcases e with e | e
      · exact h.far g (.inr (.inl e))
      · exact fun hu => by have := h.lt g hu; omega
    · exact h.far g (.inr (.inr (.inl e)))
    · exact h.far g (.inr (.inr (.inr e)))
  chg := h.chg.trans c fun _ hg => hg.elim
  sub g hg := by
    rcases hg with (e | e | e | e) | e
    · exact h.sub g (.inl (.inl e))
    · rcases e with e | e
      · exact h.sub g (.inl (.inr (.inl e)))
      · exact .inr (Nat.le_trans h.chg.size e.1)
    · exact h.sub g (.inl (.inr (.inr (.inl e))))
    · exact h.sub g (.inl (.inr (.inr (.inr e))))
    · exact h.sub g (.inr e)
  lt g hg := Nat.lt_of_lt_of_le (h.lt g hg) c.size
  arg := h.arg.chg c id
  afar := ⟨h.afar.1, fun e => by
    rcases e with e | e | e | e
    · exact h.afar.2 (.inl e)
    · rcases e with e | e
      · exact h.afar.2 (.inr (.inl e))
      · have := h.arg.lt; omega
    · exact h.afar.2 (.inr (.inr (.inl e)))
    · exact h.afar.2 (.inr (.inr (.inr e)))⟩

/-- append(own row, one more): the row of one is a new block; U: blocks that the row is none of -/
theorem pushRow (w : World) (st et : TypeId) (i : TypeInfo) (z : Value) (by' : Nat) (ht : Tryz.prog.underlying st = some (.slice et)) (hi : Tryz.prog.info? et = some i) (hz : i.zero = some z) (hsize : i.size = 1) (hby : i.bytes = by') (hb24 : by' ≤ 24) (hzs : z.cells.size = 1)
    (v : Value) (n : Nat) (xs : List Value) (h : w.ownsRow 0 et 1 v n xs) (hn : n ≤ 100000) (x : Value) (hx : x.oneCell' = true) :
    ∃ A c w', (∀ ty, (Builtin.append_ #[st, st] ty #[v, .slice (some ⟨w.heap.size, 0, none⟩) 1 1]).run Tryz.prog (w.alloc (.cells #[x] et)) = .ok (.slice A (n + 1) c) w') ∧ w'.ownsRow 0 et 1 (.slice A (n + 1) c) (n + 1) (xs ++ [x]) ∧ Chg (fun g => v.ownBlock = some g) w w' ∧
      ∀ g, (Value.slice A (n + 1) c).ownBlock = some g → v.ownBlock = some g ∨ w.heap.size ≤ g := by
  have c6 : Chg Non w (w.alloc (.cells #[x] et)) := (Chg.refl _ _).alloc _
  have b6 : Blk (w.alloc (.cells #[x] et)) w.heap.size et #[x] := Blk.new _ _ _
  have r6 : (w.alloc (.cells #[x] et)).ownsRow 0 et 1 v n xs := World.ownsRow.keep_ h fun g hg => c6.block g (World.ownsRow.lt h g hg).2 id
  generalize w.alloc (.cells #[x] et) = w6 at *
  have hap := fun ty => run_append_own_at (P := Tryz.prog) w6 0 st ty et i z 1 by' ht hi hz hsize hby hzs (by omega) v n xs r6 ⟨w.heap.size, 0, none⟩ 1 1 [x] rfl
    (fun j u hj => by rw [addr_add, Nat.zero_add, b6.cell]; simpa using hj) (fun u hu => by rw [List.mem_singleton.1 hu]; exact hx) (by unfold maxLen; omega) (by
      have : (n + 1) * by' ≤ 100001 * 24 := Nat.mul_le_mul (by omega) hb24
      omega) (Nat.zero_le _)
  obtain ⟨v', w7, hr, k1, k2, _, k4⟩ := hap st
  obtain ⟨A, c, rfl, _⟩ := ownsRow_form k1
  refine ⟨A, c, w7, fun ty => hr, k1, (c6.mono fun _ h => h.elim).tr (Chg.grown (S := fun g => v.ownBlock = some g) (Chg.refl _ _) k2 fun g hg => .inl hg), fun g hg => ?_⟩
  rcases k4 with e | e
  · exact .inl (by rw [← e]; exact hg)
  · rw [e] at hg
    injection hg with hg
    have := c6.size
    exact .inr (by omega)
theorem ownsRow_cell' {w : World} {t : TypeId} {g n c : Nat} {xs : List Value} (h : w.ownsRow 0 t 1 (.slice (some ⟨g, 0, none⟩) n c) n xs) (k : Nat) (hk : k < n) (hx : k < xs.length) : w.cell? ⟨g, k, none⟩ = some xs[k] := by
  obtain ⟨g', e, _, h1⟩ := ownsRow_cell h k hk
  injection e with e; injection e with e
  rw [e]; exact h1
theorem take_snoc {α : Type} (l : List α) (k : Nat) (hk : k < l.length) : l.take k ++ [l[k]] = l.take (k + 1) := (List.take_succ_eq_append_getElem hk).symm
theorem Like.back {m : MoM} {D : List Bts} {own : PgL} {c : Nat} {wrote : Bool} {marks : List MarkM} {nx : Nat} (h : Like m D own c wrote marks nx) (k : Nat) (hk : k < marks.length) (hm : k < m.marks.length) (cnt : Nat) (hc : marks[k].count = (cnt : Int)) :
    Like ⟨m.done, m.opn, m.marks[k], m.marks.take (k + 1), m.ids.take (k + 1)⟩ D marks[k].own cnt wrote (marks.take k ++ [marks[k]]) nx := by
  have hmem : marks[k] ∈ marks := List.getElem_mem hk
  have hsub : ∀ x ∈ marks.take k ++ [marks[k]], x ∈ marks := fun x hx => by rw [take_snoc marks k hk] at hx; exact List.mem_of_mem_take hx
  have e1 : m.marks[k] = view D marks[k].own cnt := by
    have : m.marks[k]? = some (view D marks[k].own marks[k].count.toNat) := by rw [h.emarks]; simp [hk]
    rw [List.getElem?_eq_getElem hm] at this
    rw [Option.some.inj this, hc]; rfl
  refine ⟨h.eopn, h.edone, e1, ?_, ?_, ?_, fun x hx => h.m12 x (hsub x hx), ?_, fun x hx => h.le x (hsub x hx), fun hw => ?_⟩
  · have := h.m12 _ hmem; rw [hc] at this; simpa using this
  · show m.marks.take (k + 1) = _
    rw [take_snoc marks k hk, h.emarks, List.map_take]
  · show m.ids.take (k + 1) = _
    rw [take_snoc marks k hk, h.eids, List.map_take]
  · rw [take_snoc marks k hk]; exact h.rise.sublist (List.take_sublist _ _)
  · obtain ⟨_, _, h3⟩ := h.calm hw
    have h4 := h3 _ hmem
    exact ⟨h4.1, by rw [hc] at h4; exact_mod_cast h4.2, fun x hx => h3 x (hsub x hx)⟩
theorem Like.pre {m : MoM} {D : List Bts} {own : PgL} {c : Nat} {wrote : Bool} {marks : List MarkM} {nx : Nat} (h : Like m D own c wrote marks nx) (k : Nat) (hk : k < marks.length) : ∀ x ∈ marks.take k, x.n ≠ marks[k].n := by
  intro x hx e
  have h1 := h.rise
  rw [← List.take_append_drop k marks, List.drop_eq_getElem_cons hk, List.pairwise_append] at h1
  have := h1.2.2 x hx marks[k] List.mem_cons_self
  omega
theorem Like.write {m : MoM} {D : List Bts} {own : PgL} {c : Nat} {wrote : Bool} {marks : List MarkM} {nx : Nat} (h : Like m D own c wrote marks nx) {P : PagerM} (hI : InTx P D own c) (q : Nat) (hq : q < 12) (x : Bts) :
    Like { m with now := putV m.now q x } D (pput own (q : Int) x) (max c (q + 1)) true marks nx := by
  refine ⟨h.eopn, h.edone, ?_, by have := h.c12; omega, h.emarks, h.eids, h.m12, h.rise, h.le, fun hw => by cases hw⟩
  show putV m.now q x = _
  rw [h.enow]
  exact (view_put D own c q x hI.tops.lt hI.tops.le).symm
theorem two {T : Nat → Prop} {u u' : World} {p p' : Addr} {v v' : Value} (c : Chg T u u') (h1 : ¬ T p.block) (h2 : ¬ T p'.block) (h : u.cell? p = some v ∧ u.cell? p' = some v') : u'.cell? p = some v ∧ u'.cell? p' = some v' :=
  ⟨by rw [c.cell (World.block_lt_of_cell? u _ h.1) h1]; exact h.1, by rw [c.cell (World.block_lt_of_cell? u _ h.2) h2]; exact h.2⟩
end Go.Proofs.YtamhjjagjjdmoaaGreat
end

section
namespace Go.Proofs.YtamhjjagjjdmoaaGreat
open Go.RowKit Go.Maps Go.Shelf Go.Sort

theorem infoMM : (Tryz.prog.info? 32).map (fun i => (i.zero, i.size, i.bytes)) = some (some (.slice none 0 0), 1, 24) := by kernel_rfl
section
variable {w w3 : World} {bm : Nat} {K : Nat → Prop} {m : MoM} {vd vn vm vi : Value} {xs : List Value}
theorem MoAt.pushId (h : MoAt w bm K m vd vn vm vi xs) (x : Int) (v' : Value) (row : w3.ownsRow 0 3 1 v' (m.ids.length + 1) (m.ids.map I ++ [I x])) (c : Chg (fun g => vi.ownBlock = some g) w w3) (hv : ∀ g, v'.ownBlock = some g → vi.ownBlock = some g ∨ w.heap.size ≤ g) :
    MoAt (w3.setCell ⟨bm, 4, none⟩ v') bm K { m with ids := m.ids ++ [x] } vd vn vm v' xs ∧ Chg (fun g => vi.ownBlock = some g ∨ g = bm) w (w3.setCell ⟨bm, 4, none⟩ v') := by
  have c4 := chg_bm w3 bm 4 v'
  have cc : Chg (fun g => vi.ownBlock = some g ∨ g = bm) w (w3.setCell ⟨bm, 4, none⟩ v') := (c.mono fun g hg => .inl (.inl hg)).tr (c4.mono fun g hg => .inl (.inr hg))
  have hb := (h.blk.chg c (fun e => (h.ki bm e).2.1 rfl)).set_ 4 v'
  have hbl := h.blk.lt
  have kk : ∀ g, K g → ¬ (vi.ownBlock = some g ∨ g = bm) := fun g hg e => e.elim (fun e => (h.ki g e).1 hg) fun e => h.kb (by rw [← e]; exact hg)
  have nb : ∀ g, v'.ownBlock = some g → g ≠ bm := fun g hg e => by
    rcases hv g hg with e1 | e1
    · exact (h.ki g e1).2.1 e
    · omega
  generalize w3.setCell ⟨bm, 4, none⟩ v' = w4 at *
  refine ⟨{ blk := by simpa using hb, d := h.d.chg cc kk, n := h.n.chg cc kk, mrow := World.ownsRow.keep_ h.mrow fun g hg => cc.block g (World.ownsRow.lt h.mrow g hg).2 (fun e => e.elim (fun e => (h.ki g e).2.2 hg) (h.km g hg).2), mels := All2.imp' h.mels fun _ _ hxy => hxy.chg cc kk, irow := ?_, kb := h.kb, kl := fun g hg => Nat.lt_of_lt_of_le (h.kl g hg) cc.size, km := h.km, ki := fun g hg => ?_ }, cc⟩
  · show w4.ownsRow 0 _ 1 v' (m.ids ++ [x]).length ((m.ids ++ [x]).map I)
    rw [List.length_append, List.map_append]
    exact World.ownsRow.keep_ row fun g hg => c4.block g (World.ownsRow.lt row g hg).2 (nb g hg)
  · rcases hv g hg with e | e
    · exact h.ki g e
    · exact ⟨fun hk => by have := h.kl g hk; omega, nb g hg, fun e1 => by have := (World.ownsRow.lt h.mrow g e1).2; omega⟩
theorem MoAt.pushMark (h : MoAt w bm K m vd vn vm vi xs) (v' : Value) (row : w3.ownsRow 0 32 1 v' (m.marks.length + 1) (xs ++ [vn])) (c : Chg (fun g => vm.ownBlock = some g) w w3) (hv : ∀ g, v'.ownBlock = some g → vm.ownBlock = some g ∨ w.heap.size ≤ g) :
    MoAt (w3.setCell ⟨bm, 3, none⟩ v') bm K { m with marks := m.marks ++ [m.now] } vd vn v' vi (xs ++ [vn]) ∧ Chg (fun g => vm.ownBlock = some g ∨ g = bm) w (w3.setCell ⟨bm, 3, none⟩ v') := by
  have c4 := chg_bm w3 bm 3 v'
  have cc : Chg (fun g => vm.ownBlock = some g ∨ g = bm) w (w3.setCell ⟨bm, 3, none⟩ v') := (c.mono fun g hg => .inl (.inl hg)).tr (c4.mono fun g hg => .inl (.inr hg))
  have hb := (h.blk.chg c (fun e => (h.km bm e).2 rfl)).set_ 3 v'
  have hbl := h.blk.lt
  have kk : ∀ g, K g → ¬ (vm.ownBlock = some g ∨ g = bm) := fun g hg e => e.elim (fun e => (h.km g e).1 hg) fun e => h.kb (by rw [← e]; exact hg)
  have nb : ∀ g, v'.ownBlock = some g → g ≠ bm := fun g hg e => by
    rcases hv g hg with e1 | e1
    · exact (h.km g e1).2 e
    · omega
  generalize w3.setCell ⟨bm, 3, none⟩ v' = w4 at *
  refine ⟨{ blk := by simpa using hb, d := h.d.chg cc kk, n := h.n.chg cc kk, mrow := ?_, mels := All2.snoc (All2.imp' h.mels fun _ _ hxy => hxy.chg cc kk) (h.n.chg cc kk), irow := World.ownsRow.keep_ h.irow fun g hg => cc.block g (World.ownsRow.lt h.irow g hg).2 (fun e => e.elim (fun e => (h.ki g hg).2.2 e) (h.ki g hg).2.1), kb := h.kb, kl := fun g hg => Nat.lt_of_lt_of_le (h.kl g hg) cc.size, km := fun g hg => ?_, ki := fun g hg => ⟨(h.ki g hg).1, (h.ki g hg).2.1, fun e => ?_⟩ }, cc⟩
  · show w4.ownsRow 0 _ 1 v' (m.marks ++ [m.now]).length _
    rw [List.length_append]
    exact World.ownsRow.keep_ row fun g hg => c4.block g (World.ownsRow.lt row g hg).2 (nb g hg)
  · rcases hv g hg with e | e
    · exact h.km g e
    · exact ⟨fun hk => by have := h.kl g hk; omega, nb g hg⟩
  · rcases hv g e with e1 | e1
    · exact (h.ki g hg).2.2 e1
    · have := (World.ownsRow.lt h.irow g hg).2; omega
end
theorem Ga.to2 {S : Nat → Prop} {w wi w' : World} {bm : Nat} {K : Nat → Prop} {m m' : MoM} {vd vn vm vi vd' vn' vm' vi' : Value} {xs xs' : List Value} {U Up : Nat → Prop} {a : Nat} {d n b : Int} (h : Ga w wi bm K m vd vn vm vi xs U Up a d n b) (c : Chg S wi w') (hS : ∀ g, S g → moB bm K vm vi g)
    (hm : MoAt w' bm K m' vd' vn' vm' vi' xs') (hs : ∀ g, moB bm K vm' vi' g → moB bm K vm vi g ∨ wi.heap.size ≤ g) : Ga w w' bm K m' vd' vn' vm' vi' xs' U Up a d n b where
  mo := hm
  far g hg := by
    rcases hs g hg with e | e
    · exact h.far g e
    · exact fun hu => by have := h.lt g hu; omega
  chg := h.chg.trans c fun g hg => h.sub g (.inl (hS g hg))
  sub g hg := by
    rcases hg with e | e
    · rcases hs g e with e | e
      · exact h.sub g (.inl e)
      · exact .inr (Nat.le_trans h.chg.size e)
    · exact h.sub g (.inr e)
  lt g hg := Nat.lt_of_lt_of_le (h.lt g hg) c.size
  arg := h.arg.chg c fun e => h.afar.2 (hS _ e)
  afar := ⟨h.afar.1, fun e => by
    rcases hs _ e with e | e
    · exact h.afar.2 e
    · have := h.arg.lt; omega⟩
theorem Like.mark {m : MoM} {D : List Bts} {own : PgL} {c : Nat} {wrote : Bool} {marks : List MarkM} {nx : Nat} (h : Like m D own c wrote marks nx) :
    Like ⟨m.done, m.opn, m.now, m.marks ++ [m.now], m.ids ++ [(nx : Int) + 1]⟩ D own c wrote (marks ++ [⟨(nx : Int) + 1, own, (c : Int)⟩]) (nx + 1) := by
  refine ⟨h.eopn, h.edone, h.enow, h.c12, ?_, ?_, fun x hx => ?_, ?_, fun x hx => ?_, fun hw => ?_⟩
  · show m.marks ++ [m.now] = _
    rw [h.emarks, h.enow]; simp
  · show m.ids ++ [(nx : Int) + 1] = _
    rw [h.eids]; simp
  · rcases List.mem_append.1 hx with e | e
    · exact h.m12 x e
    · rw [List.mem_singleton.1 e]; simpa using h.c12
  · rw [List.pairwise_append]
    refine ⟨h.rise, List.pairwise_singleton _ _, fun x hx y hy => ?_⟩
    rw [List.mem_singleton.1 hy]
    have := h.le x hx
    show x.n < (nx : Int) + 1
    omega
  · rcases List.mem_append.1 hx with e | e
    · have := h.le x e; omega
    · rw [List.mem_singleton.1 e]; show (nx : Int) + 1 ≤ _; omega
  · obtain ⟨h1, h2, h3⟩ := h.calm hw
    refine ⟨h1, h2, fun x hx => ?_⟩
    rcases List.mem_append.1 hx with e | e
    · exact h3 x e
    · rw [List.mem_singleton.1 e]; exact ⟨h1, by show (c : Int) = _; rw [h2]⟩
end Go.Proofs.YtamhjjagjjdmoaaGreat
end

section
namespace Go.Proofs.YtamhjjagjjdmoaaGreat
open Go.RowKit Go.Maps Go.Shelf Go.Sort

set_option maxHeartbeats 1000000 in
set_option maxRecDepth 100000 in
theorem act_begin_tx (w : World) (bp bd bm : Nat) (U : Nat → Prop) (m : MoM) (D : List Bts) (mode : Int) (t : Nat) (h : Game w bp bd bm U m D mode t) (ht : t ≤ 100) (ho : m.opn = true) (d n b : Int) (hd : wi d 11 = 0) :
    Calls Tryz.prog 37 #[ptr bm, ptr bp, .agg #[I d, I n, I b]] w (APost w bp bd bm U mode t) := by
  obtain ⟨Up, B, nx, hnx, hD, ⟨K, vd, vn, vm, vi, xs, mo, hB⟩, hBU, hBu, hUu, hUl, hst⟩ := h
  obtain ⟨md, mop, mn, mm, mi⟩ := m
  simp only at ho
  subst ho
  obtain ⟨own, c, wrote, marks, hml, hlike, hs⟩ := hst.resolve_left (fun e => by cases e.1)
  obtain rfl : md = D := hlike.edone
  clear hst
  obtain ⟨Ad, cd, rfl, _⟩ := mo.d.form
  obtain ⟨An, cn, rfl, _⟩ := mo.n.form
  obtain ⟨Am, cm, rfl, hcm⟩ := ownsRow_form mo.mrow
  obtain ⟨Ai, ci, rfl, hci⟩ := ownsRow_form mo.irow
  simp only at *
  obtain ⟨w1, hw1⟩ : ∃ w1, w1 = w.alloc (.cells #[I d, I n, I b] 42) := ⟨_, rfl⟩
  have G1 := Lib.hid (Ga.start (d := d) (n := n) (b := b) mo hB hBU hBu hUu hUl)
  have S1 := Lib.hid (hs.chg ((Chg.refl Non w).alloc (.cells #[I d, I n, I b] 42)) fun _ _ => id)
  rw [← hw1] at G1 S1
  have LK := Lib.hid (And.intro hml hlike)
  clear hml hlike
  have HU := Lib.hid (And.intro hUl (And.intro hnx (And.intro hD ht)))
  clear mo hB hBU hBu hUu hUl hs hnx hD ht
  go_enter Tryz.func37, Tryz.ntmps37
  go_wp2_with fail
  rw [← hw1]
  refine (within_any _ n 12 (by decide) (by decide)).mono ?_
  rintro e w' ⟨rfl, hw'⟩; have hw2 := hw'.symm; subst hw2; clear hw' hw1
  have hn12 := wi_lt n 12 (by decide)
  generalize wi n 12 = q at *
  have mc1 := G1.out.mo.blk.cell 1
  have ar0 := G1.out.arg.cell 0
  simp only [List.getElem?_toArray, List.getElem?_cons_zero, List.getElem?_cons_succ] at mc1 ar0
  have CC := Lib.hid (sbegin_tx w1 bp _ _ _ _ _ _ _ _ _ _ S1.out)
  go_wp2_with (first | (go_at_call 18; refine (num_any _ _).mono ?_; rintro e w' ⟨rfl, hw'⟩; have hw2 := hw'.symm; subst hw2) | (go_at_call 21; refine (within_any _ _ 11 (by decide) (by decide)).mono ?_; rintro e w' ⟨rfl, hw'⟩; have hw2 := hw'.symm; subst hw2; rw [hd]))
  refine CC.out.mono ?_
  rintro e w' ⟨rfl, hw'⟩; have hw3 := hw'.symm; subst hw3; clear hw' CC
  go_wp2_with (first | (go_at_call 18; refine (num_any _ _).mono ?_; rintro e w' ⟨rfl, hw'⟩; have hw2 := hw'.symm; subst hw2) | (go_at_call 21; refine (within_any _ _ 11 (by decide) (by decide)).mono ?_; rintro e w' ⟨rfl, hw'⟩; have hw2 := hw'.symm; subst hw2; rw [hd]))
  go_ret
  exact G1.out.tx HU.out.1 (Nat.le_succ_of_le HU.out.2.1) HU.out.2.2.1 (Nat.le_succ_of_le LK.out.1) LK.out.2 S1.out (by omega)

set_option maxHeartbeats 1000000 in
set_option maxRecDepth 100000 in
theorem act_fold_tx (w : World) (bp bd bm : Nat) (U : Nat → Prop) (m : MoM) (D : List Bts) (mode : Int) (t : Nat) (h : Game w bp bd bm U m D mode t) (ht : t ≤ 100) (ho : m.opn = true) (d n b : Int) (hd : wi d 11 = 10) :
    Calls Tryz.prog 37 #[ptr bm, ptr bp, .agg #[I d, I n, I b]] w (APost w bp bd bm U mode t) := by
  obtain ⟨Up, B, nx, hnx, hD, ⟨K, vd, vn, vm, vi, xs, mo, hB⟩, hBU, hBu, hUu, hUl, hst⟩ := h
  obtain ⟨md, mop, mn, mm, mi⟩ := m
  simp only at ho
  subst ho
  obtain ⟨own, c, wrote, marks, hml, hlike, hs⟩ := hst.resolve_left (fun e => by cases e.1)
  obtain rfl : md = D := hlike.edone
  clear hst
  obtain ⟨Ad, cd, rfl, _⟩ := mo.d.form
  obtain ⟨An, cn, rfl, _⟩ := mo.n.form
  obtain ⟨Am, cm, rfl, hcm⟩ := ownsRow_form mo.mrow
  obtain ⟨Ai, ci, rfl, hci⟩ := ownsRow_form mo.irow
  simp only at *
  obtain ⟨w1, hw1⟩ : ∃ w1, w1 = w.alloc (.cells #[I d, I n, I b] 42) := ⟨_, rfl⟩
  have G1 := Lib.hid (Ga.start (d := d) (n := n) (b := b) mo hB hBU hBu hUu hUl)
  have S1 := Lib.hid (hs.chg ((Chg.refl Non w).alloc (.cells #[I d, I n, I b] 42)) fun _ _ => id)
  rw [← hw1] at G1 S1
  have LK := Lib.hid (And.intro hml hlike)
  clear hml hlike
  have HU := Lib.hid (And.intro hUl (And.intro hnx (And.intro hD ht)))
  clear mo hB hBU hBu hUu hUl hs hnx hD ht
  go_enter Tryz.func37, Tryz.ntmps37
  go_wp2_with fail
  rw [← hw1]
  refine (within_any _ n 12 (by decide) (by decide)).mono ?_
  rintro e w' ⟨rfl, hw'⟩; have hw2 := hw'.symm; subst hw2; clear hw' hw1
  have hn12 := wi_lt n 12 (by decide)
  generalize wi n 12 = q at *
  have mc1 := G1.out.mo.blk.cell 1
  have ar0 := G1.out.arg.cell 0
  simp only [List.getElem?_toArray, List.getElem?_cons_zero, List.getElem?_cons_succ] at mc1 ar0
  have CC := Lib.hid (sfold_tx w1 bp _ _ _ _ _ _ _ _ _ _ S1.out)
  go_wp2_with (first | (go_at_call 18; refine (num_any _ _).mono ?_; rintro e w' ⟨rfl, hw'⟩; have hw2 := hw'.symm; subst hw2) | (go_at_call 21; refine (within_any _ _ 11 (by decide) (by decide)).mono ?_; rintro e w' ⟨rfl, hw'⟩; have hw2 := hw'.symm; subst hw2; rw [hd]))
  refine CC.out.mono ?_
  rintro e w' ⟨rfl, hw'⟩; have hw3 := hw'.symm; subst hw3; clear hw' CC
  go_wp2_with (first | (go_at_call 18; refine (num_any _ _).mono ?_; rintro e w' ⟨rfl, hw'⟩; have hw2 := hw'.symm; subst hw2) | (go_at_call 21; refine (within_any _ _ 11 (by decide) (by decide)).mono ?_; rintro e w' ⟨rfl, hw'⟩; have hw2 := hw'.symm; subst hw2; rw [hd]))
  go_ret
  exact G1.out.tx HU.out.1 (Nat.le_succ_of_le HU.out.2.1) HU.out.2.2.1 (Nat.le_succ_of_le LK.out.1) LK.out.2 S1.out (by omega)

set_option maxHeartbeats 1000000 in
set_option maxRecDepth 100000 in
theorem act_fold_idle (w : World) (bp bd bm : Nat) (U : Nat → Prop) (m : MoM) (D : List Bts) (mode : Int) (t : Nat) (h : Game w bp bd bm U m D mode t) (ht : t ≤ 100) (ho : m.opn = false) (d n b : Int) (hd : wi d 11 = 10) :
    Calls Tryz.prog 37 #[ptr bm, ptr bp, .agg #[I d, I n, I b]] w (APost w bp bd bm U mode t) := by
  obtain ⟨Up, B, nx, hnx, hD, ⟨K, vd, vn, vm, vi, xs, mo, hB⟩, hBU, hBu, hUu, hUl, hst⟩ := h
  obtain ⟨md, mop, mn, mm, mi⟩ := m
  simp only at ho
  subst ho
  obtain ⟨_, hdone, hs⟩ := hst.resolve_right (fun ⟨_, _, _, _, _, l, _⟩ => by have := l.eopn; cases this)
  simp only at hdone
  subst hdone
  clear hst
  obtain ⟨Ad, cd, rfl, _⟩ := mo.d.form
  obtain ⟨An, cn, rfl, _⟩ := mo.n.form
  obtain ⟨Am, cm, rfl, hcm⟩ := ownsRow_form mo.mrow
  obtain ⟨Ai, ci, rfl, hci⟩ := ownsRow_form mo.irow
  simp only at *
  obtain ⟨w1, hw1⟩ : ∃ w1, w1 = w.alloc (.cells #[I d, I n, I b] 42) := ⟨_, rfl⟩
  have G1 := Lib.hid (Ga.start (d := d) (n := n) (b := b) mo hB hBU hBu hUu hUl)
  have S1 := Lib.hid (hs.chg ((Chg.refl Non w).alloc (.cells #[I d, I n, I b] 42)) fun _ _ => id)
  rw [← hw1] at G1 S1
  have HU := Lib.hid (And.intro hUl (And.intro hnx (And.intro hD ht)))
  clear mo hB hBU hBu hUu hUl hs hnx hD ht
  go_enter Tryz.func37, Tryz.ntmps37
  go_wp2_with fail
  rw [← hw1]
  refine (within_any _ n 12 (by decide) (by decide)).mono ?_
  rintro e w' ⟨rfl, hw'⟩; have hw2 := hw'.symm; subst hw2; clear hw' hw1
  have hn12 := wi_lt n 12 (by decide)
  generalize wi n 12 = q at *
  have mc1 := G1.out.mo.blk.cell 1
  have ar0 := G1.out.arg.cell 0
  simp only [List.getElem?_toArray, List.getElem?_cons_zero, List.getElem?_cons_succ] at mc1 ar0
  have CC := Lib.hid (sfold w1 bp _ _ _ _ _ _ S1.out)
  go_wp2_with (first | (go_at_call 18; refine (num_any _ _).mono ?_; rintro e w' ⟨rfl, hw'⟩; have hw2 := hw'.symm; subst hw2) | (go_at_call 21; refine (within_any _ _ 11 (by decide) (by decide)).mono ?_; rintro e w' ⟨rfl, hw'⟩; have hw2 := hw'.symm; subst hw2; rw [hd]))
  refine CC.out.mono ?_
  rintro e w2 ⟨rfl, cc, ss, _⟩
  have G2 := Lib.hid (G1.out.step cc)
  have S2 := Lib.hid ss
  clear ss cc CC
  go_wp2_with (first | (go_at_call 18; refine (num_any _ _).mono ?_; rintro e w' ⟨rfl, hw'⟩; have hw2 := hw'.symm; subst hw2) | (go_at_call 21; refine (within_any _ _ 11 (by decide) (by decide)).mono ?_; rintro e w' ⟨rfl, hw'⟩; have hw2 := hw'.symm; subst hw2; rw [hd]))
  go_ret
  exact G2.out.idle HU.out.1 HU.out.2.1 HU.out.2.2.1 rfl rfl S2.out (by omega)

set_option maxHeartbeats 1000000 in
set_option maxRecDepth 100000 in
theorem act_back_idle (w : World) (bp bd bm : Nat) (U : Nat → Prop) (m : MoM) (D : List Bts) (mode : Int) (t : Nat) (h : Game w bp bd bm U m D mode t) (ht : t ≤ 100) (ho : m.opn = false) (d n b : Int) (hd : wi d 11 = 8) :
    Calls Tryz.prog 37 #[ptr bm, ptr bp, .agg #[I d, I n, I b]] w (APost w bp bd bm U mode t) := by
  obtain ⟨Up, B, nx, hnx, hD, ⟨K, vd, vn, vm, vi, xs, mo, hB⟩, hBU, hBu, hUu, hUl, hst⟩ := h
  obtain ⟨md, mop, mn, mm, mi⟩ := m
  simp only at ho
  subst ho
  obtain ⟨_, hdone, hs⟩ := hst.resolve_right (fun ⟨_, _, _, _, _, l, _⟩ => by have := l.eopn; cases this)
  simp only at hdone
  subst hdone
  clear hst
  obtain ⟨Ad, cd, rfl, _⟩ := mo.d.form
  obtain ⟨An, cn, rfl, _⟩ := mo.n.form
  obtain ⟨Am, cm, rfl, hcm⟩ := ownsRow_form mo.mrow
  obtain ⟨Ai, ci, rfl, hci⟩ := ownsRow_form mo.irow
  simp only at *
  obtain ⟨w1, hw1⟩ : ∃ w1, w1 = w.alloc (.cells #[I d, I n, I b] 42) := ⟨_, rfl⟩
  have G1 := Lib.hid (Ga.start (d := d) (n := n) (b := b) mo hB hBU hBu hUu hUl)
  have S1 := Lib.hid (hs.chg ((Chg.refl Non w).alloc (.cells #[I d, I n, I b] 42)) fun _ _ => id)
  rw [← hw1] at G1 S1
  have HU := Lib.hid (And.intro hUl (And.intro hnx (And.intro hD ht)))
  clear mo hB hBU hBu hUu hUl hs hnx hD ht
  go_enter Tryz.func37, Tryz.ntmps37
  go_wp2_with fail
  rw [← hw1]
  refine (within_any _ n 12 (by decide) (by decide)).mono ?_
  rintro e w' ⟨rfl, hw'⟩; have hw2 := hw'.symm; subst hw2; clear hw' hw1
  have hn12 := wi_lt n 12 (by decide)
  generalize wi n 12 = q at *
  have mc1 := G1.out.mo.blk.cell 1
  have ar0 := G1.out.arg.cell 0
  simp only [List.getElem?_toArray, List.getElem?_cons_zero, List.getElem?_cons_succ] at mc1 ar0
  have CC := Lib.hid (sback_idle w1 bp _ _ _ _ _ _ S1.out 0)
  go_wp2_with (first | (go_at_call 18; refine (num_any _ _).mono ?_; rintro e w' ⟨rfl, hw'⟩; have hw2 := hw'.symm; subst hw2) | (go_at_call 21; refine (within_any _ _ 11 (by decide) (by decide)).mono ?_; rintro e w' ⟨rfl, hw'⟩; have hw2 := hw'.symm; subst hw2; rw [hd]))
  refine CC.out.mono ?_
  rintro e w2 ⟨rfl, cc⟩
  have G2 := Lib.hid (G1.out.still cc)
  have S2 := Lib.hid (S1.out.chg cc fun _ _ => id)
  clear CC
  clear cc
  go_wp2_with (first | (go_at_call 18; refine (num_any _ _).mono ?_; rintro e w' ⟨rfl, hw'⟩; have hw2 := hw'.symm; subst hw2) | (go_at_call 21; refine (within_any _ _ 11 (by decide) (by decide)).mono ?_; rintro e w' ⟨rfl, hw'⟩; have hw2 := hw'.symm; subst hw2; rw [hd]))
  go_ret
  exact G2.out.idle HU.out.1 HU.out.2.1 HU.out.2.2.1 rfl rfl S2.out (by omega)

set_option maxHeartbeats 1000000 in
set_option maxRecDepth 100000 in
theorem act_roll_idle (w : World) (bp bd bm : Nat) (U : Nat → Prop) (m : MoM) (D : List Bts) (mode : Int) (t : Nat) (h : Game w bp bd bm U m D mode t) (ht : t ≤ 100) (ho : m.opn = false) (d n b : Int) (hd : wi d 11 = 6) :
    Calls Tryz.prog 37 #[ptr bm, ptr bp, .agg #[I d, I n, I b]] w (APost w bp bd bm U mode t) := by
  obtain ⟨Up, B, nx, hnx, hD, ⟨K, vd, vn, vm, vi, xs, mo, hB⟩, hBU, hBu, hUu, hUl, hst⟩ := h
  obtain ⟨md, mop, mn, mm, mi⟩ := m
  simp only at ho
  subst ho
  obtain ⟨_, hdone, hs⟩ := hst.resolve_right (fun ⟨_, _, _, _, _, l, _⟩ => by have := l.eopn; cases this)
  simp only at hdone
  subst hdone
  clear hst
  obtain ⟨Ad, cd, rfl, _⟩ := mo.d.form
  obtain ⟨An, cn, rfl, _⟩ := mo.n.form
  obtain ⟨Am, cm, rfl, hcm⟩ := ownsRow_form mo.mrow
  obtain ⟨Ai, ci, rfl, hci⟩ := ownsRow_form mo.irow
  simp only at *
  obtain ⟨w1, hw1⟩ : ∃ w1, w1 = w.alloc (.cells #[I d, I n, I b] 42) := ⟨_, rfl⟩
  have G1 := Lib.hid (Ga.start (d := d) (n := n) (b := b) mo hB hBU hBu hUu hUl)
  have S1 := Lib.hid (hs.chg ((Chg.refl Non w).alloc (.cells #[I d, I n, I b] 42)) fun _ _ => id)
  rw [← hw1] at G1 S1
  have HU := Lib.hid (And.intro hUl (And.intro hnx (And.intro hD ht)))
  clear mo hB hBU hBu hUu hUl hs hnx hD ht
  go_enter Tryz.func37, Tryz.ntmps37
  go_wp2_with fail
  rw [← hw1]
  refine (within_any _ n 12 (by decide) (by decide)).mono ?_
  rintro e w' ⟨rfl, hw'⟩; have hw2 := hw'.symm; subst hw2; clear hw' hw1
  have hn12 := wi_lt n 12 (by decide)
  generalize wi n 12 = q at *
  have mc1 := G1.out.mo.blk.cell 1
  have mf1 := G1.out.mo.blk.frozen 1
  have ar0 := G1.out.arg.cell 0
  simp only [List.getElem?_toArray, List.getElem?_cons_zero, List.getElem?_cons_succ] at mc1 ar0
  have CC := Lib.hid (srollback_idle w1 bp _ _ _ _ _ _ S1.out)
  go_wp2_with (first | (go_at_call 18; refine (num_any _ _).mono ?_; rintro e w' ⟨rfl, hw'⟩; have hw2 := hw'.symm; subst hw2) | (go_at_call 21; refine (within_any _ _ 11 (by decide) (by decide)).mono ?_; rintro e w' ⟨rfl, hw'⟩; have hw2 := hw'.symm; subst hw2; rw [hd]))
  refine CC.out.mono ?_
  rintro e w' ⟨rfl, hw'⟩; have hw3 := hw'.symm; subst hw3; clear hw' CC
  obtain ⟨mo', co⟩ := G1.out.mo.close
  obtain ⟨w2, hw2⟩ : ∃ w2, w2 = w1.setCell ⟨bm, 1, none⟩ (.bool false) := ⟨_, rfl⟩
  rw [← hw2] at mo' co
  have S2 := Lib.hid (S1.out.chg co fun g hg e => G1.out.far g (.inl e) hg)
  have G2 := Lib.hid (G1.out.to co mo' (fun g hg => by first | exact hg | (rcases hg with e | e | e | e; exact .inl e; exact .inr (.inl e); (simp [Value.ownBlock] at e); (simp [Value.ownBlock] at e))))
  clear mo' co
  have CC := Lib.hid (scount_idle w2 bp _ _ _ _ _ _ S2.out)
  rw [hw2] at CC
  go_wp2_with (first | (go_at_call 18; refine (num_any _ _).mono ?_; rintro e w' ⟨rfl, hw'⟩; have hw2 := hw'.symm; subst hw2) | (go_at_call 21; refine (within_any _ _ 11 (by decide) (by decide)).mono ?_; rintro e w' ⟨rfl, hw'⟩; have hw2 := hw'.symm; subst hw2; rw [hd]))
  refine CC.out.mono ?_
  rintro e w' ⟨rfl, hw'⟩; have hw3 := hw'.symm; subst hw3; clear hw' CC
  go_wp2_with (first | (go_at_call 18; refine (num_any _ _).mono ?_; rintro e w' ⟨rfl, hw'⟩; have hw2 := hw'.symm; subst hw2) | (go_at_call 21; refine (within_any _ _ 11 (by decide) (by decide)).mono ?_; rintro e w' ⟨rfl, hw'⟩; have hw2 := hw'.symm; subst hw2; rw [hd]))
  go_ret
  rw [← hw2]
  exact G2.out.idle HU.out.1 HU.out.2.1 HU.out.2.2.1 rfl rfl S2.out (by omega)

set_option maxHeartbeats 1000000 in
set_option maxRecDepth 100000 in
theorem act_commit_idle (w : World) (bp bd bm : Nat) (U : Nat → Prop) (m : MoM) (D : List Bts) (mode : Int) (t : Nat) (h : Game w bp bd bm U m D mode t) (ht : t ≤ 100) (ho : m.opn = false) (d n b : Int) (hd : wi d 11 = 5) :
    Calls Tryz.prog 37 #[ptr bm, ptr bp, .agg #[I d, I n, I b]] w (APost w bp bd bm U mode t) := by
  obtain ⟨Up, B, nx, hnx, hD, ⟨K, vd, vn, vm, vi, xs, mo, hB⟩, hBU, hBu, hUu, hUl, hst⟩ := h
  obtain ⟨md, mop, mn, mm, mi⟩ := m
  simp only at ho
  subst ho
  obtain ⟨_, hdone, hs⟩ := hst.resolve_right (fun ⟨_, _, _, _, _, l, _⟩ => by have := l.eopn; cases this)
  simp only at hdone
  subst hdone
  clear hst
  obtain ⟨Ad, cd, rfl, _⟩ := mo.d.form
  obtain ⟨An, cn, rfl, _⟩ := mo.n.form
  obtain ⟨Am, cm, rfl, hcm⟩ := ownsRow_form mo.mrow
  obtain ⟨Ai, ci, rfl, hci⟩ := ownsRow_form mo.irow
  simp only at *
  obtain ⟨w1, hw1⟩ : ∃ w1, w1 = w.alloc (.cells #[I d, I n, I b] 42) := ⟨_, rfl⟩
  have G1 := Lib.hid (Ga.start (d := d) (n := n) (b := b) mo hB hBU hBu hUu hUl)
  have S1 := Lib.hid (hs.chg ((Chg.refl Non w).alloc (.cells #[I d, I n, I b] 42)) fun _ _ => id)
  rw [← hw1] at G1 S1
  have HU := Lib.hid (And.intro hUl (And.intro hnx (And.intro hD ht)))
  clear mo hB hBU hBu hUu hUl hs hnx hD ht
  go_enter Tryz.func37, Tryz.ntmps37
  go_wp2_with fail
  rw [← hw1]
  refine (within_any _ n 12 (by decide) (by decide)).mono ?_
  rintro e w' ⟨rfl, hw'⟩; have hw2 := hw'.symm; subst hw2; clear hw' hw1
  have hn12 := wi_lt n 12 (by decide)
  generalize wi n 12 = q at *
  have mc1 := G1.out.mo.blk.cell 1
  have mf1 := G1.out.mo.blk.frozen 1
  have ar0 := G1.out.arg.cell 0
  simp only [List.getElem?_toArray, List.getElem?_cons_zero, List.getElem?_cons_succ] at mc1 ar0
  have CC := Lib.hid (scommit_idle w1 bp _ _ _ _ _ _ S1.out)
  go_wp2_with (first | (go_at_call 18; refine (num_any _ _).mono ?_; rintro e w' ⟨rfl, hw'⟩; have hw2 := hw'.symm; subst hw2) | (go_at_call 21; refine (within_any _ _ 11 (by decide) (by decide)).mono ?_; rintro e w' ⟨rfl, hw'⟩; have hw2 := hw'.symm; subst hw2; rw [hd]))
  refine CC.out.mono ?_
  rintro e w' ⟨rfl, hw'⟩; have hw3 := hw'.symm; subst hw3; clear hw' CC
  obtain ⟨mo', co⟩ := G1.out.mo.close
  obtain ⟨w2, hw2⟩ : ∃ w2, w2 = w1.setCell ⟨bm, 1, none⟩ (.bool false) := ⟨_, rfl⟩
  rw [← hw2] at mo' co
  have S2 := Lib.hid (S1.out.chg co fun g hg e => G1.out.far g (.inl e) hg)
  have G2 := Lib.hid (G1.out.to co mo' (fun g hg => by first | exact hg | (rcases hg with e | e | e | e; exact .inl e; exact .inr (.inl e); (simp [Value.ownBlock] at e); (simp [Value.ownBlock] at e))))
  clear mo' co
  have CC := Lib.hid (scount_idle w2 bp _ _ _ _ _ _ S2.out)
  rw [hw2] at CC
  go_wp2_with (first | (go_at_call 18; refine (num_any _ _).mono ?_; rintro e w' ⟨rfl, hw'⟩; have hw2 := hw'.symm; subst hw2) | (go_at_call 21; refine (within_any _ _ 11 (by decide) (by decide)).mono ?_; rintro e w' ⟨rfl, hw'⟩; have hw2 := hw'.symm; subst hw2; rw [hd]))
  refine CC.out.mono ?_
  rintro e w' ⟨rfl, hw'⟩; have hw3 := hw'.symm; subst hw3; clear hw' CC
  go_wp2_with (first | (go_at_call 18; refine (num_any _ _).mono ?_; rintro e w' ⟨rfl, hw'⟩; have hw2 := hw'.symm; subst hw2) | (go_at_call 21; refine (within_any _ _ 11 (by decide) (by decide)).mono ?_; rintro e w' ⟨rfl, hw'⟩; have hw2 := hw'.symm; subst hw2; rw [hd]))
  go_ret
  rw [← hw2]
  exact G2.out.idle HU.out.1 HU.out.2.1 HU.out.2.2.1 rfl rfl S2.out (by omega)

set_option maxHeartbeats 1000000 in
set_option maxRecDepth 100000 in
theorem act_roll_tx (w : World) (bp bd bm : Nat) (U : Nat → Prop) (m : MoM) (D : List Bts) (mode : Int) (t : Nat) (h : Game w bp bd bm U m D mode t) (ht : t ≤ 100) (ho : m.opn = true) (d n b : Int) (hd : wi d 11 = 6) :
    Calls Tryz.prog 37 #[ptr bm, ptr bp, .agg #[I d, I n, I b]] w (APost w bp bd bm U mode t) := by
  obtain ⟨Up, B, nx, hnx, hD, ⟨K, vd, vn, vm, vi, xs, mo, hB⟩, hBU, hBu, hUu, hUl, hst⟩ := h
  obtain ⟨md, mop, mn, mm, mi⟩ := m
  simp only at ho
  subst ho
  obtain ⟨own, c, wrote, marks, hml, hlike, hs⟩ := hst.resolve_left (fun e => by cases e.1)
  obtain rfl : md = D := hlike.edone
  clear hst
  obtain ⟨Ad, cd, rfl, _⟩ := mo.d.form
  obtain ⟨An, cn, rfl, _⟩ := mo.n.form
  obtain ⟨Am, cm, rfl, hcm⟩ := ownsRow_form mo.mrow
  obtain ⟨Ai, ci, rfl, hci⟩ := ownsRow_form mo.irow
  simp only at *
  obtain ⟨w1, hw1⟩ : ∃ w1, w1 = w.alloc (.cells #[I d, I n, I b] 42) := ⟨_, rfl⟩
  have G1 := Lib.hid (Ga.start (d := d) (n := n) (b := b) mo hB hBU hBu hUu hUl)
  have S1 := Lib.hid (hs.chg ((Chg.refl Non w).alloc (.cells #[I d, I n, I b] 42)) fun _ _ => id)
  rw [← hw1] at G1 S1
  have LK := Lib.hid (And.intro hml hlike)
  clear hml hlike
  have HU := Lib.hid (And.intro hUl (And.intro hnx (And.intro hD ht)))
  clear mo hB hBU hBu hUu hUl hs hnx hD ht
  go_enter Tryz.func37, Tryz.ntmps37
  go_wp2_with fail
  rw [← hw1]
  refine (within_any _ n 12 (by decide) (by decide)).mono ?_
  rintro e w' ⟨rfl, hw'⟩; have hw2 := hw'.symm; subst hw2; clear hw' hw1
  have hn12 := wi_lt n 12 (by decide)
  generalize wi n 12 = q at *
  have mc1 := G1.out.mo.blk.cell 1
  have mf1 := G1.out.mo.blk.frozen 1
  have ar0 := G1.out.arg.cell 0
  simp only [List.getElem?_toArray, List.getElem?_cons_zero, List.getElem?_cons_succ] at mc1 ar0
  have CC := Lib.hid (srollback w1 bp _ _ _ _ _ _ _ _ _ _ S1.out)
  go_wp2_with (first | (go_at_call 18; refine (num_any _ _).mono ?_; rintro e w' ⟨rfl, hw'⟩; have hw2 := hw'.symm; subst hw2) | (go_at_call 21; refine (within_any _ _ 11 (by decide) (by decide)).mono ?_; rintro e w' ⟨rfl, hw'⟩; have hw2 := hw'.symm; subst hw2; rw [hd]))
  refine CC.out.mono ?_
  rintro e w2 ⟨rfl, cc, ss⟩
  have G2 := Lib.hid (G1.out.step cc)
  have S2 := Lib.hid ss
  clear ss cc CC
  have mc1 := G2.out.mo.blk.cell 1
  have mf1 := G2.out.mo.blk.frozen 1
  simp only [List.getElem?_toArray, List.getElem?_cons_zero, List.getElem?_cons_succ] at mc1
  obtain ⟨mo', co⟩ := G2.out.mo.close
  obtain ⟨w3, hw3⟩ : ∃ w3, w3 = w2.setCell ⟨bm, 1, none⟩ (.bool false) := ⟨_, rfl⟩
  rw [← hw3] at mo' co
  have S3 := Lib.hid (S2.out.chg co fun g hg e => G2.out.far g (.inl e) hg)
  have G3 := Lib.hid (G2.out.to co mo' (fun g hg => by first | exact hg | (rcases hg with e | e | e | e; exact .inl e; exact .inr (.inl e); (simp [Value.ownBlock] at e); (simp [Value.ownBlock] at e))))
  clear mo' co
  have CC := Lib.hid (scount_idle w3 bp _ _ _ _ _ _ S3.out)
  rw [hw3] at CC
  go_wp2_with (first | (go_at_call 18; refine (num_any _ _).mono ?_; rintro e w' ⟨rfl, hw'⟩; have hw2 := hw'.symm; subst hw2) | (go_at_call 21; refine (within_any _ _ 11 (by decide) (by decide)).mono ?_; rintro e w' ⟨rfl, hw'⟩; have hw2 := hw'.symm; subst hw2; rw [hd]))
  refine CC.out.mono ?_
  rintro e w' ⟨rfl, hw'⟩; have hw3 := hw'.symm; subst hw3; clear hw' CC
  go_wp2_with (first | (go_at_call 18; refine (num_any _ _).mono ?_; rintro e w' ⟨rfl, hw'⟩; have hw2 := hw'.symm; subst hw2) | (go_at_call 21; refine (within_any _ _ 11 (by decide) (by decide)).mono ?_; rintro e w' ⟨rfl, hw'⟩; have hw2 := hw'.symm; subst hw2; rw [hd]))
  go_ret
  rw [← hw3]
  exact G3.out.idle HU.out.1 HU.out.2.1 HU.out.2.2.1 rfl rfl S3.out (by omega)

set_option maxHeartbeats 1000000 in
set_option maxRecDepth 100000 in
theorem act_commit_tx (w : World) (bp bd bm : Nat) (U : Nat → Prop) (m : MoM) (D : List Bts) (mode : Int) (t : Nat) (h : Game w bp bd bm U m D mode t) (ht : t ≤ 100) (ho : m.opn = true) (d n b : Int) (hd : wi d 11 = 5) :
    Calls Tryz.prog 37 #[ptr bm, ptr bp, .agg #[I d, I n, I b]] w (APost w bp bd bm U mode t) := by
  obtain ⟨Up, B, nx, hnx, hD, ⟨K, vd, vn, vm, vi, xs, mo, hB⟩, hBU, hBu, hUu, hUl, hst⟩ := h
  obtain ⟨md, mop, mn, mm, mi⟩ := m
  simp only at ho
  subst ho
  obtain ⟨own, c, wrote, marks, hml, hlike, hs⟩ := hst.resolve_left (fun e => by cases e.1)
  obtain rfl : md = D := hlike.edone
  clear hst
  obtain ⟨Ad, cd, rfl, _⟩ := mo.d.form
  obtain ⟨An, cn, rfl, _⟩ := mo.n.form
  obtain ⟨Am, cm, rfl, hcm⟩ := ownsRow_form mo.mrow
  obtain ⟨Ai, ci, rfl, hci⟩ := ownsRow_form mo.irow
  simp only at *
  obtain ⟨w1, hw1⟩ : ∃ w1, w1 = w.alloc (.cells #[I d, I n, I b] 42) := ⟨_, rfl⟩
  have G1 := Lib.hid (Ga.start (d := d) (n := n) (b := b) mo hB hBU hBu hUu hUl)
  have S1 := Lib.hid (hs.chg ((Chg.refl Non w).alloc (.cells #[I d, I n, I b] 42)) fun _ _ => id)
  rw [← hw1] at G1 S1
  have LK := Lib.hid (And.intro hml hlike)
  clear hml hlike
  have HU := Lib.hid (And.intro hUl (And.intro hnx (And.intro hD ht)))
  clear mo hB hBU hBu hUu hUl hs hnx hD ht
  go_enter Tryz.func37, Tryz.ntmps37
  go_wp2_with fail
  rw [← hw1]
  refine (within_any _ n 12 (by decide) (by decide)).mono ?_
  rintro e w' ⟨rfl, hw'⟩; have hw2 := hw'.symm; subst hw2; clear hw' hw1
  have hn12 := wi_lt n 12 (by decide)
  generalize wi n 12 = q at *
  have mc1 := G1.out.mo.blk.cell 1
  have mf1 := G1.out.mo.blk.frozen 1
  have ar0 := G1.out.arg.cell 0
  simp only [List.getElem?_toArray, List.getElem?_cons_zero, List.getElem?_cons_succ] at mc1 ar0
  have hc12 := LK.out.2.c12
  have ht := HU.out.2.2.2
  have CC := Lib.hid (scommit w1 bp _ _ _ _ _ _ _ _ _ _ S1.out (by omega) (fun hw => by obtain ⟨e1, e2, _⟩ := LK.out.2.calm hw; rw [e1, e2]; exact view_nil _))
  go_wp2_with (first | (go_at_call 18; refine (num_any _ _).mono ?_; rintro e w' ⟨rfl, hw'⟩; have hw2 := hw'.symm; subst hw2) | (go_at_call 21; refine (within_any _ _ 11 (by decide) (by decide)).mono ?_; rintro e w' ⟨rfl, hw'⟩; have hw2 := hw'.symm; subst hw2; rw [hd]))
  refine CC.out.mono ?_
  rintro e w2 ⟨rfl, cc, ss⟩
  have G2 := Lib.hid (G1.out.step cc)
  have S2 := Lib.hid ss
  clear ss cc CC
  have mc0 := G2.out.mo.blk.cell 0
  have mc1 := G2.out.mo.blk.cell 1
  have mc2 := G2.out.mo.blk.cell 2
  have mf0 := G2.out.mo.blk.frozen 0
  have mf1 := G2.out.mo.blk.frozen 1
  simp only [List.getElem?_toArray, List.getElem?_cons_zero, List.getElem?_cons_succ] at mc0 mc1 mc2
  obtain ⟨mo', co⟩ := G2.out.mo.commit
  obtain ⟨w3, hw3⟩ : ∃ w3, w3 = (w2.setCell ⟨bm, 0, none⟩ (.slice An mn.length cn)).setCell ⟨bm, 1, none⟩ (.bool false) := ⟨_, rfl⟩
  rw [← hw3] at mo' co
  have S3 := Lib.hid (S2.out.chg co fun g hg e => G2.out.far g (.inl e) hg)
  have G3 := Lib.hid (G2.out.to co mo' (fun g hg => by first | exact hg | (rcases hg with e | e | e | e; exact .inl e; exact .inr (.inl e); (simp [Value.ownBlock] at e); (simp [Value.ownBlock] at e))))
  clear mo' co
  have CC := Lib.hid (scount_idle w3 bp _ _ _ _ _ _ S3.out)
  rw [hw3] at CC
  go_wp2_with (first | (go_at_call 18; refine (num_any _ _).mono ?_; rintro e w' ⟨rfl, hw'⟩; have hw2 := hw'.symm; subst hw2) | (go_at_call 21; refine (within_any _ _ 11 (by decide) (by decide)).mono ?_; rintro e w' ⟨rfl, hw'⟩; have hw2 := hw'.symm; subst hw2; rw [hd]))
  refine CC.out.mono ?_
  rintro e w' ⟨rfl, hw'⟩; have hw3 := hw'.symm; subst hw3; clear hw' CC
  go_wp2_with (first | (go_at_call 18; refine (num_any _ _).mono ?_; rintro e w' ⟨rfl, hw'⟩; have hw2 := hw'.symm; subst hw2) | (go_at_call 21; refine (within_any _ _ 11 (by decide) (by decide)).mono ?_; rintro e w' ⟨rfl, hw'⟩; have hw2 := hw'.symm; subst hw2; rw [hd]))
  go_ret
  rw [← hw3]
  exact G3.out.idle HU.out.1 HU.out.2.1 (by rw [length_view]; exact hc12) rfl LK.out.2.enow S3.out (by omega)

set_option maxHeartbeats 1000000 in
set_option maxRecDepth 100000 in
theorem act_mark_idle (w : World) (bp bd bm : Nat) (U : Nat → Prop) (m : MoM) (D : List Bts) (mode : Int) (t : Nat) (h : Game w bp bd bm U m D mode t) (ht : t ≤ 100) (ho : m.opn = false) (d n b : Int) (hd : wi d 11 = 7) :
    Calls Tryz.prog 37 #[ptr bm, ptr bp, .agg #[I d, I n, I b]] w (APost w bp bd bm U mode t) := by
  obtain ⟨Up, B, nx, hnx, hD, ⟨K, vd, vn, vm, vi, xs, mo, hB⟩, hBU, hBu, hUu, hUl, hst⟩ := h
  obtain ⟨md, mop, mn, mm, mi⟩ := m
  simp only at ho
  subst ho
  obtain ⟨_, hdone, hs⟩ := hst.resolve_right (fun ⟨_, _, _, _, _, l, _⟩ => by have := l.eopn; cases this)
  simp only at hdone
  subst hdone
  clear hst
  obtain ⟨Ad, cd, rfl, _⟩ := mo.d.form
  obtain ⟨An, cn, rfl, _⟩ := mo.n.form
  obtain ⟨Am, cm, rfl, hcm⟩ := ownsRow_form mo.mrow
  obtain ⟨Ai, ci, rfl, hci⟩ := ownsRow_form mo.irow
  simp only at *
  obtain ⟨w1, hw1⟩ : ∃ w1, w1 = w.alloc (.cells #[I d, I n, I b] 42) := ⟨_, rfl⟩
  have G1 := Lib.hid (Ga.start (d := d) (n := n) (b := b) mo hB hBU hBu hUu hUl)
  have S1 := Lib.hid (hs.chg ((Chg.refl Non w).alloc (.cells #[I d, I n, I b] 42)) fun _ _ => id)
  rw [← hw1] at G1 S1
  have HU := Lib.hid (And.intro hUl (And.intro hnx (And.intro hD ht)))
  clear mo hB hBU hBu hUu hUl hs hnx hD ht
  go_enter Tryz.func37, Tryz.ntmps37
  go_wp2_with fail
  rw [← hw1]
  refine (within_any _ n 12 (by decide) (by decide)).mono ?_
  rintro e w' ⟨rfl, hw'⟩; have hw2 := hw'.symm; subst hw2; clear hw' hw1
  have hn12 := wi_lt n 12 (by decide)
  generalize wi n 12 = q at *
  have mc1 := G1.out.mo.blk.cell 1
  have ar0 := G1.out.arg.cell 0
  simp only [List.getElem?_toArray, List.getElem?_cons_zero, List.getElem?_cons_succ] at mc1 ar0
  have CC := Lib.hid (smark_idle w1 bp _ _ _ _ _ _ S1.out)
  go_wp2_with (first | (go_at_call 18; refine (num_any _ _).mono ?_; rintro e w' ⟨rfl, hw'⟩; have hw2 := hw'.symm; subst hw2) | (go_at_call 21; refine (within_any _ _ 11 (by decide) (by decide)).mono ?_; rintro e w' ⟨rfl, hw'⟩; have hw2 := hw'.symm; subst hw2; rw [hd]))
  refine CC.out.mono ?_
  rintro e w' ⟨rfl, hw'⟩; have hw3 := hw'.symm; subst hw3; clear hw' CC
  have CC := Lib.hid (scount_idle w1 bp _ _ _ _ _ _ S1.out)
  go_wp2_with (first | (go_at_call 18; refine (num_any _ _).mono ?_; rintro e w' ⟨rfl, hw'⟩; have hw2 := hw'.symm; subst hw2) | (go_at_call 21; refine (within_any _ _ 11 (by decide) (by decide)).mono ?_; rintro e w' ⟨rfl, hw'⟩; have hw2 := hw'.symm; subst hw2; rw [hd]))
  refine CC.out.mono ?_
  rintro e w' ⟨rfl, hw'⟩; have hw3 := hw'.symm; subst hw3; clear hw' CC
  go_wp2_with (first | (go_at_call 18; refine (num_any _ _).mono ?_; rintro e w' ⟨rfl, hw'⟩; have hw2 := hw'.symm; subst hw2) | (go_at_call 21; refine (within_any _ _ 11 (by decide) (by decide)).mono ?_; rintro e w' ⟨rfl, hw'⟩; have hw2 := hw'.symm; subst hw2; rw [hd]))
  go_ret
  exact G1.out.idle HU.out.1 HU.out.2.1 HU.out.2.2.1 rfl rfl S1.out (by omega)
end Go.Proofs.YtamhjjagjjdmoaaGreat
end

section
namespace Go.Proofs.YtamhjjagjjdmoaaGreat
open Go.RowKit Go.Maps Go.Shelf Go.Sort

set_option maxHeartbeats 1000000 in
set_option maxRecDepth 100000 in
theorem act_begin_idle (w : World) (bp bd bm : Nat) (U : Nat → Prop) (m : MoM) (D : List Bts) (mode : Int) (t : Nat) (h : Game w bp bd bm U m D mode t) (ht : t ≤ 100) (ho : m.opn = false) (d n b : Int) (hd : wi d 11 = 0) :
    Calls Tryz.prog 37 #[ptr bm, ptr bp, .agg #[I d, I n, I b]] w (APost w bp bd bm U mode t) := by
  obtain ⟨Up, B, nx, hnx, hD, ⟨K, vd, vn, vm, vi, xs, mo, hB⟩, hBU, hBu, hUu, hUl, hst⟩ := h
  obtain ⟨md, mop, mn, mm, mi⟩ := m
  simp only at ho
  subst ho
  obtain ⟨_, hdone, hs⟩ := hst.resolve_right (fun ⟨_, _, _, _, _, l, _⟩ => by have := l.eopn; cases this)
  simp only at hdone
  subst hdone
  clear hst
  obtain ⟨Ad, cd, rfl, _⟩ := mo.d.form
  obtain ⟨An, cn, rfl, _⟩ := mo.n.form
  obtain ⟨Am, cm, rfl, hcm⟩ := ownsRow_form mo.mrow
  obtain ⟨Ai, ci, rfl, hci⟩ := ownsRow_form mo.irow
  simp only at *
  obtain ⟨w1, hw1⟩ : ∃ w1, w1 = w.alloc (.cells #[I d, I n, I b] 42) := ⟨_, rfl⟩
  have G1 := Lib.hid (Ga.start (d := d) (n := n) (b := b) mo hB hBU hBu hUu hUl)
  have S1 := Lib.hid (hs.chg ((Chg.refl Non w).alloc (.cells #[I d, I n, I b] 42)) fun _ _ => id)
  rw [← hw1] at G1 S1
  have HU := Lib.hid (And.intro hUl (And.intro hnx (And.intro hD ht)))
  clear mo hB hBU hBu hUu hUl hs hnx hD ht
  go_enter Tryz.func37, Tryz.ntmps37
  go_wp2_with fail
  rw [← hw1]
  refine (within_any _ n 12 (by decide) (by decide)).mono ?_
  rintro e w' ⟨rfl, hw'⟩; have hw2 := hw'.symm; subst hw2; clear hw' hw1
  have hn12 := wi_lt n 12 (by decide)
  generalize wi n 12 = q at *
  have mc0 := G1.out.mo.blk.cell 0
  have mc1 := G1.out.mo.blk.cell 1
  have mc2 := G1.out.mo.blk.cell 2
  have mc3 := G1.out.mo.blk.cell 3
  have mc4 := G1.out.mo.blk.cell 4
  have mf1 := G1.out.mo.blk.frozen 1
  have mf2 := G1.out.mo.blk.frozen 2
  have mf3 := G1.out.mo.blk.frozen 3
  have mf4 := G1.out.mo.blk.frozen 4
  have ar0 := G1.out.arg.cell 0
  simp only [List.getElem?_toArray, List.getElem?_cons_zero, List.getElem?_cons_succ] at mc0 mc1 mc2 mc3 mc4 ar0
  obtain ⟨mo', co⟩ := G1.out.mo.begin
  obtain ⟨w2, hw2⟩ : ∃ w2, w2 = (((w1.setCell ⟨bm, 1, none⟩ (.bool true)).setCell ⟨bm, 2, none⟩ (.slice Ad md.length cd)).setCell ⟨bm, 3, none⟩ (.slice none 0 0)).setCell ⟨bm, 4, none⟩ (.slice none 0 0) := ⟨_, rfl⟩
  rw [← hw2] at mo' co
  have S2 := Lib.hid (S1.out.chg co fun g hg e => G1.out.far g (.inl e) hg)
  have G2 := Lib.hid (G1.out.to co mo' (fun g hg => by first | exact hg | (rcases hg with e | e | e | e; exact .inl e; exact .inr (.inl e); (simp [Value.ownBlock] at e); (simp [Value.ownBlock] at e))))
  clear mo' co
  go_wp2_with (first | (go_at_call 18; refine (num_any _ _).mono ?_; rintro e w' ⟨rfl, hw'⟩; have hw2 := hw'.symm; subst hw2) | (go_at_call 21; refine (within_any _ _ 11 (by decide) (by decide)).mono ?_; rintro e w' ⟨rfl, hw'⟩; have hw2 := hw'.symm; subst hw2; rw [hd]))
  rw [← hw2]
  have GD := Lib.hid (G2.out.still ((Chg.refl Non w2).drew))
  have CC := Lib.hid (sbegin w2.drew bp _ _ _ _ _ _ (S2.out.chg ((Chg.refl Non w2).drew) fun _ _ => id))
  have n2 := G2.out.mo.blk.cell 2
  simp only [List.getElem?_toArray, List.getElem?_cons_zero, List.getElem?_cons_succ] at n2
  clear hw2 mc0 mc1 mc2 mc3 mc4 mf1 mf2 mf3 mf4
  go_region_held3 (fun w' => w'.cell? ⟨bm, 2, none⟩ = some (.slice Ad md.length cd)) (go_keep) (first | (go_at_call 18; refine (num_any _ _).mono ?_; rintro e w' ⟨rfl, hw'⟩; have hw2 := hw'.symm; subst hw2) | (go_at_call 22; refine CC.out.mono ?_; rintro e w3 ⟨rfl, cc, ss⟩; have G3 := Lib.hid (GD.out.step cc); have S3 := Lib.hid ss; clear cc ss; have n3 := G3.out.mo.blk.cell 2; simp only [List.getElem?_toArray, List.getElem?_cons_zero, List.getElem?_cons_succ] at n3; have CN := Lib.hid (scount_tx w3 bp _ _ _ _ _ _ _ _ _ _ S3.out)) | (go_at_call 28; refine CN.out.mono ?_; rintro e w' ⟨rfl, hw'⟩; have hw3 := hw'.symm; subst hw3))
  go_wp2_with fail
  go_ret
  exact G3.out.tx HU.out.1 (Nat.le_succ_of_le HU.out.2.1) HU.out.2.2.1 (Nat.zero_le _) ⟨rfl, rfl, (view_nil _).symm, HU.out.2.2.1, rfl, rfl, fun _ h => (by cases h), .nil, fun _ h => (by cases h), fun _ => ⟨rfl, rfl, fun _ h => (by cases h)⟩⟩ S3.out (by omega)

set_option maxHeartbeats 1000000 in
set_option maxRecDepth 100000 in
theorem act_read_idle (w : World) (bp bd bm : Nat) (U : Nat → Prop) (m : MoM) (D : List Bts) (mode : Int) (t : Nat) (h : Game w bp bd bm U m D mode t) (ht : t ≤ 100) (ho : m.opn = false) (d n b : Int) (hd : wi d 11 = 4) :
    Calls Tryz.prog 37 #[ptr bm, ptr bp, .agg #[I d, I n, I b]] w (APost w bp bd bm U mode t) := by
  obtain ⟨Up, B, nx, hnx, hD, ⟨K, vd, vn, vm, vi, xs, mo, hB⟩, hBU, hBu, hUu, hUl, hst⟩ := h
  obtain ⟨md, mop, mn, mm, mi⟩ := m
  simp only at ho
  subst ho
  obtain ⟨_, hdone, hs⟩ := hst.resolve_right (fun ⟨_, _, _, _, _, l, _⟩ => by have := l.eopn; cases this)
  simp only at hdone
  subst hdone
  clear hst
  obtain ⟨Ad, cd, rfl, _⟩ := mo.d.form
  obtain ⟨An, cn, rfl, _⟩ := mo.n.form
  obtain ⟨Am, cm, rfl, hcm⟩ := ownsRow_form mo.mrow
  obtain ⟨Ai, ci, rfl, hci⟩ := ownsRow_form mo.irow
  simp only at *
  obtain ⟨w1, hw1⟩ : ∃ w1, w1 = w.alloc (.cells #[I d, I n, I b] 42) := ⟨_, rfl⟩
  have G1 := Lib.hid (Ga.start (d := d) (n := n) (b := b) mo hB hBU hBu hUu hUl)
  have S1 := Lib.hid (hs.chg ((Chg.refl Non w).alloc (.cells #[I d, I n, I b] 42)) fun _ _ => id)
  rw [← hw1] at G1 S1
  have HU := Lib.hid (And.intro hUl (And.intro hnx (And.intro hD ht)))
  clear mo hB hBU hBu hUu hUl hs hnx hD ht
  go_enter Tryz.func37, Tryz.ntmps37
  go_wp2_with fail
  rw [← hw1]
  refine (within_any _ n 12 (by decide) (by decide)).mono ?_
  rintro e w' ⟨rfl, hw'⟩; have hw2 := hw'.symm; subst hw2; clear hw' hw1
  have hn12 := wi_lt n 12 (by decide)
  generalize wi n 12 = q at *
  have mc1 := G1.out.mo.blk.cell 1
  have mc2 := G1.out.mo.blk.cell 2
  have ar0 := G1.out.arg.cell 0
  simp only [List.getElem?_toArray, List.getElem?_cons_zero, List.getElem?_cons_succ] at mc1 mc2 ar0
  have CC := Lib.hid (sread_idle w1 bp _ _ _ _ _ _ S1.out q)
  go_wp2_with (first | (go_at_call 18; refine (num_any _ _).mono ?_; rintro e w' ⟨rfl, hw'⟩; have hw2 := hw'.symm; subst hw2) | (go_at_call 21; refine (within_any _ _ 11 (by decide) (by decide)).mono ?_; rintro e w' ⟨rfl, hw'⟩; have hw2 := hw'.symm; subst hw2; rw [hd]))
  refine CC.out.mono ?_
  rintro e w' ⟨rfl, hw'⟩; have hw3 := hw'.symm; subst hw3; clear hw' CC
  obtain ⟨Z9, hmk, hown⟩ := make_page w1
  have cZ : Chg Non w1 (w1.alloc (.cells Z9 5)) := (Chg.refl _ _).alloc _
  have GZ := Lib.hid (G1.out.still cZ)
  have SZ := Lib.hid (S1.out.chg cZ fun _ _ => id)
  have OZ := Lib.hid hown
  clear hown
  have mz2 := GZ.out.mo.blk.cell 2
  simp only [List.getElem?_toArray, List.getElem?_cons_zero, List.getElem?_cons_succ] at mz2
  have rn := GZ.out.mo.n
  simp only at rn
  have CC := Lib.hid (spoil_any (w1.alloc (.cells Z9 5)) (.slice none 0 0) 0 ⟨[], .inl ⟨rfl, rfl⟩, rfl⟩ (by decide))
  by_cases hq : q < mn.length
  · have i1 : (q : Int) < (mn.length : Int) := by omega
    obtain ⟨gq, cq, xq, eq_, hcq, hpq⟩ := rn.at q hq
    injection eq_ with e1 _ e2
    subst e1; subst e2
    obtain ⟨Aq, kq, rfl, _⟩ := hpq.1.form
    have PQ := Lib.hid hpq
    clear rn hpq
    go_wp2_with (first | (go_at_call 18; refine (num_any _ _).mono ?_; rintro e w' ⟨rfl, hw'⟩; have hw2 := hw'.symm; subst hw2) | (go_at_call 21; refine (within_any _ _ 11 (by decide) (by decide)).mono ?_; rintro e w' ⟨rfl, hw'⟩; have hw2 := hw'.symm; subst hw2; rw [hd]))
    refine CC.out.mono ?_
    rintro e w2 ⟨rfl, cc⟩
    have cc : Chg Non _ _ := cc.mono fun g hg => by simp [Value.ownBlock] at hg
    have G2 := Lib.hid (GZ.out.still cc)
    have S2 := Lib.hid (SZ.out.chg cc fun _ _ => id)
    clear cc
    go_wp2_with fail
    go_ret
    exact G2.out.idle HU.out.1 HU.out.2.1 HU.out.2.2.1 rfl rfl S2.out (by omega)
  · have i1 : ¬ (q : Int) < (mn.length : Int) := by omega
    clear rn
    go_wp2_with (first | (go_at_call 18; refine (num_any _ _).mono ?_; rintro e w' ⟨rfl, hw'⟩; have hw2 := hw'.symm; subst hw2) | (go_at_call 21; refine (within_any _ _ 11 (by decide) (by decide)).mono ?_; rintro e w' ⟨rfl, hw'⟩; have hw2 := hw'.symm; subst hw2; rw [hd]))
    refine CC.out.mono ?_
    rintro e w2 ⟨rfl, cc⟩
    have cc : Chg Non _ _ := cc.mono fun g hg => by simp [Value.ownBlock] at hg
    have G2 := Lib.hid (GZ.out.still cc)
    have S2 := Lib.hid (SZ.out.chg cc fun _ _ => id)
    clear cc
    go_wp2_with fail
    go_ret
    exact G2.out.idle HU.out.1 HU.out.2.1 HU.out.2.2.1 rfl rfl S2.out (by omega)

set_option maxHeartbeats 1000000 in
set_option maxRecDepth 100000 in
theorem act_read_tx (w : World) (bp bd bm : Nat) (U : Nat → Prop) (m : MoM) (D : List Bts) (mode : Int) (t : Nat) (h : Game w bp bd bm U m D mode t) (ht : t ≤ 100) (ho : m.opn = true) (d n b : Int) (hd : wi d 11 = 4) :
    Calls Tryz.prog 37 #[ptr bm, ptr bp, .agg #[I d, I n, I b]] w (APost w bp bd bm U mode t) := by
  obtain ⟨Up, B, nx, hnx, hD, ⟨K, vd, vn, vm, vi, xs, mo, hB⟩, hBU, hBu, hUu, hUl, hst⟩ := h
  obtain ⟨md, mop, mn, mm, mi⟩ := m
  simp only at ho
  subst ho
  obtain ⟨own, c, wrote, marks, hml, hlike, hs⟩ := hst.resolve_left (fun e => by cases e.1)
  obtain rfl : md = D := hlike.edone
  clear hst
  obtain ⟨Ad, cd, rfl, _⟩ := mo.d.form
  obtain ⟨An, cn, rfl, _⟩ := mo.n.form
  obtain ⟨Am, cm, rfl, hcm⟩ := ownsRow_form mo.mrow
  obtain ⟨Ai, ci, rfl, hci⟩ := ownsRow_form mo.irow
  simp only at *
  obtain ⟨w1, hw1⟩ : ∃ w1, w1 = w.alloc (.cells #[I d, I n, I b] 42) := ⟨_, rfl⟩
  have G1 := Lib.hid (Ga.start (d := d) (n := n) (b := b) mo hB hBU hBu hUu hUl)
  have S1 := Lib.hid (hs.chg ((Chg.refl Non w).alloc (.cells #[I d, I n, I b] 42)) fun _ _ => id)
  rw [← hw1] at G1 S1
  have LK := Lib.hid (And.intro hml hlike)
  clear hml hlike
  have HU := Lib.hid (And.intro hUl (And.intro hnx (And.intro hD ht)))
  clear mo hB hBU hBu hUu hUl hs hnx hD ht
  go_enter Tryz.func37, Tryz.ntmps37
  go_wp2_with fail
  rw [← hw1]
  refine (within_any _ n 12 (by decide) (by decide)).mono ?_
  rintro e w' ⟨rfl, hw'⟩; have hw2 := hw'.symm; subst hw2; clear hw' hw1
  have hn12 := wi_lt n 12 (by decide)
  generalize wi n 12 = q at *
  have mc1 := G1.out.mo.blk.cell 1
  have mc2 := G1.out.mo.blk.cell 2
  have ar0 := G1.out.arg.cell 0
  simp only [List.getElem?_toArray, List.getElem?_cons_zero, List.getElem?_cons_succ] at mc1 mc2 ar0
  have CC := Lib.hid (sread_int w1 bp _ _ _ _ _ _ _ _ _ _ S1.out q (q : Int) rfl (by omega))
  go_wp2_with (first | (go_at_call 18; refine (num_any _ _).mono ?_; rintro e w' ⟨rfl, hw'⟩; have hw2 := hw'.symm; subst hw2) | (go_at_call 21; refine (within_any _ _ 11 (by decide) (by decide)).mono ?_; rintro e w' ⟨rfl, hw'⟩; have hw2 := hw'.symm; subst hw2; rw [hd]))
  refine CC.out.mono ?_
  rintro e w2 ⟨v2, rfl, o2, cc, f2⟩
  have G2 := Lib.hid (G1.out.still cc)
  have S2 := Lib.hid (S1.out.chg cc fun _ _ => id)
  clear CC
  clear cc
  obtain ⟨PI, hPI, _⟩ := S2.out.inTx
  have L5 := hPI.page q
  obtain ⟨A2, n2, e2, _⟩ := o2.form
  rw [L5] at e2
  subst e2
  have O2 := Lib.hid (And.intro o2 f2)
  have PI2 := Lib.hid hPI
  have L5 := Lib.hid L5
  clear o2 f2 hPI
  have mc2 := G2.out.mo.blk.cell 2
  simp only [List.getElem?_toArray, List.getElem?_cons_zero, List.getElem?_cons_succ] at mc2
  obtain ⟨Z9, hmk, hown⟩ := make_page w2
  have cZ : Chg Non w2 (w2.alloc (.cells Z9 5)) := (Chg.refl _ _).alloc _
  have GZ := Lib.hid (G2.out.still cZ)
  have SZ := Lib.hid (S2.out.chg cZ fun _ _ => id)
  have OZ := Lib.hid hown
  clear hown
  have mz2 := GZ.out.mo.blk.cell 2
  simp only [List.getElem?_toArray, List.getElem?_cons_zero, List.getElem?_cons_succ] at mz2
  have rn := GZ.out.mo.n
  simp only at rn
  by_cases hq : q < mn.length
  · have i1 : (q : Int) < (mn.length : Int) := by omega
    obtain ⟨gq, cq, xq, eq_, hcq, hpq⟩ := rn.at q hq
    injection eq_ with e1 _ e2
    subst e1; subst e2
    have EQ := LK.out.2.at q hq
    simp only at EQ
    obtain ⟨Aq, kq, e3, _⟩ := hpq.1.form
    rw [EQ, L5.out] at e3
    subst e3
    rw [EQ] at hpq
    have PQ := Lib.hid hpq
    clear rn hpq
    clear EQ
    have CE := Lib.hid (eqB_calm (w2.alloc (.cells Z9 5)) (.slice A2 512 n2) (.slice Aq 512 kq) (pgV md own q) (O2.out.1.still cZ).sl PQ.out.1 (by rw [L5.out]; decide))
    go_wp2_with (first | (go_at_call 18; refine (num_any _ _).mono ?_; rintro e w' ⟨rfl, hw'⟩; have hw2 := hw'.symm; subst hw2) | (go_at_call 21; refine (within_any _ _ 11 (by decide) (by decide)).mono ?_; rintro e w' ⟨rfl, hw'⟩; have hw2 := hw'.symm; subst hw2; rw [hd]))
    refine CE.out.mono ?_
    rintro e w3 ⟨rfl, cc⟩
    have G3 := Lib.hid (GZ.out.still cc)
    have S3 := Lib.hid (SZ.out.chg cc fun _ _ => id)
    have O3 := Lib.hid ((O2.out.1.still cZ).still cc)
    clear cc
    have CB := Lib.hid (spoil_own w3 _ _ O3.out (by rw [L5.out]; decide))
    go_wp2_with fail
    refine CB.out.mono ?_
    rintro e w4 ⟨rfl, cc⟩
    have far : ∀ g, (Value.slice A2 512 n2).ownBlock = some g → w.heap.size ≤ g ∧ w1.heap.size ≤ g := fun g hg => by
      have h1 := O2.out.2 g hg
      have h2 := G1.out.chg.size
      exact ⟨by omega, h1⟩
    have G4 := Lib.hid (G3.out.over cc fun g hg => ⟨(far g hg).1, fun e => by have := G1.out.mo.lt g e; have := (far g hg).2; omega, fun e => by have := G1.out.arg.lt; have := (far g hg).2; omega⟩)
    have S4 := Lib.hid (S3.out.chg cc fun g hg e => by have := G1.out.lt g hg; have := (far g e).2; omega)
    clear cc
    go_wp2_with fail
    go_ret
    exact G4.out.tx HU.out.1 (Nat.le_succ_of_le HU.out.2.1) HU.out.2.2.1 (Nat.le_succ_of_le LK.out.1) LK.out.2 S4.out (by omega)
  · have i1 : ¬ (q : Int) < (mn.length : Int) := by omega
    clear rn
    have EQ := Lib.hid (LK.out.2.out PI2.out q hq)
    have CE := Lib.hid (eqB_calm (w2.alloc (.cells Z9 5)) (.slice A2 512 n2) _ (pgV md own q) (O2.out.1.still cZ).sl (by rw [EQ.out]; exact OZ.out.sl) (by rw [L5.out]; decide))
    go_wp2_with (first | (go_at_call 18; refine (num_any _ _).mono ?_; rintro e w' ⟨rfl, hw'⟩; have hw2 := hw'.symm; subst hw2) | (go_at_call 21; refine (within_any _ _ 11 (by decide) (by decide)).mono ?_; rintro e w' ⟨rfl, hw'⟩; have hw2 := hw'.symm; subst hw2; rw [hd]))
    refine CE.out.mono ?_
    rintro e w3 ⟨rfl, cc⟩
    have G3 := Lib.hid (GZ.out.still cc)
    have S3 := Lib.hid (SZ.out.chg cc fun _ _ => id)
    have O3 := Lib.hid ((O2.out.1.still cZ).still cc)
    clear cc
    have CB := Lib.hid (spoil_own w3 _ _ O3.out (by rw [L5.out]; decide))
    go_wp2_with fail
    refine CB.out.mono ?_
    rintro e w4 ⟨rfl, cc⟩
    have far : ∀ g, (Value.slice A2 512 n2).ownBlock = some g → w.heap.size ≤ g ∧ w1.heap.size ≤ g := fun g hg => by
      have h1 := O2.out.2 g hg
      have h2 := G1.out.chg.size
      exact ⟨by omega, h1⟩
    have G4 := Lib.hid (G3.out.over cc fun g hg => ⟨(far g hg).1, fun e => by have := G1.out.mo.lt g e; have := (far g hg).2; omega, fun e => by have := G1.out.arg.lt; have := (far g hg).2; omega⟩)
    have S4 := Lib.hid (S3.out.chg cc fun g hg e => by have := G1.out.lt g hg; have := (far g e).2; omega)
    clear cc
    go_wp2_with fail
    go_ret
    exact G4.out.tx HU.out.1 (Nat.le_succ_of_le HU.out.2.1) HU.out.2.2.1 (Nat.le_succ_of_le LK.out.1) LK.out.2 S4.out (by omega)

set_option maxHeartbeats 1000000 in
set_option maxRecDepth 100000 in
theorem act_write_idle (w : World) (bp bd bm : Nat) (U : Nat → Prop) (m : MoM) (D : List Bts) (mode : Int) (t : Nat) (h : Game w bp bd bm U m D mode t) (ht : t ≤ 100) (ho : m.opn = false) (d n b : Int) (k : Nat) (hd : wi d 11 = k) (k0 : k ≠ 0) (k4 : k ≠ 4) (k5 : k ≠ 5) (k6 : k ≠ 6) (k7 : k ≠ 7) (k8 : k ≠ 8) (k10 : k ≠ 10) :
    Calls Tryz.prog 37 #[ptr bm, ptr bp, .agg #[I d, I n, I b]] w (APost w bp bd bm U mode t) := by
  obtain ⟨Up, B, nx, hnx, hD, ⟨K, vd, vn, vm, vi, xs, mo, hB⟩, hBU, hBu, hUu, hUl, hst⟩ := h
  obtain ⟨md, mop, mn, mm, mi⟩ := m
  simp only at ho
  subst ho
  obtain ⟨_, hdone, hs⟩ := hst.resolve_right (fun ⟨_, _, _, _, _, l, _⟩ => by have := l.eopn; cases this)
  simp only at hdone
  subst hdone
  clear hst
  obtain ⟨Ad, cd, rfl, _⟩ := mo.d.form
  obtain ⟨An, cn, rfl, _⟩ := mo.n.form
  obtain ⟨Am, cm, rfl, hcm⟩ := ownsRow_form mo.mrow
  obtain ⟨Ai, ci, rfl, hci⟩ := ownsRow_form mo.irow
  simp only at *
  obtain ⟨w1, hw1⟩ : ∃ w1, w1 = w.alloc (.cells #[I d, I n, I b] 42) := ⟨_, rfl⟩
  have G1 := Lib.hid (Ga.start (d := d) (n := n) (b := b) mo hB hBU hBu hUu hUl)
  have S1 := Lib.hid (hs.chg ((Chg.refl Non w).alloc (.cells #[I d, I n, I b] 42)) fun _ _ => id)
  rw [← hw1] at G1 S1
  have HU := Lib.hid (And.intro hUl (And.intro hnx (And.intro hD ht)))
  clear mo hB hBU hBu hUu hUl hs hnx hD ht
  have b0 : ((k : Int) == 0) = false := by simp; omega
  have b4 : ((k : Int) == 4) = false := by simp; omega
  have b5 : ((k : Int) == 5) = false := by simp; omega
  have b6 : ((k : Int) == 6) = false := by simp; omega
  have b7 : ((k : Int) == 7) = false := by simp; omega
  have b8 : ((k : Int) == 8) = false := by simp; omega
  have b10 : ((k : Int) == 10) = false := by simp; omega
  clear k0 k4 k5 k6 k7 k8 k10
  go_enter Tryz.func37, Tryz.ntmps37
  go_wp2_with fail
  rw [← hw1]
  refine (within_any _ n 12 (by decide) (by decide)).mono ?_
  rintro e w' ⟨rfl, hw'⟩; have hw2 := hw'.symm; subst hw2; clear hw' hw1
  have hn12 := wi_lt n 12 (by decide)
  generalize wi n 12 = q at *
  have mc1 := G1.out.mo.blk.cell 1
  have ar0 := G1.out.arg.cell 0
  have ar2 := G1.out.arg.cell 2
  simp only [List.getElem?_toArray, List.getElem?_cons_zero, List.getElem?_cons_succ] at mc1 ar0 ar2
  have CC := Lib.hid (page12_any w1 b)
  go_wp2_with (first | (go_at_call 18; refine (num_any _ _).mono ?_; rintro e w' ⟨rfl, hw'⟩; have hw2 := hw'.symm; subst hw2) | (go_at_call 21; refine (within_any _ _ 11 (by decide) (by decide)).mono ?_; rintro e w' ⟨rfl, hw'⟩; have hw2 := hw'.symm; subst hw2; rw [hd]))
  refine CC.out.mono ?_
  rintro e w2 ⟨v2, rfl, rfl, ov2, cc⟩
  have G2 := Lib.hid (G1.out.still cc)
  have S2 := Lib.hid (S1.out.chg cc fun _ _ => id)
  clear CC
  clear cc
  have mc1 := G2.out.mo.blk.cell 1
  simp only [List.getElem?_toArray, List.getElem?_cons_zero, List.getElem?_cons_succ] at mc1
  have CC := Lib.hid (swrite_idle w2 bp _ _ _ _ _ _ S2.out q (.slice (some ⟨w1.heap.size, 0, none⟩) 512 512))
  go_wp2_with (first | (go_at_call 18; refine (num_any _ _).mono ?_; rintro e w' ⟨rfl, hw'⟩; have hw2 := hw'.symm; subst hw2) | (go_at_call 21; refine (within_any _ _ 11 (by decide) (by decide)).mono ?_; rintro e w' ⟨rfl, hw'⟩; have hw2 := hw'.symm; subst hw2; rw [hd]))
  refine CC.out.mono ?_
  rintro e w' ⟨rfl, hw'⟩; have hw3 := hw'.symm; subst hw3; clear hw' CC
  have CB := Lib.hid (spoil_own w2 _ _ ov2 (by rw [length_pageL]; decide))
  have hv2 := (ov2.pgv (fun _ => True) fun _ _ => True.intro).2
  clear ov2
  go_wp2_with (first | (go_at_call 18; refine (num_any _ _).mono ?_; rintro e w' ⟨rfl, hw'⟩; have hw2 := hw'.symm; subst hw2) | (go_at_call 21; refine (within_any _ _ 11 (by decide) (by decide)).mono ?_; rintro e w' ⟨rfl, hw'⟩; have hw2 := hw'.symm; subst hw2; rw [hd]))
  refine CB.out.mono ?_
  rintro e w3 ⟨rfl, cc⟩
  have far : ∀ g, (Value.slice (some ⟨w1.heap.size, 0, none⟩) 512 512).ownBlock = some g → w.heap.size ≤ g ∧ w1.heap.size ≤ g := fun g hg => by
    simp [Value.ownBlock] at hg
    have h2 := G1.out.chg.size
    exact ⟨by omega, by omega⟩
  have G3 := Lib.hid (G2.out.over cc fun g hg => ⟨(far g hg).1, fun e => by have := G1.out.mo.lt g e; have := (far g hg).2; omega, fun e => by have := G1.out.arg.lt; have := (far g hg).2; omega⟩)
  have S3 := Lib.hid (S2.out.chg cc fun g hg e => by have := G1.out.lt g hg; have := (far g e).2; omega)
  clear cc hv2 mc1 ar0 ar2
  have mc1 := G3.out.mo.blk.cell 1
  simp only [List.getElem?_toArray, List.getElem?_cons_zero, List.getElem?_cons_succ] at mc1
  have CC := Lib.hid (scount_idle w3 bp _ _ _ _ _ _ S3.out)
  go_wp2_with (first | (go_at_call 18; refine (num_any _ _).mono ?_; rintro e w' ⟨rfl, hw'⟩; have hw2 := hw'.symm; subst hw2) | (go_at_call 21; refine (within_any _ _ 11 (by decide) (by decide)).mono ?_; rintro e w' ⟨rfl, hw'⟩; have hw2 := hw'.symm; subst hw2; rw [hd]))
  refine CC.out.mono ?_
  rintro e w' ⟨rfl, hw'⟩; have hw3 := hw'.symm; subst hw3; clear hw' CC
  go_wp2_with (first | (go_at_call 18; refine (num_any _ _).mono ?_; rintro e w' ⟨rfl, hw'⟩; have hw2 := hw'.symm; subst hw2) | (go_at_call 21; refine (within_any _ _ 11 (by decide) (by decide)).mono ?_; rintro e w' ⟨rfl, hw'⟩; have hw2 := hw'.symm; subst hw2; rw [hd]))
  go_ret
  exact G3.out.idle HU.out.1 HU.out.2.1 HU.out.2.2.1 rfl rfl S3.out (by omega)
end Go.Proofs.YtamhjjagjjdmoaaGreat
end

section
namespace Go.Proofs.YtamhjjagjjdmoaaGreat
open Go.RowKit Go.Maps Go.Shelf Go.Sort

set_option maxHeartbeats 1000000 in
set_option maxRecDepth 100000 in
theorem act_back_none (w : World) (bp bd bm : Nat) (U : Nat → Prop) (m : MoM) (D : List Bts) (mode : Int) (t : Nat) (h : Game w bp bd bm U m D mode t) (ht : t ≤ 100) (ho : m.opn = true) (d n b : Int) (hd : wi d 11 = 8) (he : m.ids = []) :
    Calls Tryz.prog 37 #[ptr bm, ptr bp, .agg #[I d, I n, I b]] w (APost w bp bd bm U mode t) := by
  obtain ⟨Up, B, nx, hnx, hD, ⟨K, vd, vn, vm, vi, xs, mo, hB⟩, hBU, hBu, hUu, hUl, hst⟩ := h
  obtain ⟨md, mop, mn, mm, mi⟩ := m
  simp only at ho he
  subst ho; subst he
  obtain ⟨own, c, wrote, marks, hml, hlike, hs⟩ := hst.resolve_left (fun e => by cases e.1)
  obtain rfl : md = D := hlike.edone
  clear hst
  obtain ⟨Ad, cd, rfl, _⟩ := mo.d.form
  obtain ⟨An, cn, rfl, _⟩ := mo.n.form
  obtain ⟨Am, cm, rfl, hcm⟩ := ownsRow_form mo.mrow
  obtain ⟨Ai, ci, rfl, hci⟩ := ownsRow_form mo.irow
  simp only at *
  obtain ⟨w1, hw1⟩ : ∃ w1, w1 = w.alloc (.cells #[I d, I n, I b] 42) := ⟨_, rfl⟩
  have G1 := Lib.hid (Ga.start (d := d) (n := n) (b := b) mo hB hBU hBu hUu hUl)
  have S1 := Lib.hid (hs.chg ((Chg.refl Non w).alloc (.cells #[I d, I n, I b] 42)) fun _ _ => id)
  rw [← hw1] at G1 S1
  have LK := Lib.hid (And.intro hml hlike)
  clear hml hlike
  have HU := Lib.hid (And.intro hUl (And.intro hnx (And.intro hD ht)))
  clear mo hB hBU hBu hUu hUl hs hnx hD ht
  go_enter Tryz.func37, Tryz.ntmps37
  go_wp2_with fail
  rw [← hw1]
  refine (within_any _ n 12 (by decide) (by decide)).mono ?_
  rintro e w' ⟨rfl, hw'⟩; have hw2 := hw'.symm; subst hw2; clear hw' hw1
  have hn12 := wi_lt n 12 (by decide)
  generalize wi n 12 = q at *
  have mc1 := G1.out.mo.blk.cell 1
  have mc4 := G1.out.mo.blk.cell 4
  have ar0 := G1.out.arg.cell 0
  simp only [List.getElem?_toArray, List.getElem?_cons_zero, List.getElem?_cons_succ] at mc1 mc4 ar0
  go_wp2_with (first | (go_at_call 18; refine (num_any _ _).mono ?_; rintro e w' ⟨rfl, hw'⟩; have hw2 := hw'.symm; subst hw2) | (go_at_call 21; refine (within_any _ _ 11 (by decide) (by decide)).mono ?_; rintro e w' ⟨rfl, hw'⟩; have hw2 := hw'.symm; subst hw2; rw [hd]))
  go_ret
  exact G1.out.tx HU.out.1 (Nat.le_succ_of_le HU.out.2.1) HU.out.2.2.1 (Nat.le_succ_of_le LK.out.1) LK.out.2 S1.out (by omega)

set_option maxHeartbeats 1000000 in
set_option maxRecDepth 100000 in
theorem act_back_some (w : World) (bp bd bm : Nat) (U : Nat → Prop) (m : MoM) (D : List Bts) (mode : Int) (t : Nat) (h : Game w bp bd bm U m D mode t) (ht : t ≤ 100) (ho : m.opn = true) (d n b : Int) (hd : wi d 11 = 8) (he : m.ids ≠ []) :
    Calls Tryz.prog 37 #[ptr bm, ptr bp, .agg #[I d, I n, I b]] w (APost w bp bd bm U mode t) := by
  obtain ⟨Up, B, nx, hnx, hD, ⟨K, vd, vn, vm, vi, xs, mo, hB⟩, hBU, hBu, hUu, hUl, hst⟩ := h
  obtain ⟨md, mop, mn, mm, mi⟩ := m
  simp only at ho he
  subst ho
  obtain ⟨own, c, wrote, marks, hml, hlike, hs⟩ := hst.resolve_left (fun e => by cases e.1)
  obtain rfl : md = D := hlike.edone
  clear hst
  obtain ⟨Ad, cd, rfl, _⟩ := mo.d.form
  obtain ⟨An, cn, rfl, _⟩ := mo.n.form
  obtain ⟨Am, cm, rfl, hcm⟩ := ownsRow_form mo.mrow
  obtain ⟨Ai, ci, rfl, hci⟩ := ownsRow_form mo.irow
  simp only at *
  obtain ⟨w1, hw1⟩ : ∃ w1, w1 = w.alloc (.cells #[I d, I n, I b] 42) := ⟨_, rfl⟩
  have G1 := Lib.hid (Ga.start (d := d) (n := n) (b := b) mo hB hBU hBu hUu hUl)
  have S1 := Lib.hid (hs.chg ((Chg.refl Non w).alloc (.cells #[I d, I n, I b] 42)) fun _ _ => id)
  rw [← hw1] at G1 S1
  have LK := Lib.hid (And.intro hml hlike)
  clear hml hlike
  have HU := Lib.hid (And.intro hUl (And.intro hnx (And.intro hD ht)))
  clear mo hB hBU hBu hUu hUl hs hnx hD ht
  have hl1 : mi.length = marks.length := by have := LK.out.2.eids; simp only at this; rw [this]; simp
  have hl2 : mm.length = marks.length := by have := LK.out.2.emarks; simp only at this; rw [this]; simp
  have hpos : 0 < mi.length := by
    cases mi with
    | nil => exact absurd rfl he
    | cons _ _ => simp
  have hml := LK.out.1
  have ht := HU.out.2.2.2
  have i0 : ((mi.length : Int) == 0) = false := by simp; omega
  have hmi6 : mi.length ≤ 1000000 := by omega
  have HL := Lib.hid (And.intro hl1 hl2)
  clear he hl1 hl2 hml ht
  go_enter Tryz.func37, Tryz.ntmps37
  go_wp2_with fail
  rw [← hw1]
  refine (within_any _ n 12 (by decide) (by decide)).mono ?_
  rintro e w' ⟨rfl, hw'⟩; have hw2 := hw'.symm; subst hw2; clear hw' hw1
  have hn12 := wi_lt n 12 (by decide)
  generalize wi n 12 = q at *
  have mc1 := G1.out.mo.blk.cell 1
  have mc4 := G1.out.mo.blk.cell 4
  have ar0 := G1.out.arg.cell 0
  have ar1 := G1.out.arg.cell 1
  simp only [List.getElem?_toArray, List.getElem?_cons_zero, List.getElem?_cons_succ] at mc1 mc4 ar0 ar1
  have CW := Lib.hid (within_any w1.drew n mi.length hpos hmi6)
  have hk := wi_lt n mi.length hpos
  obtain ⟨k, hkk⟩ : ∃ k, wi n mi.length = k := ⟨_, rfl⟩
  rw [hkk] at CW hk
  clear hkk
  have hkm : k < marks.length := by rw [← HL.out.1]; exact hk
  have hkmm : k < mm.length := by rw [HL.out.2]; exact hkm
  obtain ⟨gi, rfl, hxi, cki⟩ := ownsRow_cell G1.out.mo.irow k hk
  obtain ⟨gm, rfl, hxk, _⟩ := ownsRow_cell G1.out.mo.mrow k hkmm
  have eid : (mi.map I)[k] = I marks[k].n := by
    have h1 : (mi.map I)[k]? = some (I marks[k].n) := by have := LK.out.2.eids; simp only at this; rw [this]; simp [hkm]
    rw [List.getElem?_eq_getElem hxi] at h1
    exact Option.some.inj h1
  rw [eid] at cki
  obtain ⟨PI, hPI, hPm⟩ := S1.out.inTx
  obtain ⟨cnt, hcnt⟩ : ∃ cnt : Nat, marks[k].count = (cnt : Int) := by
    obtain ⟨c', e, _⟩ := hPI.marks marks[k] (by rw [hPm]; exact List.getElem_mem hkm)
    exact ⟨c', e⟩
  have LB := Lib.hid (LK.out.2.back k hkm hkmm cnt hcnt)
  have emm : mm[k].length = cnt := by have := LB.out.enow; simp only at this; rw [this, length_view]
  obtain ⟨Ak, ck, exk, _⟩ := (All2.get k hxk hkmm G1.out.mo.mels).form
  try simp only at exk
  rw [emm] at exk
  have b1 : (k : Int) + 1 ≤ (ci : Int) := by omega
  have b2 : (k : Int) + 1 ≤ (cm : Int) := by omega
  have b3 : (k : Int) < (mi.length : Int) := by omega
  have b4 : (k : Int) < (mm.length : Int) := by omega
  have hk6 : k < 1000000 := by omega
  have BC := Lib.hid (sback_int w1.drew bp _ _ _ _ _ _ marks (marks.take k) marks[k] (marks.drop (k + 1)) _ _ _ (S1.out.chg ((Chg.refl Non w1).drew) fun _ _ => id) (by rw [← List.drop_eq_getElem_cons hkm, List.take_append_drop]) (by have := LK.out.1; have := HU.out.2.2.2; omega) (LK.out.2.pre k hkm) marks[k].n rfl cnt hcnt)
  have GD := Lib.hid (G1.out.still ((Chg.refl Non w1).drew))
  have EX := Lib.hid exk
  clear eid hPI hPm hcnt emm exk hci hcm hpos
  generalize hid_ : marks[k].n = idk at *
  clear hid_
  go_wp2_with (first | (go_at_call 18; refine (num_any _ _).mono ?_; rintro e w' ⟨rfl, hw'⟩; have hw2 := hw'.symm; subst hw2) | (go_at_call 21; refine (within_any _ _ 11 (by decide) (by decide)).mono ?_; rintro e w' ⟨rfl, hw'⟩; have hw2 := hw'.symm; subst hw2; rw [hd]))
  go_region_held3 (fun w' => w'.cell? ⟨w.heap.size, 1, none⟩ = some (I n) ∧ w'.cell? ⟨bm, 4, none⟩ = some (.slice (some ⟨gi, 0, none⟩) mi.length ci)) (go_keep) (first | (go_at_call 21; refine CW.out.mono ?_; rintro e w' ⟨rfl, hw'⟩; have hw2 := hw'.symm; subst hw2))
  go_wp2_with (first | (go_at_call 18; refine (num_any _ _).mono ?_; rintro e w' ⟨rfl, hw'⟩; have hw2 := hw'.symm; subst hw2))
  refine BC.out.mono ?_
  rintro e w2 ⟨rfl, cc, ss⟩
  have G2 := Lib.hid (GD.out.step cc)
  have S2 := Lib.hid ss
  clear ss cc BC mc1 mc4 ar0 ar1
  have mc1 := G2.out.mo.blk.cell 1
  have mc2 := G2.out.mo.blk.cell 2
  have mc3 := G2.out.mo.blk.cell 3
  have mc4 := G2.out.mo.blk.cell 4
  have mf2 := G2.out.mo.blk.frozen 2
  have mf3 := G2.out.mo.blk.frozen 3
  have mf4 := G2.out.mo.blk.frozen 4
  simp only [List.getElem?_toArray, List.getElem?_cons_zero, List.getElem?_cons_succ] at mc1 mc2 mc3 mc4
  have ckm := ownsRow_cell' G2.out.mo.mrow k hkmm hxk
  rw [EX.out] at ckm
  obtain ⟨mo', co⟩ := G2.out.mo.back k hkmm hk hxk
  rw [EX.out] at mo' co
  obtain ⟨w3, hw3⟩ : ∃ w3, w3 = ((w2.setCell ⟨bm, 2, none⟩ (.slice Ak cnt ck)).setCell ⟨bm, 4, none⟩ (.slice (some ⟨gi, 0, none⟩) (k + 1) ci)).setCell ⟨bm, 3, none⟩ (.slice (some ⟨gm, 0, none⟩) (k + 1) cm) := ⟨_, rfl⟩
  rw [← hw3] at mo' co
  have S3 := Lib.hid (S2.out.chg co fun g hg e => G2.out.far g (.inl e) hg)
  have G3 := Lib.hid (G2.out.to co mo' (fun g hg => by first | exact hg | (rcases hg with e | e | e | e; exact .inl e; exact .inr (.inl e); (simp [Value.ownBlock] at e); (simp [Value.ownBlock] at e))))
  clear mo' co
  have CC := Lib.hid (scount_tx w3 bp _ _ _ _ _ _ _ _ _ _ S3.out)
  rw [hw3] at CC
  go_wp2_with (first | (go_at_call 18; refine (num_any _ _).mono ?_; rintro e w' ⟨rfl, hw'⟩; have hw2 := hw'.symm; subst hw2) | (go_at_call 21; refine (within_any _ _ 11 (by decide) (by decide)).mono ?_; rintro e w' ⟨rfl, hw'⟩; have hw2 := hw'.symm; subst hw2; rw [hd]))
  refine CC.out.mono ?_
  rintro e w' ⟨rfl, hw'⟩; have hw3 := hw'.symm; subst hw3; clear hw' CC
  go_wp2_with (first | (go_at_call 18; refine (num_any _ _).mono ?_; rintro e w' ⟨rfl, hw'⟩; have hw2 := hw'.symm; subst hw2) | (go_at_call 21; refine (within_any _ _ 11 (by decide) (by decide)).mono ?_; rintro e w' ⟨rfl, hw'⟩; have hw2 := hw'.symm; subst hw2; rw [hd]))
  go_ret
  rw [← hw3]
  exact G3.out.tx HU.out.1 (Nat.le_succ_of_le HU.out.2.1) HU.out.2.2.1 (by have := LK.out.1; simp; omega) LB.out S3.out (by omega)
end Go.Proofs.YtamhjjagjjdmoaaGreat
end

section
namespace Go.Proofs.YtamhjjagjjdmoaaGreat
open Go.RowKit Go.Maps Go.Shelf Go.Sort

set_option maxHeartbeats 1000000 in
set_option maxRecDepth 100000 in
theorem act_write_tx (w : World) (bp bd bm : Nat) (U : Nat → Prop) (m : MoM) (D : List Bts) (mode : Int) (t : Nat) (h : Game w bp bd bm U m D mode t) (ht : t ≤ 100) (ho : m.opn = true) (d n b : Int) (k : Nat) (hd : wi d 11 = k) (k0 : k ≠ 0) (k4 : k ≠ 4) (k5 : k ≠ 5) (k6 : k ≠ 6) (k7 : k ≠ 7) (k8 : k ≠ 8) (k10 : k ≠ 10) :
    Calls Tryz.prog 37 #[ptr bm, ptr bp, .agg #[I d, I n, I b]] w (APost w bp bd bm U mode t) := by
  obtain ⟨Up, B, nx, hnx, hD, ⟨K, vd, vn, vm, vi, xs, mo, hB⟩, hBU, hBu, hUu, hUl, hst⟩ := h
  obtain ⟨md, mop, mn, mm, mi⟩ := m
  simp only at ho
  subst ho
  obtain ⟨own, c, wrote, marks, hml, hlike, hs⟩ := hst.resolve_left (fun e => by cases e.1)
  obtain rfl : md = D := hlike.edone
  clear hst
  obtain ⟨Ad, cd, rfl, _⟩ := mo.d.form
  obtain ⟨An, cn, rfl, _⟩ := mo.n.form
  obtain ⟨Am, cm, rfl, hcm⟩ := ownsRow_form mo.mrow
  obtain ⟨Ai, ci, rfl, hci⟩ := ownsRow_form mo.irow
  simp only at *
  obtain ⟨w1, hw1⟩ : ∃ w1, w1 = w.alloc (.cells #[I d, I n, I b] 42) := ⟨_, rfl⟩
  have G1 := Lib.hid (Ga.start (d := d) (n := n) (b := b) mo hB hBU hBu hUu hUl)
  have S1 := Lib.hid (hs.chg ((Chg.refl Non w).alloc (.cells #[I d, I n, I b] 42)) fun _ _ => id)
  rw [← hw1] at G1 S1
  have LK := Lib.hid (And.intro hml hlike)
  clear hml hlike
  have HU := Lib.hid (And.intro hUl (And.intro hnx (And.intro hD ht)))
  clear mo hB hBU hBu hUu hUl hs hnx hD ht
  have b0 : ((k : Int) == 0) = false := by simp; omega
  have b4 : ((k : Int) == 4) = false := by simp; omega
  have b5 : ((k : Int) == 5) = false := by simp; omega
  have b6 : ((k : Int) == 6) = false := by simp; omega
  have b7 : ((k : Int) == 7) = false := by simp; omega
  have b8 : ((k : Int) == 8) = false := by simp; omega
  have b10 : ((k : Int) == 10) = false := by simp; omega
  clear k0 k4 k5 k6 k7 k8 k10
  go_enter Tryz.func37, Tryz.ntmps37
  go_wp2_with fail
  rw [← hw1]
  refine (within_any _ n 12 (by decide) (by decide)).mono ?_
  rintro e w' ⟨rfl, hw'⟩; have hw2 := hw'.symm; subst hw2; clear hw' hw1
  have hn12 := wi_lt n 12 (by decide)
  generalize wi n 12 = q at *
  have mc1 := G1.out.mo.blk.cell 1
  have ar0 := G1.out.arg.cell 0
  have ar2 := G1.out.arg.cell 2
  simp only [List.getElem?_toArray, List.getElem?_cons_zero, List.getElem?_cons_succ] at mc1 ar0 ar2
  have CC := Lib.hid (page12_any w1 b)
  go_wp2_with (first | (go_at_call 18; refine (num_any _ _).mono ?_; rintro e w' ⟨rfl, hw'⟩; have hw2 := hw'.symm; subst hw2) | (go_at_call 21; refine (within_any _ _ 11 (by decide) (by decide)).mono ?_; rintro e w' ⟨rfl, hw'⟩; have hw2 := hw'.symm; subst hw2; rw [hd]))
  refine CC.out.mono ?_
  rintro e w2 ⟨v2, rfl, rfl, ov2, cc⟩
  have G2 := Lib.hid (G1.out.still cc)
  have S2 := Lib.hid (S1.out.chg cc fun _ _ => id)
  clear CC
  clear cc
  have mc1 := G2.out.mo.blk.cell 1
  simp only [List.getElem?_toArray, List.getElem?_cons_zero, List.getElem?_cons_succ] at mc1
  have hv2 := (ov2.pgv (fun _ => True) fun _ _ => True.intro).2 _ rfl
  have OV := Lib.hid ov2
  obtain ⟨PI, hPI, hPm0⟩ := S2.out.inTx
  clear hPm0
  have LW := Lib.hid (LK.out.2.write hPI q hn12 (pageL b))
  clear hPI ov2
  have CC := Lib.hid (swrite_int w2 bp _ _ _ _ _ _ _ _ _ _ S2.out q (q : Int) rfl (by omega) _ _ OV.out.sl (length_pageL b) (fun g hg e => by simp [Value.ownBlock] at hg; have := G1.out.lt g e; omega))
  go_wp2_with (first | (go_at_call 18; refine (num_any _ _).mono ?_; rintro e w' ⟨rfl, hw'⟩; have hw2 := hw'.symm; subst hw2) | (go_at_call 21; refine (within_any _ _ 11 (by decide) (by decide)).mono ?_; rintro e w' ⟨rfl, hw'⟩; have hw2 := hw'.symm; subst hw2; rw [hd]))
  refine CC.out.mono ?_
  rintro e w3 ⟨rfl, cc, ss⟩
  have hvU : ∀ g, (Value.slice (some ⟨w1.heap.size, 0, none⟩) 512 512).ownBlock = some g → ¬ Up g := fun g hg e => by simp [Value.ownBlock] at hg; have := G1.out.lt g e; omega
  have CB := Lib.hid (spoil_own w3 _ _ (OV.out.chg cc hvU) (by rw [length_pageL]; decide))
  have G3 := Lib.hid (G2.out.step cc)
  have S3 := Lib.hid ss
  clear ss cc CC mc1 ar0 ar2
  go_wp2_with (first | (go_at_call 18; refine (num_any _ _).mono ?_; rintro e w' ⟨rfl, hw'⟩; have hw2 := hw'.symm; subst hw2) | (go_at_call 21; refine (within_any _ _ 11 (by decide) (by decide)).mono ?_; rintro e w' ⟨rfl, hw'⟩; have hw2 := hw'.symm; subst hw2; rw [hd]))
  refine CB.out.mono ?_
  rintro e w4 ⟨rfl, cc⟩
  have G4 := Lib.hid (G3.out.over cc fun g hg => by
    simp [Value.ownBlock] at hg
    have h2 := G1.out.chg.size
    exact ⟨by omega, fun e => by have := G1.out.mo.lt g e; omega, fun e => by have := G1.out.arg.lt; omega⟩)
  have S4 := Lib.hid (S3.out.chg cc fun g hg e => by
    simp [Value.ownBlock] at e
    rcases hg with e1 | e1
    · have := G1.out.lt g e1; omega
    · omega)
  clear cc CB hvU hv2
  have mc1 := G4.out.mo.blk.cell 1
  have mc2 := G4.out.mo.blk.cell 2
  have mf2 := G4.out.mo.blk.frozen 2
  have ar2 := G4.out.arg.cell 2
  simp only [List.getElem?_toArray, List.getElem?_cons_zero, List.getElem?_cons_succ] at mc1 mc2 ar2
  go_wp2_with (first | (go_at_call 18; refine (num_any _ _).mono ?_; rintro e w' ⟨rfl, hw'⟩; have hw2 := hw'.symm; subst hw2) | (go_at_call 21; refine (within_any _ _ 11 (by decide) (by decide)).mono ?_; rintro e w' ⟨rfl, hw'⟩; have hw2 := hw'.symm; subst hw2; rw [hd]))
  have HS : (fun u : World => u.cell? ⟨bm, 2, none⟩ = some (.slice An mn.length cn) ∧ u.cell? ⟨w.heap.size, 2, none⟩ = some (I b)) w4.drew := ⟨mc2, ar2⟩
  have GD := Lib.hid (G4.out.still ((Chg.refl Non w4).drew))
  have SD := Lib.hid (S4.out.chg ((Chg.refl Non w4).drew) fun _ _ => id)
  have PG := Lib.hid (page12_any w4.drew b)
  have hmn : mn.length ≤ 4096 := by have := LK.out.2.enow; have h3 := LK.out.2.c12; simp only at this; rw [this, length_view]; omega
  refine wp_region_L (fun u : World => u.cell? ⟨bm, 2, none⟩ = some (.slice An mn.length cn) ∧ u.cell? ⟨w.heap.size, 2, none⟩ = some (I b)) 12 (by kernel_rfl) ?_
  refine wpAnyL_take (i := 0) (v := ?_) rfl (by kernel_rfl) (by kernel_rfl) (by kernel_rfl) (by kernel_rfl) (fun _ _ _ h => h) (Or.inl ⟨by rfl, ?_⟩) HS ?_
  rotate_left
  · (intro u hu; (try dsimp only at hu); obtain ⟨u0, u1⟩ := hu; go_simp) <;> with_reducible rfl
  (try simp only [Act.put])
  refine wpAnyL_take (i := 1) (v := ?_) rfl (by kernel_rfl) (by kernel_rfl) (by kernel_rfl) (by kernel_rfl) (fun _ _ _ h => h) (Or.inl ⟨by rfl, ?_⟩) HS ?_
  rotate_left
  · (intro u hu; (try dsimp only at hu); obtain ⟨u0, u1⟩ := hu; go_simp) <;> with_reducible rfl
  (try simp only [Act.put])
  refine wpAnyL_take (i := 2) (v := ?_) rfl (by kernel_rfl) (by kernel_rfl) (by kernel_rfl) (by kernel_rfl) (fun _ _ _ h => h) (Or.inl ⟨by rfl, ?_⟩) HS ?_
  rotate_left
  · (intro u hu; (try dsimp only at hu); obtain ⟨u0, u1⟩ := hu; go_simp) <;> with_reducible rfl
  (try simp only [Act.put])
  refine wpAnyL_take (i := 3) (v := ?_) rfl (by kernel_rfl) (by kernel_rfl) (by kernel_rfl) (by kernel_rfl) (fun _ _ _ h => h) (Or.inl ⟨by rfl, ?_⟩) HS ?_
  rotate_left
  · (intro u hu; (try dsimp only at hu); obtain ⟨u0, u1⟩ := hu; go_simp) <;> with_reducible rfl
  (try simp only [Act.put])
  refine wpAnyL_take (i := 4) (v := ?_) rfl (by kernel_rfl) (by kernel_rfl) (by kernel_rfl) (by kernel_rfl) (fun _ _ _ h => h) (Or.inl ⟨by rfl, ?_⟩) HS ?_
  rotate_left
  · (intro u hu; (try dsimp only at hu); obtain ⟨u0, u1⟩ := hu; go_simp) <;> with_reducible rfl
  (try simp only [Act.put])
  refine wpAnyL_take (i := 5) (v := ?_) rfl (by kernel_rfl) (by kernel_rfl) (by kernel_rfl) (by kernel_rfl) (fun _ _ _ h => h) (Or.inl ⟨by rfl, ?_⟩) HS ?_
  rotate_left
  · (intro u hu; (try dsimp only at hu); obtain ⟨u0, u1⟩ := hu; go_simp) <;> with_reducible rfl
  (try simp only [Act.put])
  refine wpAnyL_take (i := 6) (v := ?_) rfl (by kernel_rfl) (by kernel_rfl) (by kernel_rfl) (by kernel_rfl) (fun _ _ _ h => h) (Or.inl ⟨by rfl, ?_⟩) HS ?_
  rotate_left
  · (intro u hu; (try dsimp only at hu); obtain ⟨u0, u1⟩ := hu; go_simp) <;> with_reducible rfl
  (try simp only [Act.put])
  refine wpAnyL_take (i := 7) (v := ?_) rfl (by kernel_rfl) (by kernel_rfl) (by kernel_rfl) (by kernel_rfl) (fun _ _ _ h => h) (Or.inl ⟨by rfl, ?_⟩) HS ?_
  rotate_left
  · (intro u hu; (try dsimp only at hu); obtain ⟨u0, u1⟩ := hu; go_simp) <;> with_reducible rfl
  (try simp only [Act.put])
  refine wpAnyL_one (i := 8) (by kernel_rfl) rfl rfl (fun KK hK => ?_)
  go_simp
  refine PG.out.mono ?_
  rintro e w5 ⟨v5, rfl, rfl, o5, c5⟩
  have h5 := two c5 id id HS
  have G5 := Lib.hid (GD.out.grow c5)
  have S5 := Lib.hid (SD.out.chg c5 fun _ _ => id)
  have PT := Lib.hid (put12_any w5 _ _ _ G5.out.mo.n hmn q (by omega) _ _ (o5.pgv (newK K w4.drew w5) fun g hg => by simp [Value.ownBlock] at hg; subst hg; exact .inr ⟨Nat.le_refl _, (o5.pgv (fun _ => True) fun _ _ => True.intro).2 _ rfl |>.2⟩))
  clear c5 o5
  refine hK _ _ (.inr h5) ?_
  clear hK KK
  (try simp only [Act.put, List.setIfInBounds_toArray, List.set_cons_zero, List.set_cons_succ])
  refine wpAnyL_one (i := 9) (by kernel_rfl) rfl rfl (fun KK hK => ?_)
  go_simp
  refine PT.out.mono ?_
  rintro e w6 ⟨v6, rfl, r6, c6⟩
  have h6 := two c6 id id h5
  have G6 := Lib.hid (G5.out.grow c6)
  have S6 := Lib.hid (S5.out.chg c6 fun _ _ => id)
  have R6 := Lib.hid r6
  have f6 := G6.out.mo.blk.frozen 2
  clear c6 r6
  refine hK _ _ (.inr h6) ?_
  clear hK KK
  (try simp only [Act.put, List.setIfInBounds_toArray, List.set_cons_zero, List.set_cons_succ])
  refine wpAnyL_one (i := 10) (by kernel_rfl) rfl rfl (fun KK hK => ?_)
  go_simp
  refine hK _ _ (.inr h6) ?_
  clear hK KK
  (try simp only [Act.put, List.setIfInBounds_toArray, List.set_cons_zero, List.set_cons_succ])
  refine wpAnyL_one (i := 11) (by kernel_rfl) rfl rfl (fun KK hK => ?_)
  go_simp
  refine hK _ _ (.inr h6) ?_
  clear hK KK
  (try simp only [Act.put, List.setIfInBounds_toArray, List.set_cons_zero, List.set_cons_succ])
  have h62 := h6.1
  have m61 := G6.out.mo.blk.cell 1
  simp only [List.getElem?_toArray, List.getElem?_cons_zero, List.getElem?_cons_succ] at m61
  obtain ⟨A6, c6, rfl, _⟩ := R6.out.form
  refine wpAnyL_one (i := 12) (by kernel_rfl) rfl rfl (fun KK hK => ?_)
  go_simp
  refine hK _ _ (.inl rfl) ?_
  clear hK KK
  (try simp only [Act.put, List.setIfInBounds_toArray, List.set_cons_zero, List.set_cons_succ])
  refine wpAnyL_done (by kernel_rfl) ?_ _
  clear mc1 mc2 mf2 ar2 HS h5
  have hpl : (putV mn q (pageL b)).length = max c (q + 1) := by have := LW.out.enow; simp only at this; rw [this, length_view]
  obtain ⟨mo', co⟩ := G6.out.mo.setNow _ _ R6.out
  rw [hpl] at mo' co
  obtain ⟨w7, hw7⟩ : ∃ w7, w7 = w6.setCell ⟨bm, 2, none⟩ (.slice A6 (max c (q + 1)) c6) := ⟨_, rfl⟩
  rw [← hw7] at mo' co
  have S7 := Lib.hid (S6.out.chg co fun g hg e => G6.out.far g (.inl e) hg)
  have G7 := Lib.hid (G6.out.to co mo' (fun g hg => hg))
  clear mo' co
  have CC := Lib.hid (scount_tx w7 bp _ _ _ _ _ _ _ _ _ _ S7.out)
  rw [hw7] at CC
  go_wp2_with (first | (go_at_call 18; refine (num_any _ _).mono ?_; rintro e w' ⟨rfl, hw'⟩; have hw2 := hw'.symm; subst hw2) | (go_at_call 21; refine (within_any _ _ 11 (by decide) (by decide)).mono ?_; rintro e w' ⟨rfl, hw'⟩; have hw2 := hw'.symm; subst hw2; rw [hd]))
  refine CC.out.mono ?_
  rintro e w' ⟨rfl, hw'⟩; have hw3 := hw'.symm; subst hw3; clear hw' CC
  go_wp2_with fail
  go_ret
  rw [← hw7]
  exact G7.out.tx HU.out.1 (Nat.le_succ_of_le HU.out.2.1) HU.out.2.2.1 (Nat.le_succ_of_le LK.out.1) LW.out S7.out (by omega)
end Go.Proofs.YtamhjjagjjdmoaaGreat
end

section
namespace Go.Proofs.YtamhjjagjjdmoaaGreat
open Go.RowKit Go.Maps Go.Shelf Go.Sort

set_option maxHeartbeats 1000000 in
set_option maxRecDepth 100000 in
theorem act_mark_tx (w : World) (bp bd bm : Nat) (U : Nat → Prop) (m : MoM) (D : List Bts) (mode : Int) (t : Nat) (h : Game w bp bd bm U m D mode t) (ht : t ≤ 100) (ho : m.opn = true) (d n b : Int) (hd : wi d 11 = 7) :
    Calls Tryz.prog 37 #[ptr bm, ptr bp, .agg #[I d, I n, I b]] w (APost w bp bd bm U mode t) := by
  obtain ⟨Up, B, nx, hnx, hD, ⟨K, vd, vn, vm, vi, xs, mo, hB⟩, hBU, hBu, hUu, hUl, hst⟩ := h
  obtain ⟨md, mop, mn, mm, mi⟩ := m
  simp only at ho
  subst ho
  obtain ⟨own, c, wrote, marks, hml, hlike, hs⟩ := hst.resolve_left (fun e => by cases e.1)
  obtain rfl : md = D := hlike.edone
  clear hst
  obtain ⟨Ad, cd, rfl, _⟩ := mo.d.form
  obtain ⟨An, cn, rfl, _⟩ := mo.n.form
  obtain ⟨Am, cm, rfl, hcm⟩ := ownsRow_form mo.mrow
  obtain ⟨Ai, ci, rfl, hci⟩ := ownsRow_form mo.irow
  simp only at *
  obtain ⟨w1, hw1⟩ : ∃ w1, w1 = w.alloc (.cells #[I d, I n, I b] 42) := ⟨_, rfl⟩
  have G1 := Lib.hid (Ga.start (d := d) (n := n) (b := b) mo hB hBU hBu hUu hUl)
  have S1 := Lib.hid (hs.chg ((Chg.refl Non w).alloc (.cells #[I d, I n, I b] 42)) fun _ _ => id)
  rw [← hw1] at G1 S1
  have LK := Lib.hid (And.intro hml hlike)
  clear hml hlike
  have HU := Lib.hid (And.intro hUl (And.intro hnx (And.intro hD ht)))
  clear mo hB hBU hBu hUu hUl hs hnx hD ht
  go_enter Tryz.func37, Tryz.ntmps37
  go_wp2_with fail
  rw [← hw1]
  refine (within_any _ n 12 (by decide) (by decide)).mono ?_
  rintro e w' ⟨rfl, hw'⟩; have hw2 := hw'.symm; subst hw2; clear hw' hw1
  have hn12 := wi_lt n 12 (by decide)
  generalize wi n 12 = q at *
  have mc1 := G1.out.mo.blk.cell 1
  have ar0 := G1.out.arg.cell 0
  simp only [List.getElem?_toArray, List.getElem?_cons_zero, List.getElem?_cons_succ] at mc1 ar0
  have CC := Lib.hid (smark w1 bp _ _ _ _ _ _ _ _ _ nx S1.out (by have := HU.out.2.1; have := HU.out.2.2.2; omega) (by have := LK.out.1; have := HU.out.2.2.2; omega))
  go_wp2_with (first | (go_at_call 18; refine (num_any _ _).mono ?_; rintro e w' ⟨rfl, hw'⟩; have hw2 := hw'.symm; subst hw2) | (go_at_call 21; refine (within_any _ _ 11 (by decide) (by decide)).mono ?_; rintro e w' ⟨rfl, hw'⟩; have hw2 := hw'.symm; subst hw2; rw [hd]))
  refine CC.out.mono ?_
  rintro e w2 ⟨rfl, cc, ss⟩
  have G2 := Lib.hid (G1.out.step cc)
  have S2 := Lib.hid ss
  clear ss cc CC
  clear mc1 ar0
  have mc1 := G2.out.mo.blk.cell 1
  have mc2 := G2.out.mo.blk.cell 2
  have mc3 := G2.out.mo.blk.cell 3
  have mc4 := G2.out.mo.blk.cell 4
  have mf4 := G2.out.mo.blk.frozen 4
  simp only [List.getElem?_toArray, List.getElem?_cons_zero, List.getElem?_cons_succ] at mc1 mc2 mc3 mc4
  have LM := Lib.hid LK.out.2.mark
  have hmi : mi.length ≤ 100000 := by have := LK.out.2.eids; have h2 := LK.out.1; have h3 := HU.out.2.2.2; simp only at this; rw [this]; simp; omega
  have hmm : mm.length ≤ 100000 := by have := LK.out.2.emarks; have h2 := LK.out.1; have h3 := HU.out.2.2.2; simp only at this; rw [this]; simp; omega
  obtain ⟨iI, hiI, hzI, hsI, hbI⟩ := info_parts infoInt
  obtain ⟨A3, c3, w3, hrun, row3, ch3, hv3⟩ := pushRow w2 60 3 iI (.int .i64 0) 8 Tryz.underlying60 hiI hzI hsI hbI (by decide) rfl _ _ _ G2.out.mo.irow hmi (I ((nx : Int) + 1)) rfl
  have hnb : ¬ (Value.slice Ai mi.length ci).ownBlock = some bm := fun e => (G2.out.mo.ki bm e).2.1 rfl
  have b3 := G2.out.mo.blk.chg ch3 hnb
  have n4 := b3.cell 4
  have g4 := b3.frozen 4
  simp only [List.getElem?_toArray, List.getElem?_cons_zero, List.getElem?_cons_succ] at n4
  obtain ⟨mo4, co4⟩ := G2.out.mo.pushId ((nx : Int) + 1) _ row3 ch3 hv3
  obtain ⟨w4, hw4⟩ : ∃ w4, w4 = w3.setCell ⟨bm, 4, none⟩ (.slice A3 (mi.length + 1) c3) := ⟨_, rfl⟩
  have hw4' : w4 = w3.setCell ⟨bm, 4, none⟩ (.slice A3 ((⟨md, true, mn, mm, mi⟩ : MoM).ids.length + 1) c3) := hw4
  rw [← hw4'] at mo4 co4
  have S4 := Lib.hid (S2.out.chg co4 fun g hg e => e.elim (fun e => G2.out.far g (.inr (.inr (.inr e))) hg) fun e => G2.out.far g (.inl e) hg)
  have G4 := Lib.hid (G2.out.to2 co4 (fun g hg => hg.elim (fun e => .inr (.inr (.inr e))) .inl) mo4 (fun g hg => by
    rcases hg with e | e | e | e
    · exact .inl (.inl e)
    · exact .inl (.inr (.inl e))
    · exact .inl (.inr (.inr (.inl e)))
    · rcases hv3 g e with e | e
      · exact .inl (.inr (.inr (.inr e)))
      · exact .inr e))
  have RUN := Lib.hid hrun
  clear hw4' hrun row3 ch3 hv3 hnb b3 mo4 co4 hiI hzI hsI hbI
  go_wp2_with (first | (go_at_call 18; refine (num_any _ _).mono ?_; rintro e w' ⟨rfl, hw'⟩; have hw2 := hw'.symm; subst hw2) | (go_at_call 21; refine (within_any _ _ 11 (by decide) (by decide)).mono ?_; rintro e w' ⟨rfl, hw'⟩; have hw2 := hw'.symm; subst hw2; rw [hd]) | (at_builtin; refine Lib.wpList_append_run _ rfl (.tmp 194) (.tmp 196) _ _ rfl _ _ rfl rfl _ _ (RUN.out _) ?_))
  rw [← hw4]
  clear hw4 mc1 mc2 mc3 mc4 mf4 n4 g4
  have GD := Lib.hid (G4.out.still ((Chg.refl Non w4).drew))
  have SD := Lib.hid (S4.out.chg ((Chg.refl Non w4).drew) fun _ _ => id)
  refine wp_region_L (fun u : World => u.cell? ⟨bm, 3, none⟩ = some (.slice Am mm.length cm) ∧ u.cell? ⟨bm, 2, none⟩ = some (.slice An mn.length cn)) 13 (by kernel_rfl) ?_
  generalize w4.drew = wd at *
  have HS : (fun u : World => u.cell? ⟨bm, 3, none⟩ = some (.slice Am mm.length cm) ∧ u.cell? ⟨bm, 2, none⟩ = some (.slice An mn.length cn)) wd := ⟨GD.out.mo.blk.cell 3, GD.out.mo.blk.cell 2⟩
  obtain ⟨iM, hiM, hzM, hsM, hbM⟩ := info_parts infoMM
  obtain ⟨A5, c5, w5, hrun, row5, ch5, hv5⟩ := pushRow wd 71 32 iM (.slice none 0 0) 24 Tryz.underlying71 hiM hzM hsM hbM (by decide) rfl _ _ _ GD.out.mo.mrow hmm (.slice An mn.length cn) rfl
  have hnb : ¬ (Value.slice Am mm.length cm).ownBlock = some bm := fun e => (GD.out.mo.km bm e).2 rfl
  have b5 := GD.out.mo.blk.chg ch5 hnb
  have g3 := b5.frozen 3
  have n1 := b5.cell 1
  simp only [List.getElem?_toArray, List.getElem?_cons_zero, List.getElem?_cons_succ] at n1
  have h5 := two ch5 hnb hnb HS
  have h5a := two (T := Non) ((Chg.refl Non wd).alloc (.cells #[.slice An mn.length cn] 32)) id id HS
  obtain ⟨mo6, co6⟩ := GD.out.mo.pushMark _ row5 ch5 hv5
  have hw6 : ∃ w6, w6 = w5.setCell ⟨bm, 3, none⟩ (.slice A5 (mm.length + 1) c5) := ⟨_, rfl⟩
  obtain ⟨w6, hw6⟩ := hw6
  have hw6' : w6 = w5.setCell ⟨bm, 3, none⟩ (.slice A5 ((⟨md, true, mn, mm, mi ++ [(nx : Int) + 1]⟩ : MoM).marks.length + 1) c5) := hw6
  simp only at mo6 co6
  rw [← hw6] at mo6 co6
  have S6 := Lib.hid (SD.out.chg co6 fun g hg e => e.elim (fun e => GD.out.far g (.inr (.inr (.inl e))) hg) fun e => GD.out.far g (.inl e) hg)
  have G6 := Lib.hid (GD.out.to2 co6 (fun g hg => hg.elim (fun e => .inr (.inr (.inl e))) .inl) mo6 (fun g hg => by
    rcases hg with e | e | e | e
    · exact .inl (.inl e)
    · exact .inl (.inr (.inl e))
    · rcases hv5 g e with e | e
      · exact .inl (.inr (.inr (.inl e)))
      · exact .inr e
    · exact .inl (.inr (.inr (.inr e)))))
  have RUN5 := Lib.hid hrun
  clear hw6' hrun row5 ch5 hv5 hnb b5 mo6 co6 hiM hzM hsM hbM
  refine wpAnyL_take (i := 0) (v := ?_) rfl (by kernel_rfl) (by kernel_rfl) (by kernel_rfl) (by kernel_rfl) (fun _ _ _ h => h) (Or.inl ⟨by rfl, ?_⟩) HS ?_
  rotate_left
  · (intro u hu; (try dsimp only at hu); obtain ⟨u0, u1⟩ := hu; go_simp) <;> with_reducible rfl
  (try simp only [Act.put])
  refine wpAnyL_take (i := 1) (v := ?_) rfl (by kernel_rfl) (by kernel_rfl) (by kernel_rfl) (by kernel_rfl) (fun _ _ _ h => h) (Or.inl ⟨by rfl, ?_⟩) HS ?_
  rotate_left
  · (intro u hu; (try dsimp only at hu); obtain ⟨u0, u1⟩ := hu; go_simp) <;> with_reducible rfl
  (try simp only [Act.put])
  refine wpAnyL_take (i := 2) (v := ?_) rfl (by kernel_rfl) (by kernel_rfl) (by kernel_rfl) (by kernel_rfl) (fun _ _ _ h => h) (Or.inl ⟨by rfl, ?_⟩) HS ?_
  rotate_left
  · (intro u hu; (try dsimp only at hu); obtain ⟨u0, u1⟩ := hu; go_simp) <;> with_reducible rfl
  (try simp only [Act.put])
  refine wpAnyL_take (i := 3) (v := ?_) rfl (by kernel_rfl) (by kernel_rfl) (by kernel_rfl) (by kernel_rfl) (fun _ _ _ h => h) (Or.inl ⟨by rfl, ?_⟩) HS ?_
  rotate_left
  · (intro u hu; (try dsimp only at hu); obtain ⟨u0, u1⟩ := hu; go_simp) <;> with_reducible rfl
  (try simp only [Act.put])
  refine wpAnyL_take (i := 4) (v := ?_) rfl (by kernel_rfl) (by kernel_rfl) (by kernel_rfl) (by kernel_rfl) (fun _ _ _ h => h) (Or.inl ⟨by rfl, ?_⟩) HS ?_
  rotate_left
  · (intro u hu; (try dsimp only at hu); obtain ⟨u0, u1⟩ := hu; go_simp) <;> with_reducible rfl
  (try simp only [Act.put])
  refine wpAnyL_take (i := 5) (v := ?_) rfl (by kernel_rfl) (by kernel_rfl) (by kernel_rfl) (by kernel_rfl) (fun _ _ _ h => h) (Or.inl ⟨by rfl, ?_⟩) HS ?_
  rotate_left
  · (intro u hu; (try dsimp only at hu); obtain ⟨u0, u1⟩ := hu; go_simp) <;> with_reducible rfl
  (try simp only [Act.put])
  refine wpAnyL_take (i := 6) (v := ?_) rfl (by kernel_rfl) (by kernel_rfl) (by kernel_rfl) (by kernel_rfl) (fun _ _ _ h => h) (Or.inl ⟨by rfl, ?_⟩) HS ?_
  rotate_left
  · (intro u hu; (try dsimp only at hu); obtain ⟨u0, u1⟩ := hu; go_simp) <;> with_reducible rfl
  (try simp only [Act.put])
  refine wpAnyL_take (i := 7) (v := ?_) rfl (by kernel_rfl) (by kernel_rfl) (by kernel_rfl) (by kernel_rfl) (fun _ _ _ h => h) (Or.inl ⟨by rfl, ?_⟩) HS ?_
  rotate_left
  · (intro u hu; (try dsimp only at hu); obtain ⟨u0, u1⟩ := hu; go_simp) <;> with_reducible rfl
  (try simp only [Act.put])
  refine wpAnyL_take (i := 8) (v := ?_) rfl (by kernel_rfl) (by kernel_rfl) (by kernel_rfl) (by kernel_rfl) (fun _ _ _ h => h) (Or.inl ⟨by rfl, ?_⟩) HS ?_
  rotate_left
  · (intro u hu; (try dsimp only at hu); obtain ⟨u0, u1⟩ := hu; go_simp) <;> with_reducible rfl
  (try simp only [Act.put])
  refine wpAnyL_one (i := 9) (by kernel_rfl) rfl rfl (fun KK hK => ?_)
  go_simp
  refine hK _ _ (.inr h5a) ?_
  clear hK KK
  (try simp only [Act.put, List.setIfInBounds_toArray, List.set_cons_zero, List.set_cons_succ])
  refine wpAnyL_one (i := 10) (by kernel_rfl) rfl rfl (fun KK hK => ?_)
  refine Lib.wp_append_run _ (.tmp 204) (.tmp 209) 71 71 rfl _ _ rfl rfl (.slice A5 (mm.length + 1) c5) w5 (RUN5.out _) ?_
  refine hK _ _ (.inr h5) ?_
  clear hK KK
  (try simp only [Act.put, List.setIfInBounds_toArray])
  refine wpAnyL_one (i := 11) (by kernel_rfl) rfl rfl (fun KK hK => ?_)
  go_simp
  refine hK _ _ (.inr h5) ?_
  clear hK KK
  (try simp only [Act.put, List.setIfInBounds_toArray, List.set_cons_zero, List.set_cons_succ])
  refine wpAnyL_one (i := 12) (by kernel_rfl) rfl rfl (fun KK hK => ?_)
  go_simp
  refine hK _ _ (.inr h5) ?_
  clear hK KK
  (try simp only [Act.put, List.setIfInBounds_toArray, List.set_cons_zero, List.set_cons_succ])
  have h51 := h5.1
  have h52 := h5.2
  refine wpAnyL_one (i := 13) (by kernel_rfl) rfl rfl (fun KK hK => ?_)
  go_simp
  refine hK _ _ (.inl rfl) ?_
  clear hK KK
  (try simp only [Act.put, List.setIfInBounds_toArray, List.set_cons_zero, List.set_cons_succ])
  refine wpAnyL_done (by kernel_rfl) ?_ _
  have hpl : mn.length = c := by have := LK.out.2.enow; simp only at this; rw [this, length_view]
  have CC := Lib.hid (scount_tx w6 bp _ _ _ _ _ _ _ _ _ _ S6.out)
  rw [hw6] at CC
  go_wp2_with (first | (go_at_call 18; refine (num_any _ _).mono ?_; rintro e w' ⟨rfl, hw'⟩; have hw2 := hw'.symm; subst hw2) | (go_at_call 21; refine (within_any _ _ 11 (by decide) (by decide)).mono ?_; rintro e w' ⟨rfl, hw'⟩; have hw2 := hw'.symm; subst hw2; rw [hd]))
  refine CC.out.mono ?_
  rintro e w' ⟨rfl, hw'⟩; have hw3 := hw'.symm; subst hw3; clear hw' CC
  go_wp2_with fail
  go_ret
  rw [← hw6]
  exact G6.out.tx HU.out.1 (Nat.succ_le_succ HU.out.2.1) HU.out.2.2.1 (by have := LK.out.1; simp; omega) LM.out S6.out (by omega)
end Go.Proofs.YtamhjjagjjdmoaaGreat
end

section
namespace Go.Proofs.YtamhjjagjjdmoaaGreat
open Go.RowKit Go.Maps Go.Shelf Go.Sort

theorem act_any (w : World) (bp bd bm : Nat) (U : Nat → Prop) (m : MoM) (D : List Bts) (mode : Int) (t : Nat) (h : Game w bp bd bm U m D mode t) (ht : t ≤ 100) (d n b : Int) :
    Calls Tryz.prog 37 #[ptr bm, ptr bp, .agg #[I d, I n, I b]] w (APost w bp bd bm U mode t) := by
  have ho : m.opn = true ∨ m.opn = false := by cases m.opn <;> simp
  by_cases k0 : wi d 11 = 0
  · exact ho.elim (fun ho => act_begin_tx w bp bd bm U m D mode t h ht ho d n b k0) fun ho => act_begin_idle w bp bd bm U m D mode t h ht ho d n b k0
  by_cases k4 : wi d 11 = 4
  · exact ho.elim (fun ho => act_read_tx w bp bd bm U m D mode t h ht ho d n b k4) fun ho => act_read_idle w bp bd bm U m D mode t h ht ho d n b k4
  by_cases k5 : wi d 11 = 5
  · exact ho.elim (fun ho => act_commit_tx w bp bd bm U m D mode t h ht ho d n b k5) fun ho => act_commit_idle w bp bd bm U m D mode t h ht ho d n b k5
  by_cases k6 : wi d 11 = 6
  · exact ho.elim (fun ho => act_roll_tx w bp bd bm U m D mode t h ht ho d n b k6) fun ho => act_roll_idle w bp bd bm U m D mode t h ht ho d n b k6
  by_cases k7 : wi d 11 = 7
  · exact ho.elim (fun ho => act_mark_tx w bp bd bm U m D mode t h ht ho d n b k7) fun ho => act_mark_idle w bp bd bm U m D mode t h ht ho d n b k7
  by_cases k8 : wi d 11 = 8
  · refine ho.elim (fun ho => ?_) fun ho => act_back_idle w bp bd bm U m D mode t h ht ho d n b k8
    by_cases he : m.ids = []
    · exact act_back_none w bp bd bm U m D mode t h ht ho d n b k8 he
    · exact act_back_some w bp bd bm U m D mode t h ht ho d n b k8 he
  by_cases k10 : wi d 11 = 10
  · exact ho.elim (fun ho => act_fold_tx w bp bd bm U m D mode t h ht ho d n b k10) fun ho => act_fold_idle w bp bd bm U m D mode t h ht ho d n b k10
  exact ho.elim (fun ho => act_write_tx w bp bd bm U m D mode t h ht ho d n b _ rfl k0 k4 k5 k6 k7 k8 k10) fun ho => act_write_idle w bp bd bm U m D mode t h ht ho d n b _ rfl k0 k4 k5 k6 k7 k8 k10

theorem wi_mode (i : Int) : ((wi i 2 : Nat) + 1 : Int) = 1 ∨ ((wi i 2 : Nat) + 1 : Int) = 2 := by have := wi_lt i 2 (by decide); omega
section
variable {w w' : World} {bp bd bm : Nat} {U : Nat → Prop} {m : MoM} {D : List Bts} {mode : Int} {t : Nat}
theorem Game.next (h : Game w bp bd bm U m D mode t) : Game w bp bd bm U m D mode (t + 1) := by
  obtain ⟨Up, B, nx, h1, h2, h3, h4, h5, h6, h7, h8⟩ := h
  refine ⟨Up, B, nx, by omega, h2, h3, h4, h5, h6, h7, h8.imp (fun e => ⟨e.1, e.2.1, e.2.2.mono (fun _ h => h) (by omega)⟩) ?_⟩
  rintro ⟨own, c, wrote, marks, e1, e2, e3⟩
  exact ⟨own, c, wrote, marks, by omega, e2, e3.mono (fun _ h => h) (by omega)⟩
theorem Game.still (h : Game w bp bd bm U m D mode t) (c : Chg Non w w') : Game w' bp bd bm U m D mode t := by
  obtain ⟨Up, B, nx, h1, h2, ⟨K, vd, vn, vm, vi, xs, h3, h3'⟩, h4, h5, h6, h7, h8⟩ := h
  refine ⟨Up, B, nx, h1, h2, ⟨K, vd, vn, vm, vi, xs, h3.chg c fun _ _ => id, h3'⟩, h4, h5, h6, fun g hg => Nat.lt_of_lt_of_le (h7 g hg) c.size, h8.imp (fun e => ⟨e.1, e.2.1, e.2.2.chg c fun _ _ => id⟩) ?_⟩
  rintro ⟨own, c', wrote, marks, e1, e2, e3⟩
  exact ⟨own, c', wrote, marks, e1, e2, e3.chg c fun _ _ => id⟩
theorem Game.cell (h : Game w bp bd bm U m D mode t) : w.cell? ⟨bm, 1, none⟩ = some (.bool m.opn) := by
  obtain ⟨Up, B, nx, h1, h2, ⟨K, vd, vn, vm, vi, xs, h3, h3'⟩, _⟩ := h
  exact h3.blk.cell 1
theorem Game.idle (h : Game w bp bd bm U m D mode t) (ho : m.opn = false) : ∃ (Up B : Nat → Prop) (nx : Nat), nx ≤ t ∧ D.length ≤ 12 ∧ MoW w bm B m ∧ (∀ g, B g → ¬ Up g) ∧ (∀ g, B g → U g) ∧ (∀ g, Up g → U g) ∧ (∀ g, U g → g < w.heap.size) ∧ m.done = D ∧ SIdle w bp bd Up D (t * 6201) mode nx := by
  obtain ⟨Up, B, nx, h1, h2, h3, h4, h5, h6, h7, h8⟩ := h
  obtain ⟨_, e2, e3⟩ := h8.resolve_right (fun ⟨_, _, _, _, _, l, _⟩ => by have := l.eopn; rw [ho] at this; cases this)
  exact ⟨Up, B, nx, h1, h2, h3, h4, h5, h6, h7, e2, e3⟩
/-- a pager is opened anew -/
theorem game_open (h : Game w bp bd bm U m D mode t) (ho : m.opn = false) (mode' : Int) (hm : mode' = 1 ∨ mode' = 2) :
    Calls Tryz.prog 33 #[ptr bd, I mode'] w fun e w' => ∃ bp', SPost w U (ptr bp') (fun w' U' => Game w' bp' bd bm U' m D mode' t ∧ Calls Tryz.prog 28 #[ptr bp'] w' fun e w'' => e = .returned (I 0) ∧ w'' = w') e w' := by
  obtain ⟨Up, B, nx, h1, h2, ⟨K, vd, vn, vm, vi, xs, h3, h3'⟩, h4, h5, h6, h7, e2, e3⟩ := h.idle ho
  refine (sreopen w bp bd Up D _ mode nx e3 mode' hm).mono ?_
  rintro e w' ⟨bp', rfl, cc, ss⟩
  have hlt : ∀ g, moB bm K vm vi g → g < w.heap.size := h3.lt
  refine ⟨bp', rfl, cc.mono fun g hg => .inl (h6 g hg), ⟨newK Up w w', moB bm K vm vi, 0, Nat.zero_le _, h2, ⟨K, vd, vn, vm, vi, xs, h3.chg cc fun g hg => h4 g (h3' g hg), fun _ h => h⟩, fun g hg e => e.elim (h4 g (h3' g hg)) fun e => by have := hlt g hg; omega, fun g hg => .inl (h5 g (h3' g hg)), fun g hg => hg.elim (fun e => .inl (h6 g e)) .inr, fun g hg => hg.elim (fun e => Nat.lt_of_lt_of_le (h7 g e) cc.size) fun e => e.2, .inl ⟨ho, e2, ss⟩⟩, scount_idle w' bp' bd _ D _ mode' 0 ss⟩
/-- the transaction is rolled back, and the model told -/
theorem game_roll (h : Game w bp bd bm U m D mode t) (ho : m.opn = true) :
    Calls Tryz.prog 30 #[ptr bp] w fun e w' => e = .returned (I 0) ∧ w'.cell? ⟨bm, 1, none⟩ = some (.bool true) ∧ w'.frozen? ⟨bm, 1, none⟩ = false ∧ Hid (Game (w'.setCell ⟨bm, 1, none⟩ (.bool false)) bp bd bm (newK U w w') { m with opn := false } D mode t ∧ Chg U w (w'.setCell ⟨bm, 1, none⟩ (.bool false)) ∧ w'.heap.size = (w'.setCell ⟨bm, 1, none⟩ (.bool false)).heap.size) := by
  obtain ⟨Up, B, nx, h1, h2, ⟨K, vd, vn, vm, vi, xs, h3, h3'⟩, h4, h5, h6, h7, h8⟩ := h
  obtain ⟨own, c, wrote, marks, e1, e2, e3⟩ := h8.resolve_left (fun e => by rw [ho] at e; cases e.1)
  refine (srollback w bp bd Up D _ _ _ _ _ _ _ e3).mono ?_
  rintro e w' ⟨rfl, cc, ss⟩
  have h3w := h3.chg cc fun g hg => h4 g (h3' g hg)
  have hlt : ∀ g, moB bm K vm vi g → g < w.heap.size := h3.lt
  have far : ∀ g, moB bm K vm vi g → ¬ newK Up w w' g := fun g hg e => e.elim (h4 g (h3' g hg)) fun e => by have := hlt g hg; omega
  obtain ⟨mo', co⟩ := h3w.close
  have q1 := h3w.blk.cell 1
  have q2 := h3w.blk.frozen 1
  have hsz : w'.heap.size = (w'.setCell ⟨bm, 1, none⟩ (.bool false)).heap.size := by simp
  rw [ho] at q1
  refine ⟨rfl, q1, q2, ⟨newK Up w w', moB bm K vm vi, nx, h1, h2, ⟨K, vd, vn, vm, vi, xs, mo', fun _ h => h⟩, far, fun g hg => .inl (h5 g (h3' g hg)), fun g hg => hg.elim (fun e => .inl (h6 g e)) .inr, fun g hg => ?_, .inl ⟨rfl, e2.edone, ss.chg co fun g hg e => far g (.inl e) hg⟩⟩, (cc.mono fun g hg => .inl (h6 g hg)).tr (co.mono fun g hg => .inl (by rw [hg]; exact h5 bm (h3' bm (.inl rfl)))), hsz⟩
  rw [← hsz]
  exact hg.elim (fun e => Nat.lt_of_lt_of_le (h7 g e) cc.size) fun e => e.2
end
/-- a game begins -/
theorem game_start (w : World) (bp bd : Nat) (U : Nat → Prop) (z : Nat) (mode : Int) (h : SIdle w bp bd U [] z mode 0) (hz : z ≤ 0) (hU : ∀ g, U g → g < w.heap.size) :
    Game (w.alloc (.cells #[.slice none 0 0, .bool false, .slice none 0 0, .slice none 0 0, .slice none 0 0] 73)) bp bd w.heap.size (fun g => U g ∨ g = w.heap.size) ⟨[], false, [], [], []⟩ [] mode 0 := by
  have c := (Chg.refl Non w).alloc (.cells #[.slice none 0 0, .bool false, .slice none 0 0, .slice none 0 0, .slice none 0 0] 73)
  have b := Blk.new w 73 #[.slice none 0 0, .bool false, .slice none 0 0, .slice none 0 0, .slice none 0 0]
  have hs : (w.alloc (.cells #[.slice none 0 0, .bool false, .slice none 0 0, .slice none 0 0, .slice none 0 0] 73)).heap.size = w.heap.size + 1 := Array.size_push _
  generalize w.alloc (.cells #[.slice none 0 0, .bool false, .slice none 0 0, .slice none 0 0, .slice none 0 0] 73) = w1 at *
  refine ⟨U, fun g => g = w.heap.size, 0, Nat.le_refl _, Nat.zero_le _, ⟨fun _ => False, _, _, _, _, [], ⟨b, RowW.nil _ _, RowW.nil _ _, ⟨rfl, .inl ⟨rfl, rfl⟩⟩, True.intro, ⟨rfl, .inl ⟨rfl, rfl⟩⟩, id, fun g hg => hg.elim, fun g hg => by simp [Value.ownBlock] at hg, fun g hg => by simp [Value.ownBlock] at hg⟩, fun g hg => ?_⟩, fun g hg e => by have := hU g e; omega, fun g hg => .inr hg, fun g hg => .inl hg, fun g hg => ?_, .inl ⟨rfl, rfl, (h.chg c fun _ _ => id).mono (fun _ h => h) (by omega)⟩⟩
  · rcases hg with e | e | e | e
    · exact e
    · exact e.elim
    · simp [Value.ownBlock] at e
    · simp [Value.ownBlock] at e
  · rcases hg with e | e
    · have := hU g e; omega
    · omega
end Go.Proofs.YtamhjjagjjdmoaaGreat
end
