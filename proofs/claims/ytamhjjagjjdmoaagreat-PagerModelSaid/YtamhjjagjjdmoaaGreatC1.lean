/- the disk in memory: what its calls do -/
import Derived.WalkKit
import Derived.WalkSpells
import Derived.WalkLawsBesides
import Derived.Deep.QuietTactic
import Derived.BigQuiet
import Derived.LaidEqlPtr
import Derived.Lib.Hide
import Derived.StillTailTactics
import Derived.Maps.Own
import Derived.Maps.OwnSet
import Derived.Laws.CopyOwn
import Derived.Deep.Draws
import Derived.Test.YtamhjjagjjdmoaaGreatProg
import Derived.Outline
import Derived.Deep.LoopGhost
import Derived.Deep.RegionHeld3
import Derived.Deep.DrawnRows
import Derived.ScopeJumps
import Derived.Lib.AppendZeros
import Derived.Lib.AppendZerosOnto
import Derived.Maps.AppendAt
import Derived.Deep.AppendLies
import Derived.Deep.DeepCutAuto
import Derived.Deep.CutBlock
import Derived.Deep.RegionWith
import Derived.Lib.QuoteBits
section
namespace Go.Proofs.YtamhjjagjjdmoaaGreat
open Go.RowKit Go.Maps

/-! ### What a call may change -/

/-- Every block that was there, but those of S, is as it was. -/
structure Chg (S : Nat → Prop) (w w' : World) : Prop where
  os : w'.os = w.os
  tape : w'.tape = w.tape
  output : w'.output = w.output
  size : w.heap.size ≤ w'.heap.size
  block : ∀ b, b < w.heap.size → ¬ S b → w'.heap[b]? = w.heap[b]?

section
variable {S S' : Nat → Prop} {w w' w1 w2 : World}
theorem Chg.refl (S : Nat → Prop) (w : World) : Chg S w w := ⟨rfl, rfl, rfl, Nat.le_refl _, fun _ _ _ => rfl⟩
theorem Chg.trans (h : Chg S w w1) (k : Chg S' w1 w2) (hs : ∀ b, S' b → S b ∨ w.heap.size ≤ b) : Chg S w w2 :=
  ⟨k.os.trans h.os, k.tape.trans h.tape, k.output.trans h.output, Nat.le_trans h.size k.size, fun b hb hn =>
    (k.block b (Nat.lt_of_lt_of_le hb h.size) (fun hsb => by rcases hs b hsb with h1 | h1; exact hn h1; omega)).trans (h.block b hb hn)⟩
theorem Chg.tr (h : Chg S w w1) (k : Chg S w1 w2) : Chg S w w2 := h.trans k fun _ hb => .inl hb
theorem Chg.mono (h : Chg S w w') (hs : ∀ b, S b → S' b ∨ w.heap.size ≤ b) : Chg S' w w' :=
  (Chg.refl S' w).trans h hs
theorem Chg.drew (h : Chg S w w') : Chg S w w'.drew := ⟨h.os, h.tape, h.output, h.size, h.block⟩
theorem Chg.drewN (h : Chg S w w') (n : Nat) : Chg S w (w'.drewN n) := ⟨h.os, h.tape, h.output, h.size, h.block⟩
theorem Chg.alloc (h : Chg S w w') (o : Obj) : Chg S w (w'.alloc o) :=
  ⟨h.os, h.tape, h.output, Nat.le_trans h.size (by simp), fun b hb hn => (Below.heap_alloc w' o b (Nat.lt_of_lt_of_le hb h.size)).trans (h.block b hb hn)⟩
theorem Chg.setCell (h : Chg S w w') {p : Addr} (hp : S p.block ∨ w.heap.size ≤ p.block) (u : Value) : Chg S w (w'.setCell p u) :=
  ⟨h.os, h.tape, h.output, by simpa [World.setCell] using h.size, fun b hb hn => (Below.heap_setCell w' p u b (by rintro rfl; rcases hp with hp | hp; exact hn hp; omega)).trans (h.block b hb hn)⟩
theorem Chg.grown (h : Chg S w w1) {row : Option Nat} (hg : w1.grownBy w2 row) (hr : ∀ g, row = some g → S g ∨ w.heap.size ≤ g) : Chg S w w2 :=
  ⟨hg.os.trans h.os, hg.tape.trans h.tape, hg.output.trans h.output, Nat.le_trans h.size hg.size, fun b hb hn =>
    (hg.block b (Nat.lt_of_lt_of_le hb h.size) (fun e => by rcases hr b e.symm with h1 | h1; exact hn h1; omega)).trans (h.block b hb hn)⟩
theorem Chg.of_below {w w' : World} (h : Below w.heap.size w w') : Chg S w w' := ⟨h.os, h.tape, h.output, h.size, fun b hb _ => h.block b hb⟩
theorem Chg.below (h : Chg S w w') {B : Nat} (hs : ∀ b, S b → B ≤ b) (hB : B ≤ w.heap.size) : Below B w w' :=
  ⟨h.os, h.tape, h.output, h.size, fun b hb => h.block b (by omega) (fun e => by have := hs b e; omega)⟩
theorem Chg.heap (h : Chg S w w') {b : Nat} {o : Obj} (hb : w.heap[b]? = some o) (hn : ¬ S b) : w'.heap[b]? = some o :=
  (h.block b (Array.getElem?_eq_some_iff.1 hb).1 hn).trans hb
theorem Chg.cell (h : Chg S w w') {a : Addr} (hb : a.block < w.heap.size) (hn : ¬ S a.block) : w'.cell? a = w.cell? a := World.cell?_of_block (h.block a.block hb hn)
end
/-- nothing that was there changes -/
abbrev Non : Nat → Prop := fun _ => False

/-! ### A block known whole -/
def Blk (w : World) (g : Nat) (t : TypeId) (cs : Array Value) : Prop := w.heap[g]? = some (.cells cs t (0, 0))
section
variable {w w' : World} {g : Nat} {t : TypeId} {cs : Array Value} {S : Nat → Prop}
theorem Blk.lt (h : Blk w g t cs) : g < w.heap.size := (Array.getElem?_eq_some_iff.1 h).1
theorem Blk.cell (h : Blk w g t cs) (i : Nat) : w.cell? ⟨g, i, none⟩ = cs[i]? := cell_of_row w g i cs t (0, 0) h
theorem Blk.frozen (h : Blk w g t cs) (i : Nat) : w.frozen? ⟨g, i, none⟩ = false := by unfold Blk at h; simp [World.frozen?, h]
theorem Blk.new (w : World) (t : TypeId) (cs : Array Value) : Blk (w.alloc (.cells cs t)) w.heap.size t cs := heap_alloc_new w _
theorem Blk.drew (h : Blk w g t cs) : Blk w.drew g t cs := h
theorem Blk.drewN (h : Blk w g t cs) (n : Nat) : Blk (w.drewN n) g t cs := h
theorem Blk.alloc (h : Blk w g t cs) (o : Obj) : Blk (w.alloc o) g t cs := (Below.heap_alloc w o g h.lt).trans h
theorem Blk.set_ (h : Blk w g t cs) (i : Nat) (u : Value) : Blk (w.setCell ⟨g, i, none⟩ u) g t (cs.setIfInBounds i u) := by
  unfold Blk at h ⊢; simp [World.setCell, Array.getElem?_modify, h]
theorem Blk.far (h : Blk w g t cs) {p : Addr} (hp : g ≠ p.block) (u : Value) : Blk (w.setCell p u) g t cs := (Below.heap_setCell w p u g hp).trans h
theorem Blk.chg (h : Blk w g t cs) (k : Chg S w w') (hg : ¬ S g) : Blk w' g t cs := k.heap h hg
theorem Blk.grown {row : Option Nat} (h : Blk w g t cs) (hb : w.grownBy w' row) (hg : some g ≠ row) : Blk w' g t cs := (hb.block g h.lt hg).trans h
theorem Blk.ne_ {g' : Nat} {t' : TypeId} {cs' : Array Value} (h : Blk w g t cs) (h' : Blk w g' t' cs') (hne : t ≠ t') : g ≠ g' := by
  rintro rfl
  unfold Blk at h h'
  rw [h] at h'
  injection h' with h'
  injection h' with _ ht
  exact hne ht
end

/-! ### A map known as a rising list of keys and values -/
def hr (v : Value) : Option (DataW Value × List MemPlace) := some (.held v, [])
abbrev MList := List (Lit × Value)
def MList.data (m : MList) : DataW Value := .map (m.map fun p => (p.1, DataW.held p.2))
def MapW (P : Program) (k : TypeId) (w : World) (b : Nat) (m : MList) : Prop := w.ownsMap P k hr b m.length m.data

def mfind (m : MList) (kl : Lit) : Option Value := (m.find? fun p => p.1.sameKey kl).map (·.2)
def mins (x : Lit × Value) : MList → MList
  | [] => [x]
  | y :: r => if x.1.before y.1 then x :: y :: r else y :: mins x r
def mdel (m : MList) (kl : Lit) : MList := m.filter fun p => !p.1.sameKey kl
def mput (m : MList) (kl : Lit) (v : Value) : MList := mins (kl, v) (mdel m kl)

theorem mins_data (x : Lit × Value) : ∀ m : MList, (mins x m).map (fun p => (p.1, DataW.held p.2)) = DataW.insert (x.1, .held x.2) (m.map fun p => (p.1, DataW.held p.2))
  | [] => rfl
  | y :: r => by
    simp only [mins, List.map_cons, DataW.insert]
    split
    · rfl
    · rw [← mins_data x r]; rfl
theorem length_mins (x : Lit × Value) : ∀ m : MList, (mins x m).length = m.length + 1
  | [] => rfl
  | y :: r => by
    simp only [mins]
    split
    · rfl
    · simp [length_mins x r]
theorem mdel_data (m : MList) (kl : Lit) : (mdel m kl).map (fun p => (p.1, DataW.held p.2)) = (m.map fun p => (p.1, DataW.held p.2)).filter fun p => !p.1.sameKey kl := by
  simp [mdel, List.filter_map, Function.comp_def]
theorem mput_data (m : MList) (kl : Lit) (v : Value) : (mput m kl v).data = m.data.put kl (.held v) := by
  simp only [MList.data, DataW.put, mput, mins_data, mdel_data]
theorem mdel_dataD (m : MList) (kl : Lit) : (mdel m kl).data = m.data.del kl := by
  simp only [MList.data, DataW.del, mdel_data]
theorem matKey (m : MList) (kl : Lit) (z : DataW Value) : m.data.atKey kl z = ((mfind m kl).map DataW.held).getD z := by
  simp only [MList.data, DataW.atKey, mfind, List.find?_map, Function.comp_def]
  cases h : m.find? (fun p => p.1.sameKey kl) <;> simp

section
variable {P : Program} {k : TypeId} {w w' : World} {b : Nat} {m : MList}
theorem MapW.made (P : Program) (k : TypeId) (w : World) : MapW P k (w.alloc (.map #[] 0)) w.heap.size [] := World.ownsMap_made w P k hr
theorem MapW.lt (h : MapW P k w b m) : b < w.heap.size := World.ownsMap.lt h
theorem MapW.keep (h : MapW P k w b m) (e : w'.heap[b]? = w.heap[b]?) : MapW P k w' b m := by
  obtain ⟨es, clock, hb, r⟩ := h
  exact ⟨es, clock, e.trans hb, r⟩
theorem MapW.drew (h : MapW P k w b m) : MapW P k w.drew b m := h
theorem MapW.drewN (h : MapW P k w b m) (n : Nat) : MapW P k (w.drewN n) b m := h
theorem MapW.alloc (h : MapW P k w b m) (o : Obj) : MapW P k (w.alloc o) b m := h.keep (Below.heap_alloc w o b h.lt)
theorem MapW.setCell (h : MapW P k w b m) (p : Addr) (u : Value) : MapW P k (w.setCell p u) b m := by
  obtain ⟨es, clock, hb, r⟩ := h
  refine ⟨es, clock, ?_, r⟩
  by_cases e : p.block = b
  · simp only [World.setCell, Array.getElem?_modify, e, if_true, hb]; rfl
  · rw [Below.heap_setCell w p u b (fun h => e h.symm)]; exact hb
theorem MapW.chg {S : Nat → Prop} (h : MapW P k w b m) (c : Chg S w w') (hn : ¬ S b) : MapW P k w' b m := h.keep (c.block b h.lt hn)
theorem MapW.grown {row : Option Nat} (h : MapW P k w b m) (hb : w.grownBy w' row) (hg : some b ≠ row) : MapW P k w' b m := h.keep (hb.block b h.lt hg)
theorem MapW.exact_ {n : Nat} {D : MList} (h : w.ownsMap P k hr b n D.data) : MapW P k w b D := by
  obtain ⟨es, clock, hb, F, hs, hD⟩ := h
  refine ⟨es, clock, hb, F, ?_, hD⟩
  have e : D.data = .map ((es.toList.map (WideElems.rg P k hr)).foldr DataW.insert []) := hD
  simp only [MList.data] at e
  injection e with e
  have := congrArg List.length e
  rw [length_sorted] at this
  simp at this
  omega
theorem MapW.put {t e : TypeId} (h : MapW P k w b m) (K : Keyed P k) (ht : P.underlying t = some (.map k e)) (hn : m.length < maxLen) {key val : Value} {kl : Lit} (hkey : keyOf P k key = some kl) :
    ∃ w', (Instr.mapUpdate t (.map (some b)) key val).run P w = .ok () w' ∧ MapW P k w' b (mput m kl val) ∧ w.grownBy w' (some b) := by
  obtain ⟨w', h1, h2, h3⟩ := World.ownsMap.update (R := hr) h K ht hn hkey (show hr val = some (.held val, []) from rfl)
  exact ⟨w', h1, MapW.exact_ (by rw [mput_data]; exact h2), h3⟩
theorem mfind_none {kl : Lit} (h : ∀ zd : DataW Value, m.data.atKey kl zd = zd) : mfind m kl = none := by
  have := h .nil
  rw [matKey] at this
  cases hf : mfind m kl <;> simp [hf] at this ⊢
theorem mfind_some {kl : Lit} {v : Value} (h : ∀ zd : DataW Value, m.data.atKey kl zd = .held v) : mfind m kl = some v := by
  have := h .nil
  rw [matKey] at this
  cases hf : mfind m kl <;> simp [hf] at this ⊢
  exact this
theorem MapW.look2 {t e : TypeId} (h : MapW P k w b m) (K : Keyed P k) (ht : P.underlying t = some (.map k e)) {z : Value} (hz : (zeroValue e).run P w = .ok z w) {key : Value} {kl : Lit} (hkey : keyOf P k key = some kl) (c : Bool) :
    (Instr.lookup t (.map (some b)) key c).run P w = .ok (if c then .tuple #[(mfind m kl).getD z, .bool (mfind m kl).isSome] else (mfind m kl).getD z) w := by
  obtain ⟨es, clock, hb, F, _, hD⟩ := h
  rcases Maps.fit_look c K ht hz hb F hkey with ⟨hrun, _, hat⟩ | ⟨e0, y, _, _, hrun, hRv, hat, _⟩
  · have hf : mfind m kl = none := mfind_none (by rw [hD]; exact hat)
    rw [hrun, hf]; rfl
  · have hy : y.1 = .held e0.val := by simp [hr] at hRv; rw [← hRv]
    have hf : mfind m kl = some e0.val := mfind_some (by rw [hD, ← hy]; exact hat)
    rw [hrun, hf]; rfl
theorem MapW.look {t e : TypeId} (h : MapW P k w b m) (K : Keyed P k) (ht : P.underlying t = some (.map k e)) {z : Value} (hz : (zeroValue e).run P w = .ok z w) {key : Value} {kl : Lit} (hkey : keyOf P k key = some kl) :
    (Instr.lookup t (.map (some b)) key false).run P w = .ok ((mfind m kl).getD z) w := h.look2 K ht hz hkey false
theorem MapW.lookOk {t e : TypeId} (h : MapW P k w b m) (K : Keyed P k) (ht : P.underlying t = some (.map k e)) {z : Value} (hz : (zeroValue e).run P w = .ok z w) {key : Value} {kl : Lit} (hkey : keyOf P k key = some kl) :
    (Instr.lookup t (.map (some b)) key true).run P w = .ok (.tuple #[(mfind m kl).getD z, .bool (mfind m kl).isSome]) w := h.look2 K ht hz hkey true
theorem MapW.del {t e ty : TypeId} (h : MapW P k w b m) (K : Keyed P k) (ht : P.underlying t = some (.map k e)) {key : Value} {kl : Lit} (hkey : keyOf P k key = some kl) :
    ∃ w', (Builtin.delete_ #[t, k] ty #[.map (some b), key]).run P w = .ok (.tuple #[]) w' ∧ MapW P k w' b (mdel m kl) ∧ w.grownBy w' (some b) := by
  obtain ⟨es, clock, hb, F, hs, hD⟩ := h
  obtain ⟨es', h1, F', hs', h3, _⟩ := Maps.fit_drop (ty := ty) K ht hb F hkey
  refine ⟨_, h1, MapW.exact_ (n := es'.size) ⟨es', clock, ChangeMaps.heap_setBlock_same hb _, F', Nat.le_refl _, ?_⟩, ⟨rfl, rfl, rfl, by simp [ChangeMaps.setBlock], fun i _ hi => ChangeMaps.heap_setBlock_other hb _ (fun e => hi (by rw [e]))⟩⟩
  have e0 : m.data = .map ((es.toList.map (WideElems.rg P k hr)).foldr DataW.insert []) := hD
  rw [mdel_dataD, e0, h3]
  rfl
theorem MapW.block_len {w : World} (h : MapW P k w b m) : ∃ es clock, w.heap[b]? = some (.map es clock) ∧ es.size = m.length := by
  obtain ⟨es, clock, hb, F, hs, hD⟩ := h
  refine ⟨es, clock, hb, ?_⟩
  have e : m.data = .map ((es.toList.map (WideElems.rg P k hr)).foldr DataW.insert []) := hD
  simp only [MList.data] at e
  injection e with e
  have := congrArg List.length e
  rw [length_sorted] at this
  simp at this
  omega
end

/-- 'm[k] = v' at the operation -/
theorem wpList_mapPut {P : Program} (w : World) {ops : Array Oper} {rest : List Oper} {o : Oper} {a : Act} {Q : Exit → Act → World → Prop}
    (hg : o.guard = none) (m x v : Operand) (t : TypeId) (hop : o.op = Op.mapUpdate t m x v)
    (k e : TypeId) (K : Keyed P k) (ht : P.underlying t = some (.map k e)) (b : Nat) (D : MList)
    (hm : a.eval m = .map (some b)) (hown : MapW P k w b D) (hn : D.length < maxLen) (key val : Value) (kl : Lit) (hx : a.eval x = key) (hv : a.eval v = val) (hkey : keyOf P k key = some kl)
    (hK : ∀ w', MapW P k w' b (mput D kl val) → w.grownBy w' (some b) → wpList P ops Q rest (a.put o.dst undef) w') :
    wpList P ops Q (o :: rest) a w :=
  wpList_mapUpdate_own w hg m x v t hop k e K ht hr b D.length D.data hm hown hn key val kl hx hv hkey (.held val) [] rfl fun w' h1 h2 => hK w' (MapW.exact_ (by rw [mput_data]; exact h1)) h2

/-- 'delete(m, k)' at the operation -/
theorem wpList_mapDel {P : Program} (w : World) {ops : Array Oper} {rest : List Oper} {o : Oper} {a : Act} {Q : Exit → Act → World → Prop}
    (hg : o.guard = none) (m x : Operand) (t k : TypeId) (hop : o.op = .call { callee := .builtin .delete, args := #[m, x], argTypes := #[t, k] })
    (e : TypeId) (K : Keyed P k) (ht : P.underlying t = some (.map k e)) (b : Nat) (D : MList)
    (hm : a.eval m = .map (some b)) (hown : MapW P k w b D) (key : Value) (kl : Lit) (hx : a.eval x = key) (hkey : keyOf P k key = some kl)
    (hK : ∀ w', MapW P k w' b (mdel D kl) → w.grownBy w' (some b) → wpList P ops Q rest (a.put o.dst (.tuple #[])) w') :
    wpList P ops Q (o :: rest) a w := by
  refine wpList_plain hg fun K' hK' => ?_
  obtain ⟨w', hrun, h1, h2⟩ := hown.del (ty := o.type) K ht hkey
  unfold Oper.wp
  simp [execOp, hop, resolve, invoke, builtin, hm, hx, hrun, Result.andThen]
  exact hK' _ _ (hK w' h1 h2)

end Go.Proofs.YtamhjjagjjdmoaaGreat
end

section
namespace Go.Proofs.YtamhjjagjjdmoaaGreat
open Go.RowKit Go.Maps

abbrev I (n : Int) : Value := .int .i64 n
abbrev ptr (b : Nat) : Value := .pointer (some ⟨b, 0, none⟩)
def lvls (L : Nat → Int) : Array Value := #[I (L 0), I (L 1), I (L 2), I (L 3)]
/-- the highest level of the first k connections but c -/
def mostM (L : Nat → Int) (c : Nat) : Nat → Int
  | 0 => 0
  | k + 1 => if k = c then mostM L c k else (if mostM L c k < L k then L k else mostM L c k)
theorem mostM_nn (L : Nat → Int) (c : Nat) (k : Nat) : 0 ≤ mostM L c k := by
  induction k with
  | zero => simp [mostM]
  | succ k ih => simp only [mostM]; (repeat' split) <;> omega
theorem mostM_le (L : Nat → Int) (c : Nat) (hL : ∀ k, L k ≤ 4) (k : Nat) : mostM L c k ≤ 4 := by
  induction k with
  | zero => simp [mostM]
  | succ k ih => have := hL k; simp only [mostM]; (repeat' split) <;> omega

theorem index_lvl (v0 v1 v2 v3 : Value) (w : World) : (Instr.index 133 (.agg #[v0, v1, v2, v3]) (I 0)).run Tryz.prog w = .ok v0 w ∧ (Instr.index 133 (.agg #[v0, v1, v2, v3]) (I 1)).run Tryz.prog w = .ok v1 w ∧
   (Instr.index 133 (.agg #[v0, v1, v2, v3]) (I 2)).run Tryz.prog w = .ok v2 w ∧ (Instr.index 133 (.agg #[v0, v1, v2, v3]) (I 3)).run Tryz.prog w = .ok v3 w := by
  refine ⟨?_, ?_, ?_, ?_⟩ <;> kernel_rfl

set_option maxHeartbeats 400000 in
theorem most_any (w : World) (bl c : Nat) (L : Nat → Int) (hb : Blk w bl 135 (lvls L)) (hL : ∀ k, 0 ≤ L k ∧ L k ≤ 4) :
    Calls Tryz.prog 119 #[ptr bl, I c] w fun e w' => e = .returned (I (mostM L c 4)) ∧ w = w' := by
  have c0 := hb.cell 0
  have c1 := hb.cell 1
  have c2 := hb.cell 2
  have c3 := hb.cell 3
  simp only [lvls] at c0 c1 c2 c3
  clear hb
  have hi := fun w => index_lvl (I (L 0)) (I (L 1)) (I (L 2)) (I (L 3)) w
  have i0 := fun w => (hi w).1
  have i1 := fun w => (hi w).2.1
  have i2 := fun w => (hi w).2.2.1
  have i3 := fun w => (hi w).2.2.2
  clear hi
  go_enter Tryz.func119, Tryz.ntmps119
  go_wp2
  go_loop [4, 11] (fun m i => ∃ k : Nat, k ≤ 4 ∧ i = I k ∧ m = I (mostM L c k)) (fun _ i => 4 - (intOf i).toNat)
  case atStart => exact ⟨0, by omega, rfl, rfl⟩
  case round =>
    obtain ⟨k, hk, rfl, rfl⟩ := hrel
    by_cases h4 : k = 4
    · subst h4
      go_wp2
      go_ret
      exact ⟨rfl, rfl⟩
    · have hm := mostM_nn L c k
      have hm4 := mostM_le L c (fun k => (hL k).2) k
      have hl := hL k
      have hkk : k = 0 ∨ k = 1 ∨ k = 2 ∨ k = 3 := by omega
      by_cases hkc : k = c
      · have e : mostM L c (k + 1) = mostM L c k := by simp [mostM, hkc]
        have HE := Lib.hid e
        clear e
        rcases hkk with rfl | rfl | rfl | rfl
        · have hb : (((0 : Nat) : Int) != (c : Int)) = false := by simp; omega
          have hb' : ((0 : Int) != (c : Int)) = false := by simp; omega
          clear hb hkc
          go_wp2
          exact ⟨⟨1, by omega, rfl, by rw [HE.out]⟩, by simp [intOf]⟩
        · have hb : (((1 : Nat) : Int) != (c : Int)) = false := by simp; omega
          have hb' : ((1 : Int) != (c : Int)) = false := by simp; omega
          clear hb hkc
          go_wp2
          exact ⟨⟨2, by omega, rfl, by rw [HE.out]⟩, by simp [intOf]⟩
        · have hb : (((2 : Nat) : Int) != (c : Int)) = false := by simp; omega
          have hb' : ((2 : Int) != (c : Int)) = false := by simp; omega
          clear hb hkc
          go_wp2
          exact ⟨⟨3, by omega, rfl, by rw [HE.out]⟩, by simp [intOf]⟩
        · have hb : (((3 : Nat) : Int) != (c : Int)) = false := by simp; omega
          have hb' : ((3 : Int) != (c : Int)) = false := by simp; omega
          clear hb hkc
          go_wp2
          exact ⟨⟨4, by omega, rfl, by rw [HE.out]⟩, by simp [intOf]⟩
      · have e : mostM L c (k + 1) = (if mostM L c k < L k then L k else mostM L c k) := by simp [mostM, hkc]
        have HE := Lib.hid e
        clear e
        rcases hkk with rfl | rfl | rfl | rfl
        · have hb : (((0 : Nat) : Int) != (c : Int)) = true := by simp; omega
          have hb' : ((0 : Int) != (c : Int)) = true := by simp; omega
          clear hb hkc
          go_wp2
          exact ⟨⟨1, by omega, rfl, by rw [HE.out]⟩, by simp [intOf]⟩
        · have hb : (((1 : Nat) : Int) != (c : Int)) = true := by simp; omega
          have hb' : ((1 : Int) != (c : Int)) = true := by simp; omega
          clear hb hkc
          go_wp2
          exact ⟨⟨2, by omega, rfl, by rw [HE.out]⟩, by simp [intOf]⟩
        · have hb : (((2 : Nat) : Int) != (c : Int)) = true := by simp; omega
          have hb' : ((2 : Int) != (c : Int)) = true := by simp; omega
          clear hb hkc
          go_wp2
          exact ⟨⟨3, by omega, rfl, by rw [HE.out]⟩, by simp [intOf]⟩
        · have hb : (((3 : Nat) : Int) != (c : Int)) = true := by simp; omega
          have hb' : ((3 : Int) != (c : Int)) = true := by simp; omega
          clear hb hkc
          go_wp2
          exact ⟨⟨4, by omega, rfl, by rw [HE.out]⟩, by simp [intOf]⟩

theorem conn_yes (w : World) (c : Int) (h0 : 0 ≤ c) (h1 : c < 4) : Calls Tryz.prog 68 #[I c] w fun e w' => e = .returned (.bool true) ∧ w = w' := by
  have h0' : decide (0 ≤ c) = true := by simpa using h0
  have h1' : decide (c < 4) = true := by simpa using h1
  go_enter Tryz.func68, Tryz.ntmps68
  go_wp2
  go_ret
  exact ⟨rfl, rfl⟩
theorem conn_no (w : World) (c : Int) (h : c < 0 ∨ 4 ≤ c) : Calls Tryz.prog 68 #[I c] w fun e w' => e = .returned (.bool false) ∧ w = w' := by
  by_cases h0 : 0 ≤ c
  · have h1' : decide (c < 4) = false := by simp; omega
    have h0' : decide (0 ≤ c) = true := by simpa using h0
    go_enter Tryz.func68, Tryz.ntmps68
    go_wp2
    go_ret
    exact ⟨rfl, rfl⟩
  · have h0' : decide (0 ≤ c) = false := by simpa using h0
    go_enter Tryz.func68, Tryz.ntmps68
    go_wp2
    go_ret
    exact ⟨rfl, rfl⟩

/-- Raise, of a connection that is one, to a level that may be asked for. -/
def setL (L : Nat → Int) (c : Nat) (v : Int) : Nat → Int := fun k => if k = c then v else L k
def raiseM (L : Nat → Int) (c : Nat) (lv : Int) : Int × (Nat → Int) :=
  if lv ≤ L c then (0, L)
  else if lv = 1 then (if 3 ≤ mostM L c 4 then (8, L) else (0, setL L c 1))
  else if lv = 2 then (if L c = 0 then (11, L) else if 2 ≤ mostM L c 4 then (8, L) else (0, setL L c 2))
  else (if L c < 2 then (11, L) else if 1 ≤ mostM L c 4 then (8, setL L c 3) else (0, setL L c 4))

theorem lvls_set (L : Nat → Int) (c : Nat) (hc : c < 4) (v : Int) : (lvls L).setIfInBounds c (I v) = lvls (setL L c v) := by
  have hk : c = 0 ∨ c = 1 ∨ c = 2 ∨ c = 3 := by omega
  rcases hk with rfl | rfl | rfl | rfl <;> simp [lvls, setL]
theorem lvls_at (L : Nat → Int) (c : Nat) (hc : c < 4) : (lvls L)[c]? = some (I (L c)) := by
  have hk : c = 0 ∨ c = 1 ∨ c = 2 ∨ c = 3 := by omega
  rcases hk with rfl | rfl | rfl | rfl <;> simp [lvls]

set_option maxHeartbeats 800000 in
theorem raise_any (w : World) (bl c : Nat) (L : Nat → Int) (lv : Int) (hb : Blk w bl 135 (lvls L)) (hL : ∀ k, 0 ≤ L k ∧ L k ≤ 4) (hc : c < 4) (hlv : lv = 1 ∨ lv = 2 ∨ lv = 4) :
    Calls Tryz.prog 70 #[ptr bl, I c, I lv] w fun e w' => e = .returned (I (raiseM L c lv).1) ∧ Blk w' bl 135 (lvls (raiseM L c lv).2) ∧ Chg (fun b => b = bl) w w' := by
  have hcc : w.cell? ⟨bl, c, none⟩ = some (I (L c)) := by rw [hb.cell, lvls_at L c hc]
  have hf : w.frozen? ⟨bl, c, none⟩ = false := hb.frozen c
  have fin : ∀ v : Int, Blk (w.setCell ⟨bl, c, none⟩ (I v)) bl 135 (lvls (setL L c v)) ∧ Chg (fun b => b = bl) w (w.setCell ⟨bl, c, none⟩ (I v)) := fun v =>
    ⟨by rw [← lvls_set L c hc v]; exact hb.set_ c (I v), Chg.setCell (S := fun b => b = bl) (Chg.refl _ _) (.inl rfl) _⟩
  have same : Blk w bl 135 (lvls L) ∧ Chg (fun b => b = bl) w w := ⟨hb, Chg.refl _ _⟩
  have FIN := Lib.hid fin
  have SAME := Lib.hid same
  have h0 := mostM_nn L c 4
  have hl := hL c
  have MST := most_any w bl c L hb hL
  obtain ⟨m, hm⟩ : ∃ m, m = mostM L c 4 := ⟨_, rfl⟩
  rw [← hm] at h0 MST
  obtain ⟨k, hk⟩ : ∃ k, k = L c := ⟨_, rfl⟩
  rw [← hk] at hl hcc
  have M := Lib.hid MST
  clear fin same hb hL MST
  rcases hlv with rfl | rfl | rfl
  · by_cases h0 : 1 ≤ k
    · have hr := Lib.hid (show raiseM L c 1 = (0, L) from by simp only [raiseM, ← hk, ← hm]; simp [h0])
      clear hk hm
      go_enter Tryz.func70, Tryz.ntmps70
      go_wp2_with (first | (go_at_call 68; refine (conn_yes _ _ (by omega) (by omega)).mono ?_; rintro e w' ⟨rfl, rfl⟩) | (go_at_call 119; refine M.out.mono ?_; rintro e w' ⟨rfl, rfl⟩))
      iterate 4 (try (go_step3; go_wp2_with (first | (go_at_call 68; refine (conn_yes _ _ (by omega) (by omega)).mono ?_; rintro e w' ⟨rfl, rfl⟩) | (go_at_call 119; refine M.out.mono ?_; rintro e w' ⟨rfl, rfl⟩))))
      try rw [Exit.noGoto_ret]
      go_ret
      rw [hr.out]
      exact ⟨rfl, SAME.out⟩
    · by_cases h1 : 3 ≤ m
      · have hr := Lib.hid (show raiseM L c 1 = (8, L) from by simp only [raiseM, ← hk, ← hm]; simp [h0, h1])
        clear hk hm
        go_enter Tryz.func70, Tryz.ntmps70
        go_wp2_with (first | (go_at_call 68; refine (conn_yes _ _ (by omega) (by omega)).mono ?_; rintro e w' ⟨rfl, rfl⟩) | (go_at_call 119; refine M.out.mono ?_; rintro e w' ⟨rfl, rfl⟩))
        refine wp_scope_jumps 0 (fun a' w' => a'.defers = [] ∧ 6 < a'.tmps.size ∧ w' = w) (fun _ _ => 0) rfl ?_ ?_
        · go_wp2_with (first | (go_at_call 68; refine (conn_yes _ _ (by omega) (by omega)).mono ?_; rintro e w' ⟨rfl, rfl⟩) | (go_at_call 119; refine M.out.mono ?_; rintro e w' ⟨rfl, rfl⟩))
          go_step3
          exact ⟨rfl, rfl, by simp, rfl⟩
        rintro ⟨tmps, defers⟩ w' ⟨rfl, hs, rfl⟩
        go_wp2
        simp only [Exit.jump]
        go_ret
        have hs' : (tmps.setIfInBounds 6 (I 8)).getD 6 undef = I 8 := by simp [hs]
        rw [hr.out]
        exact ⟨congrArg Ending.returned hs', SAME.out⟩
      · have hr := Lib.hid (show raiseM L c 1 = (0, setL L c 1) from by simp only [raiseM, ← hk, ← hm]; simp [h0, h1])
        clear hk hm
        go_enter Tryz.func70, Tryz.ntmps70
        go_wp2_with (first | (go_at_call 68; refine (conn_yes _ _ (by omega) (by omega)).mono ?_; rintro e w' ⟨rfl, rfl⟩) | (go_at_call 119; refine M.out.mono ?_; rintro e w' ⟨rfl, rfl⟩))
        iterate 4 (try (go_step3; go_wp2_with (first | (go_at_call 68; refine (conn_yes _ _ (by omega) (by omega)).mono ?_; rintro e w' ⟨rfl, rfl⟩) | (go_at_call 119; refine M.out.mono ?_; rintro e w' ⟨rfl, rfl⟩))))
        try rw [Exit.noGoto_ret]
        go_ret
        rw [hr.out]
        exact ⟨rfl, FIN.out 1⟩
  · by_cases h0 : 2 ≤ k
    · have hr := Lib.hid (show raiseM L c 2 = (0, L) from by simp only [raiseM, ← hk, ← hm]; simp [h0])
      clear hk hm
      go_enter Tryz.func70, Tryz.ntmps70
      go_wp2_with (first | (go_at_call 68; refine (conn_yes _ _ (by omega) (by omega)).mono ?_; rintro e w' ⟨rfl, rfl⟩) | (go_at_call 119; refine M.out.mono ?_; rintro e w' ⟨rfl, rfl⟩))
      iterate 4 (try (go_step3; go_wp2_with (first | (go_at_call 68; refine (conn_yes _ _ (by omega) (by omega)).mono ?_; rintro e w' ⟨rfl, rfl⟩) | (go_at_call 119; refine M.out.mono ?_; rintro e w' ⟨rfl, rfl⟩))))
      try rw [Exit.noGoto_ret]
      go_ret
      rw [hr.out]
      exact ⟨rfl, SAME.out⟩
    · by_cases h1 : k = 0
      · have hr := Lib.hid (show raiseM L c 2 = (11, L) from by simp only [raiseM, ← hk, ← hm]; simp [h1])
        clear hk hm
        have hq : (k == 0) = true := by simpa using h1
        clear h1
        go_enter Tryz.func70, Tryz.ntmps70
        go_wp2_with (first | (go_at_call 68; refine (conn_yes _ _ (by omega) (by omega)).mono ?_; rintro e w' ⟨rfl, rfl⟩) | (go_at_call 119; refine M.out.mono ?_; rintro e w' ⟨rfl, rfl⟩))
        iterate 4 (try (go_step3; go_wp2_with (first | (go_at_call 68; refine (conn_yes _ _ (by omega) (by omega)).mono ?_; rintro e w' ⟨rfl, rfl⟩) | (go_at_call 119; refine M.out.mono ?_; rintro e w' ⟨rfl, rfl⟩))))
        try rw [Exit.noGoto_ret]
        go_ret
        rw [hr.out]
        exact ⟨rfl, SAME.out⟩
      · by_cases h2 : 2 ≤ m
        · have hr := Lib.hid (show raiseM L c 2 = (8, L) from by simp only [raiseM, ← hk, ← hm]; simp [h0, h1, h2])
          clear hk hm
          have hq : (k == 0) = false := by simpa using h1
          go_enter Tryz.func70, Tryz.ntmps70
          go_wp2_with (first | (go_at_call 68; refine (conn_yes _ _ (by omega) (by omega)).mono ?_; rintro e w' ⟨rfl, rfl⟩) | (go_at_call 119; refine M.out.mono ?_; rintro e w' ⟨rfl, rfl⟩))
          refine wp_scope_jumps 0 (fun a' w' => a'.defers = [] ∧ 6 < a'.tmps.size ∧ w' = w) (fun _ _ => 0) rfl ?_ ?_
          · go_wp2_with (first | (go_at_call 68; refine (conn_yes _ _ (by omega) (by omega)).mono ?_; rintro e w' ⟨rfl, rfl⟩) | (go_at_call 119; refine M.out.mono ?_; rintro e w' ⟨rfl, rfl⟩))
            go_step3
            exact ⟨rfl, rfl, by simp, rfl⟩
          rintro ⟨tmps, defers⟩ w' ⟨rfl, hs, rfl⟩
          go_wp2
          simp only [Exit.jump]
          go_ret
          have hs' : (tmps.setIfInBounds 6 (I 8)).getD 6 undef = I 8 := by simp [hs]
          rw [hr.out]
          exact ⟨congrArg Ending.returned hs', SAME.out⟩
        · have hr := Lib.hid (show raiseM L c 2 = (0, setL L c 2) from by simp only [raiseM, ← hk, ← hm]; simp [h0, h1, h2])
          clear hk hm
          have hq : (k == 0) = false := by simpa using h1
          go_enter Tryz.func70, Tryz.ntmps70
          go_wp2_with (first | (go_at_call 68; refine (conn_yes _ _ (by omega) (by omega)).mono ?_; rintro e w' ⟨rfl, rfl⟩) | (go_at_call 119; refine M.out.mono ?_; rintro e w' ⟨rfl, rfl⟩))
          iterate 4 (try (go_step3; go_wp2_with (first | (go_at_call 68; refine (conn_yes _ _ (by omega) (by omega)).mono ?_; rintro e w' ⟨rfl, rfl⟩) | (go_at_call 119; refine M.out.mono ?_; rintro e w' ⟨rfl, rfl⟩))))
          try rw [Exit.noGoto_ret]
          go_ret
          rw [hr.out]
          exact ⟨rfl, FIN.out 2⟩
  · by_cases h0 : 4 ≤ k
    · have hr := Lib.hid (show raiseM L c 4 = (0, L) from by simp only [raiseM, ← hk, ← hm]; simp [h0])
      clear hk hm
      go_enter Tryz.func70, Tryz.ntmps70
      go_wp2_with (first | (go_at_call 68; refine (conn_yes _ _ (by omega) (by omega)).mono ?_; rintro e w' ⟨rfl, rfl⟩) | (go_at_call 119; refine M.out.mono ?_; rintro e w' ⟨rfl, rfl⟩))
      iterate 4 (try (go_step3; go_wp2_with (first | (go_at_call 68; refine (conn_yes _ _ (by omega) (by omega)).mono ?_; rintro e w' ⟨rfl, rfl⟩) | (go_at_call 119; refine M.out.mono ?_; rintro e w' ⟨rfl, rfl⟩))))
      try rw [Exit.noGoto_ret]
      go_ret
      rw [hr.out]
      exact ⟨rfl, SAME.out⟩
    · by_cases h1 : k < 2
      · have hr := Lib.hid (show raiseM L c 4 = (11, L) from by simp only [raiseM, ← hk, ← hm]; simp [h0, h1])
        clear hk hm
        go_enter Tryz.func70, Tryz.ntmps70
        go_wp2_with (first | (go_at_call 68; refine (conn_yes _ _ (by omega) (by omega)).mono ?_; rintro e w' ⟨rfl, rfl⟩) | (go_at_call 119; refine M.out.mono ?_; rintro e w' ⟨rfl, rfl⟩))
        iterate 4 (try (go_step3; go_wp2_with (first | (go_at_call 68; refine (conn_yes _ _ (by omega) (by omega)).mono ?_; rintro e w' ⟨rfl, rfl⟩) | (go_at_call 119; refine M.out.mono ?_; rintro e w' ⟨rfl, rfl⟩))))
        try rw [Exit.noGoto_ret]
        go_ret
        rw [hr.out]
        exact ⟨rfl, SAME.out⟩
      · by_cases h2 : 1 ≤ m
        · have hr := Lib.hid (show raiseM L c 4 = (8, setL L c 3) from by simp only [raiseM, ← hk, ← hm]; simp [h0, h1, h2])
          clear hk hm
          go_enter Tryz.func70, Tryz.ntmps70
          go_wp2_with (first | (go_at_call 68; refine (conn_yes _ _ (by omega) (by omega)).mono ?_; rintro e w' ⟨rfl, rfl⟩) | (go_at_call 119; refine M.out.mono ?_; rintro e w' ⟨rfl, rfl⟩))
          refine wp_scope_jumps 0 (fun a' w' => a'.defers = [] ∧ 6 < a'.tmps.size ∧ w' = (w.setCell ⟨bl, c, none⟩ (I 3))) (fun _ _ => 0) rfl ?_ ?_
          · go_wp2_with (first | (go_at_call 68; refine (conn_yes _ _ (by omega) (by omega)).mono ?_; rintro e w' ⟨rfl, rfl⟩) | (go_at_call 119; refine M.out.mono ?_; rintro e w' ⟨rfl, rfl⟩))
            go_step3
            exact ⟨rfl, rfl, by simp, rfl⟩
          rintro ⟨tmps, defers⟩ w' ⟨rfl, hs, rfl⟩
          go_wp2
          simp only [Exit.jump]
          go_ret
          have hs' : (tmps.setIfInBounds 6 (I 8)).getD 6 undef = I 8 := by simp [hs]
          rw [hr.out]
          exact ⟨congrArg Ending.returned hs', FIN.out 3⟩
        · have hr := Lib.hid (show raiseM L c 4 = (0, setL L c 4) from by simp only [raiseM, ← hk, ← hm]; simp [h0, h1, h2])
          clear hk hm
          go_enter Tryz.func70, Tryz.ntmps70
          go_wp2_with (first | (go_at_call 68; refine (conn_yes _ _ (by omega) (by omega)).mono ?_; rintro e w' ⟨rfl, rfl⟩) | (go_at_call 119; refine M.out.mono ?_; rintro e w' ⟨rfl, rfl⟩))
          iterate 4 (try (go_step3; go_wp2_with (first | (go_at_call 68; refine (conn_yes _ _ (by omega) (by omega)).mono ?_; rintro e w' ⟨rfl, rfl⟩) | (go_at_call 119; refine M.out.mono ?_; rintro e w' ⟨rfl, rfl⟩))))
          try rw [Exit.noGoto_ret]
          go_ret
          rw [hr.out]
          exact ⟨rfl, FIN.out 4⟩

theorem locksNew_any (w : World) : Calls Tryz.prog 17 #[] w fun e w' => e = .returned (ptr w.heap.size) ∧ Blk w' w.heap.size 135 (lvls fun _ => 0) ∧ Chg Non w w' := by
  go_enter Tryz.func17, Tryz.ntmps17
  go_wp2
  go_ret
  exact ⟨rfl, Blk.new w _ _, (Chg.refl _ _).alloc _⟩

/-- Lower, of a connection that is one, to none -/
def lowerM (L : Nat → Int) (c : Nat) : Nat → Int := setL L c 0
theorem lower_any (w : World) (bl c : Nat) (L : Nat → Int) (hb : Blk w bl 135 (lvls L)) (hL : ∀ k, 0 ≤ L k ∧ L k ≤ 4) (hc : c < 4) :
    Calls Tryz.prog 86 #[ptr bl, I c, I 0] w fun e w' => e = .returned (I 0) ∧ Blk w' bl 135 (lvls (lowerM L c)) ∧ Chg (fun b => b = bl) w w' := by
  have hcc : w.cell? ⟨bl, c, none⟩ = some (I (L c)) := by rw [hb.cell, lvls_at L c hc]
  have hf : w.frozen? ⟨bl, c, none⟩ = false := hb.frozen c
  have fin : Blk (w.drew.setCell ⟨bl, c, none⟩ (I 0)) bl 135 (lvls (setL L c 0)) ∧ Chg (fun b => b = bl) w (w.drew.setCell ⟨bl, c, none⟩ (I 0)) :=
    ⟨by rw [← lvls_set L c hc 0]; exact hb.drew.set_ c (I 0), Chg.setCell (S := fun b => b = bl) (Chg.refl _ _).drew (.inl rfl) _⟩
  have FIN := Lib.hid fin
  have hl := hL c
  obtain ⟨k, hk⟩ : ∃ k, k = L c := ⟨_, rfl⟩
  rw [← hk] at hl hcc
  clear fin hb hL hk
  have b1 : (0 : Int) ≤ (c : Int) := by omega
  have b2 : (c : Int) < 4 := by omega
  have hz : (if 0 < k then (0 : Int) else k) = 0 := by split <;> omega
  go_enter Tryz.func86, Tryz.ntmps86
  go_wp2_with ((go_at_call 68; refine (conn_yes _ _ (by omega) (by omega)).mono ?_; rintro e w' ⟨rfl, rfl⟩))
  go_region
  go_wp2
  go_ret
  exact ⟨rfl, FIN.out⟩
end Go.Proofs.YtamhjjagjjdmoaaGreat
end

section
namespace Go.Proofs.YtamhjjagjjdmoaaGreat
open Go.RowKit Go.Maps

abbrev Bts := List UInt8
def B (x : UInt8) : Value := .int .u8 (x.toNat : Int)
structure FileM where
  safe : Bts
  seen : Bts
/-- a disk: its files' names, rising; the files; troubles by stroke; strokes; whether the power is off -/
structure DiskM where
  names : List Bts
  file : Bts → FileM
  tr : MList
  strokes : Int
  off : Bool
inductive Role where
  | disk | fmap | tmap
  | file (n : Bts) | safe (n : Bts) | seen (n : Bts)
/-- where it lies -/
structure DG where
  bf : Nat
  bt : Nat
  bx : Bts → Nat
  vs : Bts → Value
  vn : Bts → Value
  own : Nat → Option Role
def DG.F (G : DG) (b : Nat) : Prop := (G.own b).isSome = true
/-- a slice of bytes that is one's own: it may be written, and appended to -/
def OwnB (w : World) (v : Value) (l : Bts) : Prop :=
  (v = .slice none 0 0 ∧ l = []) ∨ ∃ g cap cur, v = .slice (some ⟨g, 0, none⟩) l.length cap ∧ Blk w g 5 cur ∧ l.length ≤ cap ∧ cap ≤ cur.size ∧ cap ≤ maxLen ∧ cur.toList.take l.length = l.map B
def fmapOf (names : List Bts) (bx : Bts → Nat) : MList := names.map fun n => (Lit.string n, ptr (bx n))

structure DiskAt (w : World) (bd : Nat) (M : DiskM) (G : DG) : Prop where
  disk : Blk w bd 127 #[.map (some G.bf), .map (some G.bt), I M.strokes, .bool M.off]
  fm : MapW Tryz.prog 9 w G.bf (fmapOf M.names G.bx)
  tm : MapW Tryz.prog 3 w G.bt M.tr
  obd : G.own bd = some .disk
  obf : G.own G.bf = some .fmap
  obt : G.own G.bt = some .tmap
  file : ∀ n ∈ M.names, Blk w (G.bx n) 132 #[G.vs n, G.vn n] ∧ OwnB w (G.vs n) (M.file n).safe ∧ OwnB w (G.vn n) (M.file n).seen
  obx : ∀ n ∈ M.names, G.own (G.bx n) = some (.file n)
  ovs : ∀ n ∈ M.names, ∀ g, (G.vs n).ownBlock = some g → G.own g = some (.safe n)
  ovn : ∀ n ∈ M.names, ∀ g, (G.vn n).ownBlock = some g → G.own g = some (.seen n)
  olt : ∀ b, G.F b → b < w.heap.size
  lens : ∀ n ∈ M.names, (M.file n).safe.length ≤ 4194304 ∧ (M.file n).seen.length ≤ 4194304
  count : M.names.length ≤ 16

section
variable {w w' : World} {bd : Nat} {M : DiskM} {G : DG} {S : Nat → Prop}
theorem OwnB.chg {v : Value} {l : Bts} (h : OwnB w v l) (c : Chg S w w') (hn : ∀ g, v.ownBlock = some g → ¬ S g) : OwnB w' v l := by
  rcases h with h | ⟨g, cap, cur, hv, hb, r⟩
  · exact .inl h
  · exact .inr ⟨g, cap, cur, hv, hb.chg c (hn g (by rw [hv]; rfl)), r⟩
theorem OwnB.of_row {base n : Nat} {v : Value} {l : Bts} (h : w.ownsRow base 5 1 v n (l.map B)) : OwnB w v l := by
  obtain ⟨h1, h2⟩ := h
  simp at h1
  rcases h2 with ⟨rfl, rfl⟩ | ⟨g, cap, cur, rfl, _, hg, hn, hm, hs, ht⟩
  · exact .inl ⟨rfl, List.eq_nil_of_length_eq_zero h1⟩
  · subst h1
    exact .inr ⟨g, cap, cur, rfl, hg, hn, by simp at hs; omega, hm, by simpa using ht⟩
theorem OwnB.cells {l : Bts} {g n c : Nat} (h : OwnB w (.slice (some ⟨g, 0, none⟩) n c) l) : ∀ j u, (l.map B)[j]? = some u → w.cell? ⟨g, j, none⟩ = some u := by
  rcases h with ⟨h, _⟩ | ⟨g', cap, cur, hv, hb, _, _, _, ht⟩
  · cases h
  · injection hv with e1 e2 e3
    injection e1 with e1
    injection e1 with e1
    subst e1
    intro j u hu
    rw [hb.cell]
    rw [← ht, List.getElem?_take] at hu
    split at hu
    · simpa using hu
    · cases hu
theorem OwnB.len {l : Bts} {A : Option Addr} {n c : Nat} (h : OwnB w (.slice A n c) l) : l.length = n ∧ n ≤ c ∧ (A = none → l = []) := by
  rcases h with ⟨h, rfl⟩ | ⟨g', cap, cur, hv, hb, h1, _, _, ht⟩
  · injection h with e1 e2 e3; subst e2; subst e3; simp
  · injection hv with e1 e2 e3; subst e2; subst e3; subst e1; simp [h1]
theorem OwnB.form {v : Value} {l : Bts} (h : OwnB w v l) : ∃ A c, v = .slice A l.length c ∧ l.length ≤ c := by
  rcases h with ⟨rfl, rfl⟩ | ⟨g', cap, cur, rfl, hb, h1, _⟩
  · exact ⟨_, _, rfl, Nat.le_refl _⟩
  · exact ⟨_, _, rfl, h1⟩
theorem DG.F_of {b : Nat} {r : Role} (h : G.own b = some r) : G.F b := by simp [DG.F, h]
theorem DiskAt.chg (h : DiskAt w bd M G) (c : Chg S w w') (hn : ∀ b, G.F b → ¬ S b) : DiskAt w' bd M G where
  disk := h.disk.chg c (hn _ (DG.F_of h.obd))
  fm := h.fm.chg c (hn _ (DG.F_of h.obf))
  tm := h.tm.chg c (hn _ (DG.F_of h.obt))
  obd := h.obd
  obf := h.obf
  obt := h.obt
  file n hm := by
    obtain ⟨h1, h2, h3⟩ := h.file n hm
    exact ⟨h1.chg c (hn _ (DG.F_of (h.obx n hm))), h2.chg c fun g hg => hn _ (DG.F_of (h.ovs n hm g hg)), h3.chg c fun g hg => hn _ (DG.F_of (h.ovn n hm g hg))⟩
  obx := h.obx
  ovs := h.ovs
  ovn := h.ovn
  olt b hb := Nat.lt_of_lt_of_le (h.olt b hb) c.size
  lens := h.lens
  count := h.count
end

theorem keyS : Keyed Tryz.prog 9 := string_keyed Tryz.underlying9
theorem keyI : Keyed Tryz.prog 3 := int_keyed Tryz.underlying3
theorem keyOfS (s : ByteArray) (h : s.size ≤ maxLen) : keyOf Tryz.prog 9 (.string s) = some (.string s.data.toList) := Go.WideMaps.keyOf_string_mk Tryz.underlying9 h
theorem zeroFile (w : World) : (zeroValue 129).run Tryz.prog w = .ok (.pointer none) w := by kernel_rfl
theorem zeroInt (w : World) : (zeroValue 3).run Tryz.prog w = .ok (I 0) w := by kernel_rfl

theorem fmapOf_find (names : List Bts) (bx : Bts → Nat) (n : Bts) : mfind (fmapOf names bx) (.string n) = if n ∈ names then some (ptr (bx n)) else none := by
  unfold mfind fmapOf
  induction names with
  | nil => simp
  | cons a r ih =>
    simp only [List.map_cons, List.find?_cons, Lit.sameKey]
    by_cases e : a = n
    · subst e; simp
    · have e' : (a == n) = false := by simpa using e
      have e2 : ¬ n = a := fun h => e h.symm
      simp only [e', List.mem_cons, e2, false_or]
      simpa [List.find?_map, Function.comp_def, Lit.sameKey] using ih
theorem DiskAt.look {w : World} {bd : Nat} {M : DiskM} {G : DG} (h : DiskAt w bd M G) (s : ByteArray) (hs : s.size ≤ maxLen) :
    (Instr.lookup 124 (.map (some G.bf)) (.string s) false).run Tryz.prog w = .ok (if s.data.toList ∈ M.names then ptr (G.bx s.data.toList) else .pointer none) w := by
  rw [h.fm.look keyS Tryz.underlying124 (zeroFile w) (keyOfS s hs), fmapOf_find]
  split <;> rfl

set_option maxHeartbeats 400000 in
theorem there_no (w : World) (bd : Nat) (M : DiskM) (G : DG) (h : DiskAt w bd M G) (s : ByteArray) (hs : s.size ≤ maxLen) (hn : s.data.toList ∉ M.names) :
   Calls Tryz.prog 167 #[ptr bd, .string s] w fun e w' => e = .returned (I 2) ∧ w = w' := by
  have c0 : w.cell? ⟨bd, 0, none⟩ = some (.map (some G.bf)) := h.disk.cell 0
  have hl := h.look s hs
  rw [if_neg hn] at hl
  clear h hn
  go_enter Tryz.func167, Tryz.ntmps167
  go_wp2
  go_ret
  exact ⟨rfl, rfl⟩

set_option maxHeartbeats 400000 in
theorem there_yes (w : World) (bd : Nat) (M : DiskM) (G : DG) (h : DiskAt w bd M G) (s : ByteArray) (hs : s.size ≤ maxLen) (hn : s.data.toList ∈ M.names) :
   Calls Tryz.prog 167 #[ptr bd, .string s] w fun e w' => e = .returned (I 0) ∧ w = w' := by
  have c0 : w.cell? ⟨bd, 0, none⟩ = some (.map (some G.bf)) := h.disk.cell 0
  have hl := h.look s hs
  rw [if_pos hn] at hl
  clear h hn
  go_enter Tryz.func167, Tryz.ntmps167
  go_wp2
  go_ret
  exact ⟨rfl, rfl⟩
end Go.Proofs.YtamhjjagjjdmoaaGreat
end

section
namespace Go.Proofs.YtamhjjagjjdmoaaGreat
open Go.RowKit Go.Maps

theorem infoU8 : (Tryz.prog.info? 5).map (fun i => (i.zero, i.size, i.bytes)) = some (some (.int .u8 0), 1, 1) := by kernel_rfl
theorem B_one (l : Bts) : ∀ u ∈ l.map B, u.oneCell' = true := by
  intro u hu; obtain ⟨x, _, rfl⟩ := List.mem_map.1 hu; rfl

/-- the slice value v reads as the bytes l -/
def Sl (w : World) (v : Value) (l : Bts) : Prop :=
  (v = .slice none 0 0 ∧ l = []) ∨ ∃ g o c, v = .slice (some ⟨g, o, none⟩) l.length c ∧ l.length ≤ c ∧ c ≤ maxLen ∧ ∀ j u, (l.map B)[j]? = some u → w.cell? ⟨g, o + j, none⟩ = some u

theorem addr_add (g o j : Nat) : (⟨g, o, none⟩ : Addr).add j = ⟨g, o + j, none⟩ := by
  unfold Addr.add; split
  · next h => subst h; rfl
  · rfl

set_option maxHeartbeats 400000 in
theorem clone_nil (w : World) : Calls Tryz.prog 67 #[.slice none 0 0] w fun e w' => e = .returned (.slice none 0 0) ∧ w = w' := by
  have hq := fun w a n c => Lib.run_eql_slice_nil (P := Tryz.prog) w 48 5 a n c 0 0 Tryz.underlying48
  go_enter Tryz.func67, Tryz.ntmps67
  go_wp2
  go_ret
  exact ⟨rfl, rfl⟩

set_option maxHeartbeats 400000 in
theorem clone_some (w : World) (g o n c : Nat) (l : Bts) (hn : l.length = n) (hc : ∀ j u, (l.map B)[j]? = some u → w.cell? ⟨g, o + j, none⟩ = some u) (hm : n ≤ 4194304) :
    Calls Tryz.prog 67 #[.slice (some ⟨g, o, none⟩) n c] w fun e w' => ∃ v, e = .returned v ∧ w'.ownsRow w.heap.size 5 1 v n (l.map B) ∧ Below w.heap.size w w' := by
  obtain ⟨i0, hi, hz0, hz1, hz2⟩ := info_parts infoU8
  have hq := fun w a n c => Lib.run_eql_slice_nil (P := Tryz.prog) w 48 5 a n c 0 0 Tryz.underlying48
  go_enter Tryz.func67, Tryz.ntmps67
  have OW : Hid ((w.alloc (Obj.cells #[] 5)).ownsRow w.heap.size 5 1 (.slice (some ⟨w.heap.size, 0, none⟩) 0 0) 0 []) := World.ownsRow_lit w #[] 0 (Nat.le_refl _) (by simp [maxLen]) rfl
  have HN : Hid ((l.map B).length = n * 1) := by show _ = _; simp [hn]
  have HC : Hid (∀ j u, (l.map B)[j]? = some u → (w.alloc (Obj.cells #[] 5)).cell? ((⟨g, o, none⟩ : Addr).add j) = some u) := fun j u hu => by
    rw [addr_add]; exact cell_later (Below.refl _ _ |>.alloc (Nat.le_refl _) _) (hc j u hu)
  have HL : Hid (0 + n ≤ maxLen) := by show _ ≤ _; unfold maxLen; omega
  have HB : Hid ((0 + n) * 1 ≤ 140737488355328) := by show _ ≤ _; omega
  have HF : Hid (∀ v' w1, w1.ownsRow w.heap.size 5 1 v' (0 + n) ([] ++ l.map B) → (w.alloc (Obj.cells #[] 5)).grownBy w1 (some w.heap.size) → ∃ v, Ending.returned v' = Ending.returned v ∧ w1.ownsRow w.heap.size 5 1 v n (l.map B) ∧ Below w.heap.size w w1) := fun v' w1 h1 h2 =>
    ⟨v', rfl, by simpa using h1, ((Below.refl _ _).alloc (Nat.le_refl _) _).grown h2 (by simp) (fun k hk => by injection hk with hk; omega)⟩
  clear hn hc hm
  go_wp2_with (at_builtin; refine wpList_append_own_at _ rfl (.tmp 5) (.tmp 6) _ rfl w.heap.size 5 i0 _ 1 1 Tryz.underlying48 hi hz0 hz1 hz2 rfl (by omega) _ 0 [] rfl OW.out ⟨g, o, none⟩ n c (l.map B) rfl HN.out HC.out (B_one l) HL.out HB.out (by simp) ?_; intro v' w1 h1 h2 _ _; have F := HF.out v' w1 h1 h2; clear h1 h2)
  go_ret
  exact F

theorem zeroCells_one (z : Value) (n : Nat) : Builtin.zeroCells #[z] n = (List.replicate n z).toArray := by
  apply Array.ext
  · simp [Builtin.zeroCells]
  · intro i h1 h2
    simp [Builtin.zeroCells, Nat.mod_one]

/-- append(v, make([]byte, k)...), onto bytes of one's own -/
theorem run_append_zeros_own (w : World) (ty : TypeId) (v : Value) (l : Bts) (hown : OwnB w v l) (k : Nat) (hk : 0 < k) (h63 : l.length + k ≤ 4194304 * 4) :
    ∃ v' w', (Builtin.append_ #[48, 3] ty #[v, I k]).run Tryz.prog w = .ok v' w' ∧ OwnB w' v' (l ++ List.replicate k 0) ∧ w.grownBy w' v.ownBlock ∧ (v'.ownBlock = v.ownBlock ∨ v'.ownBlock = some w.heap.size) := by
  obtain ⟨i, hi, hz, hsize, hby⟩ := info_parts infoU8
  have ht := Tryz.underlying48
  have htn := Tryz.underlying3
  have hzs : (Value.int .u8 0).cells = #[.int .u8 0] := rfl
  have hlen : (l ++ List.replicate k (0 : UInt8)).length = l.length + k := by simp
  have hmap : (l ++ List.replicate k (0 : UInt8)).map B = l.map B ++ List.replicate k (.int .u8 0) := by simp [B]
  have hzc : ∀ m, Builtin.zeroCells (Value.int .u8 0).cells m = (List.replicate m (Value.int .u8 0)).toArray := fun m => by rw [hzs, zeroCells_one]
  have grown : ∀ (old : Nat), old < l.length + k → ∀ (row : Option Nat),
      OwnB (w.drew.alloc (.cells ((l.map B).toArray ++ Builtin.zeroCells (Value.int .u8 0).cells k ++ Builtin.zeroCells (Value.int .u8 0).cells (grownCap w (l.length + k) old 5 - (l.length + k))) 5))
        (.slice (some ⟨w.heap.size, 0, none⟩) (l.length + k) (grownCap w (l.length + k) old 5)) (l ++ List.replicate k 0) ∧
      w.grownBy (w.drew.alloc (.cells ((l.map B).toArray ++ Builtin.zeroCells (Value.int .u8 0).cells k ++ Builtin.zeroCells (Value.int .u8 0).cells (grownCap w (l.length + k) old 5 - (l.length + k))) 5)) row := by
    intro old ho row
    have hge := grownCap_ge w (l.length + k) old 5
    have hcm : grownCap w (l.length + k) old 5 ≤ maxLen := grownCap_le_maxLen w (l.length + k) old 5 (by unfold maxLen; omega)
    refine ⟨.inr ⟨w.heap.size, _, _, by rw [hlen], heap_alloc_new w.drew _, by rw [hlen]; exact hge, ?_, hcm, ?_⟩, ⟨rfl, rfl, rfl, by simp, fun q hq _ => Below.heap_alloc w.drew _ q hq⟩⟩
    · simp only [Array.size_append, List.size_toArray, hzc, List.length_replicate, List.length_map]
      omega
    · simp only [hzc, Array.toList_append]
      rw [hmap, hlen]
      exact List.take_left' (by simp)
  rcases hown with ⟨rfl, rfl⟩ | ⟨g, cap, cur, rfl, hg, hnc, hcs, hcm, htake⟩
  · have hr := Lib.run_append_nil_zeros (P := Tryz.prog) w 48 3 ty 5 i (.int .u8 0) .i64 .i64 ht htn hi hz k hk (by omega) (by omega) (by rw [hby]; omega)
    have hgr := grown 0 (by simp; omega) (Value.ownBlock (.slice none 0 0))
    simp only [List.length_nil, Nat.zero_add, List.map_nil, List.nil_append, Array.empty_append] at hgr ⊢
    exact ⟨_, _, hr, hgr.1, hgr.2, Or.inr rfl⟩
  · have holds : ∀ j u, (l.map B)[j]? = some u → w.cell? ((⟨g, 0, none⟩ : Addr).add j) = some u := fun j u hu => by
      rw [addr_add, Nat.zero_add]
      exact OwnB.cells (n := l.length) (c := cap) (.inr ⟨g, cap, cur, rfl, hg, hnc, hcs, hcm, htake⟩) j u hu
    by_cases hroom : l.length + k ≤ cap
    · have hst := run_storeCells_at Tryz.prog g l.length 5 (List.replicate k (Value.int .u8 0)) 0 cur w hg (by simp; omega) (fun u hu => by rw [List.eq_of_mem_replicate hu]; rfl)
      simp only [Nat.add_zero] at hst
      have hw : IntKind.i64.wrap (k : Int) = k := by rw [IntKind.wrap_i64]; omega
      have hneg : ¬ ((k : Int) < 0) := by omega
      have h48i : ¬ (281474976710656 < (k : Int)) := by omega
      have hk0 : ¬ k = 0 := by omega
      have hr : (Builtin.append_ #[48, 3] ty #[.slice (some ⟨g, 0, none⟩) l.length cap, I k]).run Tryz.prog w = .ok (.slice (some ⟨g, 0, none⟩) (l.length + k) cap) (w.setRow g (cur.toList.take l.length ++ List.replicate k (Value.int .u8 0) ++ cur.toList.drop (l.length + (List.replicate k (Value.int .u8 0)).length)).toArray) := by
        simp [Builtin.append_, run_underlying ht, run_underlying htn, sizeOf, typeInfo, zeroValue, hi, hz, asInt, asIntOf, hw, hneg, hk0, h48i, hsize, hby, hroom, Addr.add_lit, hzc]
        simp at hst
        rw [hst]
        rfl
      refine ⟨_, _, hr, .inr ⟨g, cap, _, by rw [hlen], setRow_heap w g cur _ _ _ hg, by rw [hlen]; exact hroom, ?_, hcm, ?_⟩, ⟨rfl, rfl, rfl, by simp, fun q _ hq => setRow_other w g q _ (fun e => hq (by simp [Value.ownBlock, e]))⟩, Or.inl rfl⟩
      · simp only [List.size_toArray, List.length_append, List.length_take, List.length_drop, Array.length_toList, List.length_replicate]
        omega
      · rw [hmap, hlen, htake]
        exact List.take_left' (by simp)
    · have hr := Lib.run_append_grow_zeros (P := Tryz.prog) w 48 3 ty 5 i (.int .u8 0) .i64 .i64 ht htn hi hz (some ⟨g, 0, none⟩) l.length cap (l.map B)
        (run_firstCells_some (P := Tryz.prog) w.drew i.size l.length ⟨g, 0, none⟩ l.length cap (l.map B) (by rw [hsize]; simp) holds) k hk (by omega) (by omega) (by omega) (by rw [hby]; omega) (by
            have := nextslicecap_le (need := l.length + k) (old := cap) (by omega)
            rw [hby]; omega)
      have hgr := grown cap (by omega) (Value.ownBlock (.slice (some ⟨g, 0, none⟩) l.length cap))
      exact ⟨_, _, hr, hgr.1, hgr.2, Or.inr rfl⟩

/-- bytes of a length, with noughts behind -/
def longerM (l : Bts) (m : Nat) : Bts := l ++ List.replicate (m - l.length) 0
theorem length_longerM (l : Bts) (m : Nat) : (longerM l m).length = max l.length m := by simp [longerM]; omega

set_option maxHeartbeats 400000 in
theorem longer_any (w : World) (v : Value) (l : Bts) (m : Nat) (hown : OwnB w v l) (hl : l.length ≤ 4194304) (hm : m ≤ 4194304) :
    Calls Tryz.prog 130 #[v, I m] w fun e w' => ∃ v', e = .returned v' ∧ OwnB w' v' (longerM l m) ∧ w.grownBy w' v.ownBlock ∧ (v'.ownBlock = v.ownBlock ∨ v'.ownBlock = some w.heap.size) := by
  obtain ⟨A, c, rfl, hc⟩ := hown.form
  by_cases h : m ≤ l.length
  · have e : longerM l m = l := by simp [longerM, h]
    rw [e]
    clear e
    generalize hn : l.length = n at *
    have FIN := Lib.hid hown
    clear hown hn
    go_enter Tryz.func130, Tryz.ntmps130
    go_wp2
    go_ret
    exact ⟨_, rfl, FIN.out, World.grownBy.refl _ _, .inl rfl⟩
  · obtain ⟨v', w', hr, h1, h2, h3⟩ := run_append_zeros_own w 48 _ l hown (m - l.length) (by omega) (by omega)
    have FIN : Hid (OwnB w' v' (longerM l m)) := h1
    clear h1 hown
    generalize hn : l.length = n at *
    have hi : ((m - n : Nat) : Int) = (m : Int) - (n : Int) := by omega
    rw [hi] at hr
    have RUN := Lib.hid hr
    have P := Lib.hid (And.intro h2 h3)
    clear hr h2 h3 hn hi
    go_enter Tryz.func130, Tryz.ntmps130
    go_wp2_with (at_builtin; refine Lib.wpList_append_run _ rfl (.tmp 10) (.tmp 14) _ _ rfl _ _ rfl rfl _ _ RUN.out ?_)
    go_ret
    exact ⟨_, rfl, FIN.out, P.out.1, P.out.2⟩
theorem longer_int (w : World) (v : Value) (l : Bts) (m : Nat) (z : Int) (hz : z = (m : Int)) (hown : OwnB w v l) (hl : l.length ≤ 4194304) (hm : m ≤ 4194304) :
    Calls Tryz.prog 130 #[v, I z] w fun e w' => ∃ v', e = .returned v' ∧ OwnB w' v' (longerM l m) ∧ w.grownBy w' v.ownBlock ∧ (v'.ownBlock = v.ownBlock ∨ v'.ownBlock = some w.heap.size) := by
  subst hz; exact longer_any w v l m hown hl hm
theorem OwnB.drewN {w : World} {v : Value} {l : Bts} (h : OwnB w v l) (n : Nat) : OwnB (w.drewN n) v l := h
theorem OwnB.some_form {w : World} {v : Value} {l : Bts} (h : OwnB w v l) (h0 : 0 < l.length) : ∃ g cap cur, v = .slice (some ⟨g, 0, none⟩) l.length cap ∧ Blk w g 5 cur ∧ l.length ≤ cap ∧ cap ≤ cur.size ∧ cap ≤ maxLen ∧ cur.toList.take l.length = l.map B := by
  rcases h with ⟨_, rfl⟩ | h
  · simp at h0
  · exact h

/-- Clone of whatever reads as l -/
theorem clone_sl (w : World) (v : Value) (l : Bts) (h : Sl w v l) (hl : l.length ≤ 4194304) :
    Calls Tryz.prog 67 #[v] w fun e w' => ∃ v', e = .returned v' ∧ OwnB w' v' l ∧ Below w.heap.size w w' ∧ ∀ g, v'.ownBlock = some g → w.heap.size ≤ g := by
  rcases h with ⟨rfl, rfl⟩ | ⟨g, o, c, rfl, _, _, hc⟩
  · refine (clone_nil w).mono ?_
    rintro e w' ⟨rfl, rfl⟩
    exact ⟨_, rfl, .inl ⟨rfl, rfl⟩, Below.refl _ _, fun g hg => by simp [Value.ownBlock] at hg⟩
  · refine (clone_some w g o l.length c l rfl hc hl).mono ?_
    rintro e w' ⟨v', rfl, h1, h2⟩
    exact ⟨v', rfl, OwnB.of_row h1, h2, fun g hg => (World.ownsRow.lt h1 g hg).1⟩
theorem OwnB.sl {w : World} {v : Value} {l : Bts} (h : OwnB w v l) : Sl w v l := by
  rcases h with h | ⟨g, cap, cur, rfl, hb, h1, h2, h3, h4⟩
  · exact .inl h
  · refine .inr ⟨g, 0, cap, rfl, h1, h3, fun j u hu => ?_⟩
    rw [Nat.zero_add]
    exact OwnB.cells (n := l.length) (c := cap) (.inr ⟨g, cap, cur, rfl, hb, h1, h2, h3, h4⟩) j u hu
theorem Sl.drewN {w : World} {v : Value} {l : Bts} (h : Sl w v l) (n : Nat) : Sl (w.drewN n) v l := h
theorem Sl.chg {S : Nat → Prop} {w w' : World} {v : Value} {l : Bts} (h : Sl w v l) (c : Chg S w w') (hn : ∀ g, v.ownBlock = some g → ¬ S g) : Sl w' v l := by
  rcases h with h | ⟨g, o, cap, rfl, h1, h2, hc⟩
  · exact .inl h
  · exact .inr ⟨g, o, cap, rfl, h1, h2, fun j u hu => by
      have := hc j u hu
      rw [c.cell (a := ⟨g, o + j, none⟩) (World.block_lt_of_cell? w _ this) (hn g rfl)]; exact this⟩
theorem Sl.form {w : World} {v : Value} {l : Bts} (h : Sl w v l) : ∃ A c, v = .slice A l.length c ∧ l.length ≤ c := by
  rcases h with ⟨rfl, rfl⟩ | ⟨g, o, cap, rfl, h1, _⟩
  · exact ⟨_, _, rfl, Nat.le_refl _⟩
  · exact ⟨_, _, rfl, h1⟩
end Go.Proofs.YtamhjjagjjdmoaaGreat
end

section
namespace Go.Proofs.YtamhjjagjjdmoaaGreat
open Go.RowKit Go.Maps

/-- what a call on a disk leaves: an answer, the disk, and nothing else that was there has changed -/
def DPost (w : World) (bd : Nat) (G : DG) (v : Value) (M' : DiskM) (e : Ending) (w' : World) : Prop :=
  ∃ G' : DG, e = .returned v ∧ DiskAt w' bd M' G' ∧ Chg G.F w w' ∧ ∀ b, G'.F b → G.F b ∨ w.heap.size ≤ b

def DiskM.tick (M : DiskM) : DiskM := { M with strokes := wrap64 (M.strokes + 1) }
/-- the trouble at a stroke -/
def DiskM.trouble (M : DiskM) (s : Int) : Int := match mfind M.tr (.int .i64 s) with | some (.int _ k) => k | _ => 0
/-- do tells r and M2; safe then M3 -/
def strokeR (M : DiskM) (r : Int) : Int :=
  if M.off then 9 else match M.trouble M.tick.strokes with | 1 => 9 | 2 => 10 | 3 => 9 | _ => r
def strokeM (M M2 M3 : DiskM) (r : Int) : DiskM :=
  if M.off then M.tick else match M.trouble M.tick.strokes with | 1 => M.tick | 2 => M.tick | 3 => { M2 with off := true } | _ => if r = 0 then M3 else M2

theorem wf_wrap64 (n : Int) : (Lit.int .i64 (wrap64 n)).wf = true := by
  unfold wrap64; exact WalkArith.wf_i64 (by omega)

/-- the disk with another number of strokes -/
theorem DiskAt.strokes_ {w : World} {bd : Nat} {M : DiskM} {G : DG} (h : DiskAt w bd M G) (s : Int) :
    DiskAt (w.setCell ⟨bd, 2, none⟩ (I s)) bd { M with strokes := s } G ∧ Chg G.F w (w.setCell ⟨bd, 2, none⟩ (I s)) := by
  have c : Chg G.F w (w.setCell ⟨bd, 2, none⟩ (I s)) := (Chg.refl _ _).setCell (.inl (DG.F_of h.obd)) _
  refine ⟨?_, c⟩
  have k : Chg (fun b => b = bd) w (w.setCell ⟨bd, 2, none⟩ (I s)) := Chg.setCell (S := fun b => b = bd) (Chg.refl _ _) (.inl rfl) _
  have ne : ∀ b r, G.own b = some r → r ≠ Role.disk → ¬ b = bd := fun b r hb hr e => by rw [e, h.obd] at hb; injection hb with hb; exact hr hb.symm
  refine { h with disk := ?_, fm := h.fm.chg k (ne _ _ h.obf (by simp)), tm := h.tm.chg k (ne _ _ h.obt (by simp)), file := ?_, olt := fun b hb => by simpa [World.setCell] using h.olt b hb }
  · have := h.disk.set_ 2 (I s)
    simpa using this
  · intro m hm
    obtain ⟨h1, h2, h3⟩ := h.file m hm
    exact ⟨h1.chg k (ne _ _ (h.obx m hm) (by simp)), h2.chg k (fun g hg => ne _ _ (h.ovs m hm g hg) (by simp)), h3.chg k (fun g hg => ne _ _ (h.ovn m hm g hg) (by simp))⟩

theorem DiskAt.drewN {w : World} {bd : Nat} {M : DiskM} {G : DG} (h : DiskAt w bd M G) (n : Nat) : DiskAt (w.drewN n) bd M G := h.chg ((Chg.refl Non w).drewN n) (fun _ _ => id)
theorem DiskAt.trouble_ {w : World} {bd : Nat} {M : DiskM} {G : DG} (h : DiskAt w bd M G) (hI : ∀ kl v, mfind M.tr kl = some v → ∃ k, v = I k) (s : Int) (hs : (Lit.int .i64 s).wf = true) :
    (Instr.lookup 125 (.map (some G.bt)) (I s) false).run Tryz.prog w = .ok (I (M.trouble s)) w := by
  rw [h.tm.look keyI Tryz.underlying125 (zeroInt w) (keyOf_int_mk Tryz.underlying3 hs)]
  unfold DiskM.trouble
  cases hf : mfind M.tr (.int .i64 s) with
  | none => rfl
  | some v => obtain ⟨k, rfl⟩ := hI _ _ hf; rfl

theorem DiskAt.tick_ {w : World} {bd : Nat} {M : DiskM} {G : DG} (h : DiskAt w bd M G) : DiskAt (w.setCell ⟨bd, 2, none⟩ (I (wrap64 (M.strokes + 1)))) bd M.tick G ∧ Chg G.F w (w.setCell ⟨bd, 2, none⟩ (I (wrap64 (M.strokes + 1)))) := h.strokes_ _
theorem DiskAt.troubleTick {w : World} {bd : Nat} {M : DiskM} {G : DG} (h : DiskAt w bd M.tick G) (hI : ∀ kl v, mfind M.tr kl = some v → ∃ k, v = I k) :
    (Instr.lookup 125 (.map (some G.bt)) (I (wrap64 (M.strokes + 1))) false).run Tryz.prog w = .ok (I (M.trouble M.tick.strokes)) w :=
  h.trouble_ hI (wrap64 (M.strokes + 1)) (wf_wrap64 _)

set_option maxHeartbeats 400000 in
theorem stroke_off (w : World) (bd : Nat) (M : DiskM) (G : DG) (h : DiskAt w bd M G) (do_ safe : Value) (ho : M.off = true) :
    Calls Tryz.prog 165 #[ptr bd, do_, safe] w (DPost w bd G (I 9) M.tick) := by
  have c2 : w.cell? ⟨bd, 2, none⟩ = some (I M.strokes) := h.disk.cell 2
  have c3 : w.cell? ⟨bd, 3, none⟩ = some (.bool M.off) := h.disk.cell 3
  rw [ho] at c3
  have f2 : w.frozen? ⟨bd, 2, none⟩ = false := h.disk.frozen 2
  have D := Lib.hid h
  clear h ho
  go_enter Tryz.func165, Tryz.ntmps165
  go_wp2
  go_ret
  obtain ⟨d1, c1⟩ := DiskAt.strokes_ D.out (wrap64 (M.strokes + 1))
  exact ⟨G, rfl, d1, c1, fun b hb => .inl hb⟩

set_option maxHeartbeats 400000 in
theorem stroke_bad (w : World) (bd : Nat) (M : DiskM) (G : DG) (h : DiskAt w bd M G) (hI : ∀ kl v, mfind M.tr kl = some v → ∃ k, v = I k) (do_ safe : Value) (ho : M.off = false) (k : Int) (hk : M.trouble M.tick.strokes = k) (h12 : k = 1 ∨ k = 2) :
    Calls Tryz.prog 165 #[ptr bd, do_, safe] w (DPost w bd G (I (if k = 1 then 9 else 10)) M.tick) := by
  have c2 : w.cell? ⟨bd, 2, none⟩ = some (I M.strokes) := h.disk.cell 2
  have c3 : w.cell? ⟨bd, 3, none⟩ = some (.bool M.off) := h.disk.cell 3
  have c1 : w.cell? ⟨bd, 1, none⟩ = some (.map (some G.bt)) := h.disk.cell 1
  rw [ho] at c3
  have f2 : w.frozen? ⟨bd, 2, none⟩ = false := h.disk.frozen 2
  have hl : ∀ n, (Instr.lookup 125 (.map (some G.bt)) (I (wrap64 (M.strokes + 1))) false).run Tryz.prog ((w.setCell ⟨bd, 2, none⟩ (I (wrap64 (M.strokes + 1)))).drewN n) = .ok (I k) ((w.setCell ⟨bd, 2, none⟩ (I (wrap64 (M.strokes + 1)))).drewN n) := fun n => by
    have := (h.tick_.1.drewN n).troubleTick hI
    rwa [hk] at this
  have D := Lib.hid h
  clear h ho hk hI
  rcases h12 with rfl | rfl
  all_goals
    go_enter Tryz.func165, Tryz.ntmps165
    go_wp2_with fail
    go_quiet (fail)
    go_wp2_with fail
    go_ret
    obtain ⟨d1, c1⟩ := DiskAt.strokes_ D.out (wrap64 (M.strokes + 1))
    exact ⟨G, rfl, d1.drewN _, c1.drewN _, fun b hb => .inl hb⟩

def SPre (w : World) (bd : Nat) (G : DG) (M1 : DiskM) (w1 : World) : Prop := DiskAt w1 bd M1 G ∧ Chg G.F w w1

theorem DiskAt.off_ {w : World} {bd : Nat} {M : DiskM} {G : DG} (h : DiskAt w bd M G) :
    DiskAt (w.setCell ⟨bd, 3, none⟩ (.bool true)) bd { M with off := true } G ∧ Chg G.F w (w.setCell ⟨bd, 3, none⟩ (.bool true)) := by
  have c : Chg G.F w (w.setCell ⟨bd, 3, none⟩ (.bool true)) := (Chg.refl _ _).setCell (.inl (DG.F_of h.obd)) _
  refine ⟨?_, c⟩
  have k : Chg (fun b => b = bd) w (w.setCell ⟨bd, 3, none⟩ (.bool true)) := Chg.setCell (S := fun b => b = bd) (Chg.refl _ _) (.inl rfl) _
  have ne : ∀ b r, G.own b = some r → r ≠ Role.disk → ¬ b = bd := fun b r hb hr e => by rw [e, h.obd] at hb; injection hb with hb; exact hr hb.symm
  refine { h with disk := ?_, fm := h.fm.chg k (ne _ _ h.obf (by simp)), tm := h.tm.chg k (ne _ _ h.obt (by simp)), file := ?_, olt := fun b hb => by simpa [World.setCell] using h.olt b hb }
  · have := h.disk.set_ 3 (.bool true)
    simpa using this
  · intro m hm
    obtain ⟨h1, h2, h3⟩ := h.file m hm
    exact ⟨h1.chg k (ne _ _ (h.obx m hm) (by simp)), h2.chg k (fun g hg => ne _ _ (h.ovs m hm g hg) (by simp)), h3.chg k (fun g hg => ne _ _ (h.ovn m hm g hg) (by simp))⟩

set_option maxHeartbeats 400000 in
/-- no trouble, do fails -/
theorem stroke_bad_Write (w : World) (bd : Nat) (M M2 : DiskM) (G : DG) (h : DiskAt w bd M G) (hI : ∀ kl v, mfind M.tr kl = some v → ∃ k, v = I k) (cd : Array Value) (safe : Value) (ho : M.off = false) (hk : M.trouble M.tick.strokes = 0)
    (r : Int) (hr : (r == 0) = false) (hdo : ∀ w1, SPre w bd G M.tick w1 → Calls Tryz.prog 202 cd w1 (DPost w1 bd G (I r) M2)) :
    Calls Tryz.prog 165 #[ptr bd, .func (.func 202) #[] cd, safe] w (DPost w bd G (I r) M2) := by
  have c2 : w.cell? ⟨bd, 2, none⟩ = some (I M.strokes) := h.disk.cell 2
  have c3 : w.cell? ⟨bd, 3, none⟩ = some (.bool M.off) := h.disk.cell 3
  have c1 : w.cell? ⟨bd, 1, none⟩ = some (.map (some G.bt)) := h.disk.cell 1
  rw [ho] at c3
  have f2 : w.frozen? ⟨bd, 2, none⟩ = false := h.disk.frozen 2
  have hl : ∀ n, (Instr.lookup 125 (.map (some G.bt)) (I (wrap64 (M.strokes + 1))) false).run Tryz.prog ((w.setCell ⟨bd, 2, none⟩ (I (wrap64 (M.strokes + 1)))).drewN n) = .ok (I 0) ((w.setCell ⟨bd, 2, none⟩ (I (wrap64 (M.strokes + 1)))).drewN n) := fun n => by
    have := (h.tick_.1.drewN n).troubleTick hI
    rwa [hk] at this
  have D := Lib.hid h
  have HD := Lib.hid hdo
  clear h ho hk hI hdo
  go_enter Tryz.func165, Tryz.ntmps165
  go_wp2_with fail
  go_quiet (fail)
  go_wp2_with fail
  refine (HD.out _ ⟨D.out.tick_.1.drewN _, D.out.tick_.2.drewN _⟩).mono ?_
  rintro e w2 ⟨G2, rfl, d2, g2, f2⟩
  have FIN : Hid (DPost w bd G (I r) M2 (.returned (I r)) w2) := by
    have hc := D.out.tick_.2
    refine ⟨G2, rfl, d2, (hc.drewN _).tr g2, fun b hb => (f2 b hb).imp id fun hh => by simpa [World.setCell] using hh⟩
  clear d2 g2 f2 HD D
  go_wp2_with fail
  go_ret
  exact FIN.out

set_option maxHeartbeats 400000 in
/-- no trouble, do goes well, safe follows -/
theorem stroke_ok_Write (w : World) (bd : Nat) (M M2 M3 : DiskM) (G : DG) (h : DiskAt w bd M G) (hI : ∀ kl v, mfind M.tr kl = some v → ∃ k, v = I k) (cd cs : Array Value) (ho : M.off = false) (hk : M.trouble M.tick.strokes = 0)
    (hdo : ∀ w1, SPre w bd G M.tick w1 → Calls Tryz.prog 202 cd w1 (DPost w1 bd G (I 0) M2))
    (hsafe : ∀ w1 G1, DiskAt w1 bd M2 G1 → Chg G.F w w1 → (∀ b, G1.F b → G.F b ∨ w.heap.size ≤ b) → Calls Tryz.prog 178 cs w1 (DPost w1 bd G1 (.tuple #[]) M3)) :
    Calls Tryz.prog 165 #[ptr bd, .func (.func 202) #[] cd, .func (.func 178) #[] cs] w (DPost w bd G (I 0) M3) := by
  have c2 : w.cell? ⟨bd, 2, none⟩ = some (I M.strokes) := h.disk.cell 2
  have c3 : w.cell? ⟨bd, 3, none⟩ = some (.bool M.off) := h.disk.cell 3
  have c1 : w.cell? ⟨bd, 1, none⟩ = some (.map (some G.bt)) := h.disk.cell 1
  rw [ho] at c3
  have f2 : w.frozen? ⟨bd, 2, none⟩ = false := h.disk.frozen 2
  have hl : ∀ n, (Instr.lookup 125 (.map (some G.bt)) (I (wrap64 (M.strokes + 1))) false).run Tryz.prog ((w.setCell ⟨bd, 2, none⟩ (I (wrap64 (M.strokes + 1)))).drewN n) = .ok (I 0) ((w.setCell ⟨bd, 2, none⟩ (I (wrap64 (M.strokes + 1)))).drewN n) := fun n => by
    have := (h.tick_.1.drewN n).troubleTick hI
    rwa [hk] at this
  have D := Lib.hid h
  have HD := Lib.hid hdo
  have HS := Lib.hid hsafe
  clear h ho hk hI hdo hsafe
  go_enter Tryz.func165, Tryz.ntmps165
  go_wp2_with fail
  go_quiet (fail)
  go_wp2_with fail
  refine (HD.out _ ⟨D.out.tick_.1.drewN _, D.out.tick_.2.drewN _⟩).mono ?_
  rintro e w2 ⟨G2, rfl, d2, g2, f2⟩
  have hc := D.out.tick_.2
  have C2 : Hid (DiskAt w2 bd M2 G2 ∧ Chg G.F w w2 ∧ ∀ b, G2.F b → G.F b ∨ w.heap.size ≤ b) := ⟨d2, (hc.drewN _).tr g2, fun b hb => (f2 b hb).imp id fun hh => by simpa [World.setCell] using hh⟩
  clear hc d2 g2 f2 HD D
  go_wp2_with fail
  refine (HS.out _ _ C2.out.1 C2.out.2.1 C2.out.2.2).mono ?_
  rintro e w3 ⟨G3, rfl, d3, g3, f3⟩
  have FIN : Hid (DPost w bd G (I 0) M3 (.returned (I 0)) w3) := by
    obtain ⟨_, g2, f2⟩ := C2.out
    refine ⟨G3, rfl, d3, g2.trans g3 f2, fun b hb => ?_⟩
    rcases f3 b hb with h1 | h1
    · exact f2 b h1
    · exact .inr (Nat.le_trans g2.size h1)
  clear d3 g3 f3 C2 HS
  go_wp2_with fail
  go_ret
  exact FIN.out
set_option maxHeartbeats 400000 in
/-- the power goes off at it -/
theorem stroke_offs_Write (w : World) (bd : Nat) (M M2 : DiskM) (G : DG) (h : DiskAt w bd M G) (hI : ∀ kl v, mfind M.tr kl = some v → ∃ k, v = I k) (cd : Array Value) (safe : Value) (ho : M.off = false) (hk : M.trouble M.tick.strokes = 3)
    (r : Int) (hdo : ∀ w1, SPre w bd G M.tick w1 → Calls Tryz.prog 202 cd w1 (DPost w1 bd G (I r) M2)) :
    Calls Tryz.prog 165 #[ptr bd, .func (.func 202) #[] cd, safe] w (DPost w bd G (I 9) { M2 with off := true }) := by
  have c2 : w.cell? ⟨bd, 2, none⟩ = some (I M.strokes) := h.disk.cell 2
  have c3 : w.cell? ⟨bd, 3, none⟩ = some (.bool M.off) := h.disk.cell 3
  have c1 : w.cell? ⟨bd, 1, none⟩ = some (.map (some G.bt)) := h.disk.cell 1
  rw [ho] at c3
  have f2 : w.frozen? ⟨bd, 2, none⟩ = false := h.disk.frozen 2
  have hl : ∀ n, (Instr.lookup 125 (.map (some G.bt)) (I (wrap64 (M.strokes + 1))) false).run Tryz.prog ((w.setCell ⟨bd, 2, none⟩ (I (wrap64 (M.strokes + 1)))).drewN n) = .ok (I 3) ((w.setCell ⟨bd, 2, none⟩ (I (wrap64 (M.strokes + 1)))).drewN n) := fun n => by
    have := (h.tick_.1.drewN n).troubleTick hI
    rwa [hk] at this
  have D := Lib.hid h
  have HD := Lib.hid hdo
  clear h ho hk hI hdo
  go_enter Tryz.func165, Tryz.ntmps165
  go_wp2_with fail
  go_quiet (fail)
  go_wp2_with fail
  refine (HD.out _ ⟨D.out.tick_.1.drewN _, D.out.tick_.2.drewN _⟩).mono ?_
  rintro e w2 ⟨G2, rfl, d2, g2, f2⟩
  have c3' : ∃ b, w2.cell? ⟨bd, 3, none⟩ = some (.bool b) := ⟨_, d2.disk.cell 3⟩
  obtain ⟨b3, c3'⟩ := c3'
  have f3' : w2.frozen? ⟨bd, 3, none⟩ = false := d2.disk.frozen 3
  have FIN : Hid (DPost w bd G (I 9) { M2 with off := true } (.returned (I 9)) (w2.setCell ⟨bd, 3, none⟩ (.bool true))) := by
    have hc := D.out.tick_.2
    obtain ⟨d3, g3⟩ := d2.off_
    refine ⟨G2, rfl, d3, ((hc.drewN _).tr g2).trans g3 fun b hb => ?_, fun b hb => (f2 b hb).imp id fun hh => by simpa [World.setCell] using hh⟩
    exact (f2 b hb).imp id fun hh => by simpa [World.setCell] using hh
  clear d2 g2 f2 HD D c1 c2 c3 hl
  go_wp2_with fail
  go_ret
  exact FIN.out
set_option maxHeartbeats 400000 in
/-- no trouble, do fails -/
theorem stroke_bad_Truncate (w : World) (bd : Nat) (M M2 : DiskM) (G : DG) (h : DiskAt w bd M G) (hI : ∀ kl v, mfind M.tr kl = some v → ∃ k, v = I k) (cd : Array Value) (safe : Value) (ho : M.off = false) (hk : M.trouble M.tick.strokes = 0)
    (r : Int) (hr : (r == 0) = false) (hdo : ∀ w1, SPre w bd G M.tick w1 → Calls Tryz.prog 179 cd w1 (DPost w1 bd G (I r) M2)) :
    Calls Tryz.prog 165 #[ptr bd, .func (.func 179) #[] cd, safe] w (DPost w bd G (I r) M2) := by
  have c2 : w.cell? ⟨bd, 2, none⟩ = some (I M.strokes) := h.disk.cell 2
  have c3 : w.cell? ⟨bd, 3, none⟩ = some (.bool M.off) := h.disk.cell 3
  have c1 : w.cell? ⟨bd, 1, none⟩ = some (.map (some G.bt)) := h.disk.cell 1
  rw [ho] at c3
  have f2 : w.frozen? ⟨bd, 2, none⟩ = false := h.disk.frozen 2
  have hl : ∀ n, (Instr.lookup 125 (.map (some G.bt)) (I (wrap64 (M.strokes + 1))) false).run Tryz.prog ((w.setCell ⟨bd, 2, none⟩ (I (wrap64 (M.strokes + 1)))).drewN n) = .ok (I 0) ((w.setCell ⟨bd, 2, none⟩ (I (wrap64 (M.strokes + 1)))).drewN n) := fun n => by
    have := (h.tick_.1.drewN n).troubleTick hI
    rwa [hk] at this
  have D := Lib.hid h
  have HD := Lib.hid hdo
  clear h ho hk hI hdo
  go_enter Tryz.func165, Tryz.ntmps165
  go_wp2_with fail
  go_quiet (fail)
  go_wp2_with fail
  refine (HD.out _ ⟨D.out.tick_.1.drewN _, D.out.tick_.2.drewN _⟩).mono ?_
  rintro e w2 ⟨G2, rfl, d2, g2, f2⟩
  have FIN : Hid (DPost w bd G (I r) M2 (.returned (I r)) w2) := by
    have hc := D.out.tick_.2
    refine ⟨G2, rfl, d2, (hc.drewN _).tr g2, fun b hb => (f2 b hb).imp id fun hh => by simpa [World.setCell] using hh⟩
  clear d2 g2 f2 HD D
  go_wp2_with fail
  go_ret
  exact FIN.out

set_option maxHeartbeats 400000 in
/-- no trouble, do goes well, safe follows -/
theorem stroke_ok_Truncate (w : World) (bd : Nat) (M M2 M3 : DiskM) (G : DG) (h : DiskAt w bd M G) (hI : ∀ kl v, mfind M.tr kl = some v → ∃ k, v = I k) (cd cs : Array Value) (ho : M.off = false) (hk : M.trouble M.tick.strokes = 0)
    (hdo : ∀ w1, SPre w bd G M.tick w1 → Calls Tryz.prog 179 cd w1 (DPost w1 bd G (I 0) M2))
    (hsafe : ∀ w1 G1, DiskAt w1 bd M2 G1 → Chg G.F w w1 → (∀ b, G1.F b → G.F b ∨ w.heap.size ≤ b) → Calls Tryz.prog 178 cs w1 (DPost w1 bd G1 (.tuple #[]) M3)) :
    Calls Tryz.prog 165 #[ptr bd, .func (.func 179) #[] cd, .func (.func 178) #[] cs] w (DPost w bd G (I 0) M3) := by
  have c2 : w.cell? ⟨bd, 2, none⟩ = some (I M.strokes) := h.disk.cell 2
  have c3 : w.cell? ⟨bd, 3, none⟩ = some (.bool M.off) := h.disk.cell 3
  have c1 : w.cell? ⟨bd, 1, none⟩ = some (.map (some G.bt)) := h.disk.cell 1
  rw [ho] at c3
  have f2 : w.frozen? ⟨bd, 2, none⟩ = false := h.disk.frozen 2
  have hl : ∀ n, (Instr.lookup 125 (.map (some G.bt)) (I (wrap64 (M.strokes + 1))) false).run Tryz.prog ((w.setCell ⟨bd, 2, none⟩ (I (wrap64 (M.strokes + 1)))).drewN n) = .ok (I 0) ((w.setCell ⟨bd, 2, none⟩ (I (wrap64 (M.strokes + 1)))).drewN n) := fun n => by
    have := (h.tick_.1.drewN n).troubleTick hI
    rwa [hk] at this
  have D := Lib.hid h
  have HD := Lib.hid hdo
  have HS := Lib.hid hsafe
  clear h ho hk hI hdo hsafe
  go_enter Tryz.func165, Tryz.ntmps165
  go_wp2_with fail
  go_quiet (fail)
  go_wp2_with fail
  refine (HD.out _ ⟨D.out.tick_.1.drewN _, D.out.tick_.2.drewN _⟩).mono ?_
  rintro e w2 ⟨G2, rfl, d2, g2, f2⟩
  have hc := D.out.tick_.2
  have C2 : Hid (DiskAt w2 bd M2 G2 ∧ Chg G.F w w2 ∧ ∀ b, G2.F b → G.F b ∨ w.heap.size ≤ b) := ⟨d2, (hc.drewN _).tr g2, fun b hb => (f2 b hb).imp id fun hh => by simpa [World.setCell] using hh⟩
  clear hc d2 g2 f2 HD D
  go_wp2_with fail
  refine (HS.out _ _ C2.out.1 C2.out.2.1 C2.out.2.2).mono ?_
  rintro e w3 ⟨G3, rfl, d3, g3, f3⟩
  have FIN : Hid (DPost w bd G (I 0) M3 (.returned (I 0)) w3) := by
    obtain ⟨_, g2, f2⟩ := C2.out
    refine ⟨G3, rfl, d3, g2.trans g3 f2, fun b hb => ?_⟩
    rcases f3 b hb with h1 | h1
    · exact f2 b h1
    · exact .inr (Nat.le_trans g2.size h1)
  clear d3 g3 f3 C2 HS
  go_wp2_with fail
  go_ret
  exact FIN.out
set_option maxHeartbeats 400000 in
/-- the power goes off at it -/
theorem stroke_offs_Truncate (w : World) (bd : Nat) (M M2 : DiskM) (G : DG) (h : DiskAt w bd M G) (hI : ∀ kl v, mfind M.tr kl = some v → ∃ k, v = I k) (cd : Array Value) (safe : Value) (ho : M.off = false) (hk : M.trouble M.tick.strokes = 3)
    (r : Int) (hdo : ∀ w1, SPre w bd G M.tick w1 → Calls Tryz.prog 179 cd w1 (DPost w1 bd G (I r) M2)) :
    Calls Tryz.prog 165 #[ptr bd, .func (.func 179) #[] cd, safe] w (DPost w bd G (I 9) { M2 with off := true }) := by
  have c2 : w.cell? ⟨bd, 2, none⟩ = some (I M.strokes) := h.disk.cell 2
  have c3 : w.cell? ⟨bd, 3, none⟩ = some (.bool M.off) := h.disk.cell 3
  have c1 : w.cell? ⟨bd, 1, none⟩ = some (.map (some G.bt)) := h.disk.cell 1
  rw [ho] at c3
  have f2 : w.frozen? ⟨bd, 2, none⟩ = false := h.disk.frozen 2
  have hl : ∀ n, (Instr.lookup 125 (.map (some G.bt)) (I (wrap64 (M.strokes + 1))) false).run Tryz.prog ((w.setCell ⟨bd, 2, none⟩ (I (wrap64 (M.strokes + 1)))).drewN n) = .ok (I 3) ((w.setCell ⟨bd, 2, none⟩ (I (wrap64 (M.strokes + 1)))).drewN n) := fun n => by
    have := (h.tick_.1.drewN n).troubleTick hI
    rwa [hk] at this
  have D := Lib.hid h
  have HD := Lib.hid hdo
  clear h ho hk hI hdo
  go_enter Tryz.func165, Tryz.ntmps165
  go_wp2_with fail
  go_quiet (fail)
  go_wp2_with fail
  refine (HD.out _ ⟨D.out.tick_.1.drewN _, D.out.tick_.2.drewN _⟩).mono ?_
  rintro e w2 ⟨G2, rfl, d2, g2, f2⟩
  have c3' : ∃ b, w2.cell? ⟨bd, 3, none⟩ = some (.bool b) := ⟨_, d2.disk.cell 3⟩
  obtain ⟨b3, c3'⟩ := c3'
  have f3' : w2.frozen? ⟨bd, 3, none⟩ = false := d2.disk.frozen 3
  have FIN : Hid (DPost w bd G (I 9) { M2 with off := true } (.returned (I 9)) (w2.setCell ⟨bd, 3, none⟩ (.bool true))) := by
    have hc := D.out.tick_.2
    obtain ⟨d3, g3⟩ := d2.off_
    refine ⟨G2, rfl, d3, ((hc.drewN _).tr g2).trans g3 fun b hb => ?_, fun b hb => (f2 b hb).imp id fun hh => by simpa [World.setCell] using hh⟩
    exact (f2 b hb).imp id fun hh => by simpa [World.setCell] using hh
  clear d2 g2 f2 HD D c1 c2 c3 hl
  go_wp2_with fail
  go_ret
  exact FIN.out
set_option maxHeartbeats 400000 in
/-- no trouble, do fails -/
theorem stroke_bad_Sync (w : World) (bd : Nat) (M M2 : DiskM) (G : DG) (h : DiskAt w bd M G) (hI : ∀ kl v, mfind M.tr kl = some v → ∃ k, v = I k) (cd : Array Value) (safe : Value) (ho : M.off = false) (hk : M.trouble M.tick.strokes = 0)
    (r : Int) (hr : (r == 0) = false) (hdo : ∀ w1, SPre w bd G M.tick w1 → Calls Tryz.prog 166 cd w1 (DPost w1 bd G (I r) M2)) :
    Calls Tryz.prog 165 #[ptr bd, .func (.func 166) #[] cd, safe] w (DPost w bd G (I r) M2) := by
  have c2 : w.cell? ⟨bd, 2, none⟩ = some (I M.strokes) := h.disk.cell 2
  have c3 : w.cell? ⟨bd, 3, none⟩ = some (.bool M.off) := h.disk.cell 3
  have c1 : w.cell? ⟨bd, 1, none⟩ = some (.map (some G.bt)) := h.disk.cell 1
  rw [ho] at c3
  have f2 : w.frozen? ⟨bd, 2, none⟩ = false := h.disk.frozen 2
  have hl : ∀ n, (Instr.lookup 125 (.map (some G.bt)) (I (wrap64 (M.strokes + 1))) false).run Tryz.prog ((w.setCell ⟨bd, 2, none⟩ (I (wrap64 (M.strokes + 1)))).drewN n) = .ok (I 0) ((w.setCell ⟨bd, 2, none⟩ (I (wrap64 (M.strokes + 1)))).drewN n) := fun n => by
    have := (h.tick_.1.drewN n).troubleTick hI
    rwa [hk] at this
  have D := Lib.hid h
  have HD := Lib.hid hdo
  clear h ho hk hI hdo
  go_enter Tryz.func165, Tryz.ntmps165
  go_wp2_with fail
  go_quiet (fail)
  go_wp2_with fail
  refine (HD.out _ ⟨D.out.tick_.1.drewN _, D.out.tick_.2.drewN _⟩).mono ?_
  rintro e w2 ⟨G2, rfl, d2, g2, f2⟩
  have FIN : Hid (DPost w bd G (I r) M2 (.returned (I r)) w2) := by
    have hc := D.out.tick_.2
    refine ⟨G2, rfl, d2, (hc.drewN _).tr g2, fun b hb => (f2 b hb).imp id fun hh => by simpa [World.setCell] using hh⟩
  clear d2 g2 f2 HD D
  go_wp2_with fail
  go_ret
  exact FIN.out

set_option maxHeartbeats 400000 in
/-- no trouble, do goes well, safe follows -/
theorem stroke_ok_Sync (w : World) (bd : Nat) (M M2 M3 : DiskM) (G : DG) (h : DiskAt w bd M G) (hI : ∀ kl v, mfind M.tr kl = some v → ∃ k, v = I k) (cd cs : Array Value) (ho : M.off = false) (hk : M.trouble M.tick.strokes = 0)
    (hdo : ∀ w1, SPre w bd G M.tick w1 → Calls Tryz.prog 166 cd w1 (DPost w1 bd G (I 0) M2))
    (hsafe : ∀ w1 G1, DiskAt w1 bd M2 G1 → Chg G.F w w1 → (∀ b, G1.F b → G.F b ∨ w.heap.size ≤ b) → Calls Tryz.prog 168 cs w1 (DPost w1 bd G1 (.tuple #[]) M3)) :
    Calls Tryz.prog 165 #[ptr bd, .func (.func 166) #[] cd, .func (.func 168) #[] cs] w (DPost w bd G (I 0) M3) := by
  have c2 : w.cell? ⟨bd, 2, none⟩ = some (I M.strokes) := h.disk.cell 2
  have c3 : w.cell? ⟨bd, 3, none⟩ = some (.bool M.off) := h.disk.cell 3
  have c1 : w.cell? ⟨bd, 1, none⟩ = some (.map (some G.bt)) := h.disk.cell 1
  rw [ho] at c3
  have f2 : w.frozen? ⟨bd, 2, none⟩ = false := h.disk.frozen 2
  have hl : ∀ n, (Instr.lookup 125 (.map (some G.bt)) (I (wrap64 (M.strokes + 1))) false).run Tryz.prog ((w.setCell ⟨bd, 2, none⟩ (I (wrap64 (M.strokes + 1)))).drewN n) = .ok (I 0) ((w.setCell ⟨bd, 2, none⟩ (I (wrap64 (M.strokes + 1)))).drewN n) := fun n => by
    have := (h.tick_.1.drewN n).troubleTick hI
    rwa [hk] at this
  have D := Lib.hid h
  have HD := Lib.hid hdo
  have HS := Lib.hid hsafe
  clear h ho hk hI hdo hsafe
  go_enter Tryz.func165, Tryz.ntmps165
  go_wp2_with fail
  go_quiet (fail)
  go_wp2_with fail
  refine (HD.out _ ⟨D.out.tick_.1.drewN _, D.out.tick_.2.drewN _⟩).mono ?_
  rintro e w2 ⟨G2, rfl, d2, g2, f2⟩
  have hc := D.out.tick_.2
  have C2 : Hid (DiskAt w2 bd M2 G2 ∧ Chg G.F w w2 ∧ ∀ b, G2.F b → G.F b ∨ w.heap.size ≤ b) := ⟨d2, (hc.drewN _).tr g2, fun b hb => (f2 b hb).imp id fun hh => by simpa [World.setCell] using hh⟩
  clear hc d2 g2 f2 HD D
  go_wp2_with fail
  refine (HS.out _ _ C2.out.1 C2.out.2.1 C2.out.2.2).mono ?_
  rintro e w3 ⟨G3, rfl, d3, g3, f3⟩
  have FIN : Hid (DPost w bd G (I 0) M3 (.returned (I 0)) w3) := by
    obtain ⟨_, g2, f2⟩ := C2.out
    refine ⟨G3, rfl, d3, g2.trans g3 f2, fun b hb => ?_⟩
    rcases f3 b hb with h1 | h1
    · exact f2 b h1
    · exact .inr (Nat.le_trans g2.size h1)
  clear d3 g3 f3 C2 HS
  go_wp2_with fail
  go_ret
  exact FIN.out
set_option maxHeartbeats 400000 in
/-- the power goes off at it -/
theorem stroke_offs_Sync (w : World) (bd : Nat) (M M2 : DiskM) (G : DG) (h : DiskAt w bd M G) (hI : ∀ kl v, mfind M.tr kl = some v → ∃ k, v = I k) (cd : Array Value) (safe : Value) (ho : M.off = false) (hk : M.trouble M.tick.strokes = 3)
    (r : Int) (hdo : ∀ w1, SPre w bd G M.tick w1 → Calls Tryz.prog 166 cd w1 (DPost w1 bd G (I r) M2)) :
    Calls Tryz.prog 165 #[ptr bd, .func (.func 166) #[] cd, safe] w (DPost w bd G (I 9) { M2 with off := true }) := by
  have c2 : w.cell? ⟨bd, 2, none⟩ = some (I M.strokes) := h.disk.cell 2
  have c3 : w.cell? ⟨bd, 3, none⟩ = some (.bool M.off) := h.disk.cell 3
  have c1 : w.cell? ⟨bd, 1, none⟩ = some (.map (some G.bt)) := h.disk.cell 1
  rw [ho] at c3
  have f2 : w.frozen? ⟨bd, 2, none⟩ = false := h.disk.frozen 2
  have hl : ∀ n, (Instr.lookup 125 (.map (some G.bt)) (I (wrap64 (M.strokes + 1))) false).run Tryz.prog ((w.setCell ⟨bd, 2, none⟩ (I (wrap64 (M.strokes + 1)))).drewN n) = .ok (I 3) ((w.setCell ⟨bd, 2, none⟩ (I (wrap64 (M.strokes + 1)))).drewN n) := fun n => by
    have := (h.tick_.1.drewN n).troubleTick hI
    rwa [hk] at this
  have D := Lib.hid h
  have HD := Lib.hid hdo
  clear h ho hk hI hdo
  go_enter Tryz.func165, Tryz.ntmps165
  go_wp2_with fail
  go_quiet (fail)
  go_wp2_with fail
  refine (HD.out _ ⟨D.out.tick_.1.drewN _, D.out.tick_.2.drewN _⟩).mono ?_
  rintro e w2 ⟨G2, rfl, d2, g2, f2⟩
  have c3' : ∃ b, w2.cell? ⟨bd, 3, none⟩ = some (.bool b) := ⟨_, d2.disk.cell 3⟩
  obtain ⟨b3, c3'⟩ := c3'
  have f3' : w2.frozen? ⟨bd, 3, none⟩ = false := d2.disk.frozen 3
  have FIN : Hid (DPost w bd G (I 9) { M2 with off := true } (.returned (I 9)) (w2.setCell ⟨bd, 3, none⟩ (.bool true))) := by
    have hc := D.out.tick_.2
    obtain ⟨d3, g3⟩ := d2.off_
    refine ⟨G2, rfl, d3, ((hc.drewN _).tr g2).trans g3 fun b hb => ?_, fun b hb => (f2 b hb).imp id fun hh => by simpa [World.setCell] using hh⟩
    exact (f2 b hb).imp id fun hh => by simpa [World.setCell] using hh
  clear d2 g2 f2 HD D c1 c2 c3 hl
  go_wp2_with fail
  go_ret
  exact FIN.out
set_option maxHeartbeats 400000 in
/-- no trouble, do fails -/
theorem stroke_bad_Delete (w : World) (bd : Nat) (M M2 : DiskM) (G : DG) (h : DiskAt w bd M G) (hI : ∀ kl v, mfind M.tr kl = some v → ∃ k, v = I k) (cd : Array Value) (safe : Value) (ho : M.off = false) (hk : M.trouble M.tick.strokes = 0)
    (r : Int) (hr : (r == 0) = false) (hdo : ∀ w1, SPre w bd G M.tick w1 → Calls Tryz.prog 177 cd w1 (DPost w1 bd G (I r) M2)) :
    Calls Tryz.prog 165 #[ptr bd, .func (.func 177) #[] cd, safe] w (DPost w bd G (I r) M2) := by
  have c2 : w.cell? ⟨bd, 2, none⟩ = some (I M.strokes) := h.disk.cell 2
  have c3 : w.cell? ⟨bd, 3, none⟩ = some (.bool M.off) := h.disk.cell 3
  have c1 : w.cell? ⟨bd, 1, none⟩ = some (.map (some G.bt)) := h.disk.cell 1
  rw [ho] at c3
  have f2 : w.frozen? ⟨bd, 2, none⟩ = false := h.disk.frozen 2
  have hl : ∀ n, (Instr.lookup 125 (.map (some G.bt)) (I (wrap64 (M.strokes + 1))) false).run Tryz.prog ((w.setCell ⟨bd, 2, none⟩ (I (wrap64 (M.strokes + 1)))).drewN n) = .ok (I 0) ((w.setCell ⟨bd, 2, none⟩ (I (wrap64 (M.strokes + 1)))).drewN n) := fun n => by
    have := (h.tick_.1.drewN n).troubleTick hI
    rwa [hk] at this
  have D := Lib.hid h
  have HD := Lib.hid hdo
  clear h ho hk hI hdo
  go_enter Tryz.func165, Tryz.ntmps165
  go_wp2_with fail
  go_quiet (fail)
  go_wp2_with fail
  refine (HD.out _ ⟨D.out.tick_.1.drewN _, D.out.tick_.2.drewN _⟩).mono ?_
  rintro e w2 ⟨G2, rfl, d2, g2, f2⟩
  have FIN : Hid (DPost w bd G (I r) M2 (.returned (I r)) w2) := by
    have hc := D.out.tick_.2
    refine ⟨G2, rfl, d2, (hc.drewN _).tr g2, fun b hb => (f2 b hb).imp id fun hh => by simpa [World.setCell] using hh⟩
  clear d2 g2 f2 HD D
  go_wp2_with fail
  go_ret
  exact FIN.out

set_option maxHeartbeats 400000 in
/-- no trouble, do goes well, safe follows -/
theorem stroke_ok_Delete (w : World) (bd : Nat) (M M2 M3 : DiskM) (G : DG) (h : DiskAt w bd M G) (hI : ∀ kl v, mfind M.tr kl = some v → ∃ k, v = I k) (cd cs : Array Value) (ho : M.off = false) (hk : M.trouble M.tick.strokes = 0)
    (hdo : ∀ w1, SPre w bd G M.tick w1 → Calls Tryz.prog 177 cd w1 (DPost w1 bd G (I 0) M2))
    (hsafe : ∀ w1 G1, DiskAt w1 bd M2 G1 → Chg G.F w w1 → (∀ b, G1.F b → G.F b ∨ w.heap.size ≤ b) → Calls Tryz.prog 178 cs w1 (DPost w1 bd G1 (.tuple #[]) M3)) :
    Calls Tryz.prog 165 #[ptr bd, .func (.func 177) #[] cd, .func (.func 178) #[] cs] w (DPost w bd G (I 0) M3) := by
  have c2 : w.cell? ⟨bd, 2, none⟩ = some (I M.strokes) := h.disk.cell 2
  have c3 : w.cell? ⟨bd, 3, none⟩ = some (.bool M.off) := h.disk.cell 3
  have c1 : w.cell? ⟨bd, 1, none⟩ = some (.map (some G.bt)) := h.disk.cell 1
  rw [ho] at c3
  have f2 : w.frozen? ⟨bd, 2, none⟩ = false := h.disk.frozen 2
  have hl : ∀ n, (Instr.lookup 125 (.map (some G.bt)) (I (wrap64 (M.strokes + 1))) false).run Tryz.prog ((w.setCell ⟨bd, 2, none⟩ (I (wrap64 (M.strokes + 1)))).drewN n) = .ok (I 0) ((w.setCell ⟨bd, 2, none⟩ (I (wrap64 (M.strokes + 1)))).drewN n) := fun n => by
    have := (h.tick_.1.drewN n).troubleTick hI
    rwa [hk] at this
  have D := Lib.hid h
  have HD := Lib.hid hdo
  have HS := Lib.hid hsafe
  clear h ho hk hI hdo hsafe
  go_enter Tryz.func165, Tryz.ntmps165
  go_wp2_with fail
  go_quiet (fail)
  go_wp2_with fail
  refine (HD.out _ ⟨D.out.tick_.1.drewN _, D.out.tick_.2.drewN _⟩).mono ?_
  rintro e w2 ⟨G2, rfl, d2, g2, f2⟩
  have hc := D.out.tick_.2
  have C2 : Hid (DiskAt w2 bd M2 G2 ∧ Chg G.F w w2 ∧ ∀ b, G2.F b → G.F b ∨ w.heap.size ≤ b) := ⟨d2, (hc.drewN _).tr g2, fun b hb => (f2 b hb).imp id fun hh => by simpa [World.setCell] using hh⟩
  clear hc d2 g2 f2 HD D
  go_wp2_with fail
  refine (HS.out _ _ C2.out.1 C2.out.2.1 C2.out.2.2).mono ?_
  rintro e w3 ⟨G3, rfl, d3, g3, f3⟩
  have FIN : Hid (DPost w bd G (I 0) M3 (.returned (I 0)) w3) := by
    obtain ⟨_, g2, f2⟩ := C2.out
    refine ⟨G3, rfl, d3, g2.trans g3 f2, fun b hb => ?_⟩
    rcases f3 b hb with h1 | h1
    · exact f2 b h1
    · exact .inr (Nat.le_trans g2.size h1)
  clear d3 g3 f3 C2 HS
  go_wp2_with fail
  go_ret
  exact FIN.out
set_option maxHeartbeats 400000 in
/-- the power goes off at it -/
theorem stroke_offs_Delete (w : World) (bd : Nat) (M M2 : DiskM) (G : DG) (h : DiskAt w bd M G) (hI : ∀ kl v, mfind M.tr kl = some v → ∃ k, v = I k) (cd : Array Value) (safe : Value) (ho : M.off = false) (hk : M.trouble M.tick.strokes = 3)
    (r : Int) (hdo : ∀ w1, SPre w bd G M.tick w1 → Calls Tryz.prog 177 cd w1 (DPost w1 bd G (I r) M2)) :
    Calls Tryz.prog 165 #[ptr bd, .func (.func 177) #[] cd, safe] w (DPost w bd G (I 9) { M2 with off := true }) := by
  have c2 : w.cell? ⟨bd, 2, none⟩ = some (I M.strokes) := h.disk.cell 2
  have c3 : w.cell? ⟨bd, 3, none⟩ = some (.bool M.off) := h.disk.cell 3
  have c1 : w.cell? ⟨bd, 1, none⟩ = some (.map (some G.bt)) := h.disk.cell 1
  rw [ho] at c3
  have f2 : w.frozen? ⟨bd, 2, none⟩ = false := h.disk.frozen 2
  have hl : ∀ n, (Instr.lookup 125 (.map (some G.bt)) (I (wrap64 (M.strokes + 1))) false).run Tryz.prog ((w.setCell ⟨bd, 2, none⟩ (I (wrap64 (M.strokes + 1)))).drewN n) = .ok (I 3) ((w.setCell ⟨bd, 2, none⟩ (I (wrap64 (M.strokes + 1)))).drewN n) := fun n => by
    have := (h.tick_.1.drewN n).troubleTick hI
    rwa [hk] at this
  have D := Lib.hid h
  have HD := Lib.hid hdo
  clear h ho hk hI hdo
  go_enter Tryz.func165, Tryz.ntmps165
  go_wp2_with fail
  go_quiet (fail)
  go_wp2_with fail
  refine (HD.out _ ⟨D.out.tick_.1.drewN _, D.out.tick_.2.drewN _⟩).mono ?_
  rintro e w2 ⟨G2, rfl, d2, g2, f2⟩
  have c3' : ∃ b, w2.cell? ⟨bd, 3, none⟩ = some (.bool b) := ⟨_, d2.disk.cell 3⟩
  obtain ⟨b3, c3'⟩ := c3'
  have f3' : w2.frozen? ⟨bd, 3, none⟩ = false := d2.disk.frozen 3
  have FIN : Hid (DPost w bd G (I 9) { M2 with off := true } (.returned (I 9)) (w2.setCell ⟨bd, 3, none⟩ (.bool true))) := by
    have hc := D.out.tick_.2
    obtain ⟨d3, g3⟩ := d2.off_
    refine ⟨G2, rfl, d3, ((hc.drewN _).tr g2).trans g3 fun b hb => ?_, fun b hb => (f2 b hb).imp id fun hh => by simpa [World.setCell] using hh⟩
    exact (f2 b hb).imp id fun hh => by simpa [World.setCell] using hh
  clear d2 g2 f2 HD D c1 c2 c3 hl
  go_wp2_with fail
  go_ret
  exact FIN.out
end Go.Proofs.YtamhjjagjjdmoaaGreat
end

section
namespace Go.Proofs.YtamhjjagjjdmoaaGreat
open Go.RowKit Go.Maps

def upd {α β : Type} [DecidableEq α] (f : α → β) (a : α) (b : β) : α → β := fun x => if x = a then b else f x
theorem upd_same {α β : Type} [DecidableEq α] (f : α → β) (a : α) (b : β) : upd f a b a = b := by simp [upd]
theorem upd_other {α β : Type} [DecidableEq α] (f : α → β) {a x : α} (b : β) (h : x ≠ a) : upd f a b x = f x := by simp [upd, h]

def nins (n : Bts) : List Bts → List Bts
  | [] => [n]
  | m :: r => if bytesBefore n m then n :: m :: r else m :: nins n r
theorem mem_nins {n m : Bts} {l : List Bts} : m ∈ nins n l ↔ m = n ∨ m ∈ l := by
  induction l with
  | nil => simp [nins]
  | cons a r ih =>
    simp only [nins]
    split
    · simp
    · simp only [List.mem_cons, ih]; constructor <;> rintro (h | h | h) <;> simp [h]
theorem length_nins (n : Bts) (l : List Bts) : (nins n l).length = l.length + 1 := by
  induction l with
  | nil => rfl
  | cons a r ih => simp only [nins]; split <;> simp [ih]
theorem mins_fmap (n : Bts) (v : Bts → Nat) (b : Nat) : ∀ l : List Bts, n ∉ l → mins (Lit.string n, ptr b) (fmapOf l v) = fmapOf (nins n l) (upd v n b)
  | [], _ => by simp [fmapOf, mins, nins, upd]
  | a :: r, h => by
    have ha : a ≠ n := fun e => h (by simp [e])
    have hr : n ∉ r := fun e => h (by simp [e])
    have ih := mins_fmap n v b r hr
    have keep : ∀ l : List Bts, n ∉ l → fmapOf l (upd v n b) = fmapOf l v := fun l hl => by
      unfold fmapOf
      exact List.map_congr_left fun x hx => by
        have hxn : x ≠ n := fun e => hl (by rw [← e]; exact hx)
        rw [upd_other _ _ hxn]
    simp only [fmapOf, List.map_cons, mins, nins, Lit.before] at ih ⊢
    by_cases hbb : bytesBefore n a = true
    · have k1 := keep (a :: r) h
      simp only [fmapOf, List.map_cons] at k1
      simp only [hbb, if_true, List.map_cons, upd_same, k1]
    · simp only [hbb, Bool.false_eq_true, if_false, List.map_cons, upd_other _ _ ha, ih]
theorem mput_fmap (n : Bts) (v : Bts → Nat) (b : Nat) (l : List Bts) (h : n ∉ l) : mput (fmapOf l v) (.string n) (ptr b) = fmapOf (nins n l) (upd v n b) := by
  have e : mdel (fmapOf l v) (.string n) = fmapOf l v := by
    unfold mdel fmapOf
    rw [List.filter_eq_self.2]
    intro p hp
    obtain ⟨x, hx, rfl⟩ := List.mem_map.1 hp
    have : x ≠ n := fun e => h (e ▸ hx)
    simpa [Lit.sameKey] using this
  rw [mput, e]
  exact mins_fmap n v b l h
theorem mdel_fmap (n : Bts) (v : Bts → Nat) (l : List Bts) : mdel (fmapOf l v) (.string n) = fmapOf (l.filter fun m => m != n) v := by
  unfold mdel fmapOf
  rw [List.filter_map]
  congr 1

def DiskM.set (M : DiskM) (n : Bts) (f : FileM) : DiskM := { M with file := upd M.file n f }
def DiskM.new (M : DiskM) (n : Bts) : DiskM := { M with names := nins n M.names, file := upd M.file n ⟨[], []⟩ }
def DiskM.del (M : DiskM) (n : Bts) : DiskM := { M with names := M.names.filter fun m => m != n }

section
variable {w w' : World} {bd : Nat} {M : DiskM} {G : DG}

theorem DiskAt.ne_role (_h : DiskAt w bd M G) {a b : Nat} {r s : Role} (ha : G.own a = some r) (hb : G.own b = some s) (hr : r ≠ s) : a ≠ b := by
  rintro rfl; rw [ha] at hb; injection hb with hb; exact hr hb

theorem DiskAt.setFile (h : DiskAt w bd M G) {n : Bts} (hn : n ∈ M.names) (vs' vn' : Value) (f : FileM)
    (c : Chg (fun b => G.own b = some (.seen n) ∨ G.own b = some (.safe n) ∨ b = G.bx n) w w')
    (hb : Blk w' (G.bx n) 132 #[vs', vn']) (hos : OwnB w' vs' f.safe) (hon : OwnB w' vn' f.seen)
    (hs : ∀ g, vs'.ownBlock = some g → G.own g = some (.safe n) ∨ w.heap.size ≤ g)
    (hv : ∀ g, vn'.ownBlock = some g → G.own g = some (.seen n) ∨ w.heap.size ≤ g)
    (hne : ∀ g, vs'.ownBlock = some g → vn'.ownBlock ≠ some g)
    (hlt : ∀ g, vs'.ownBlock = some g ∨ vn'.ownBlock = some g → g < w'.heap.size)
    (hl : f.safe.length ≤ 4194304 ∧ f.seen.length ≤ 4194304) :
    ∃ G', DiskAt w' bd (M.set n f) G' ∧ Chg G.F w w' ∧ (∀ b, G'.F b → G.F b ∨ w.heap.size ≤ b) ∧ G'.bx = G.bx ∧ G'.vs n = vs' ∧ G'.vn n = vn' := by
  have hbxn := h.obx n hn
  let own' : Nat → Option Role := fun b => if vs'.ownBlock = some b then some (.safe n) else if vn'.ownBlock = some b then some (.seen n) else G.own b
  have keep : ∀ b r, G.own b = some r → r ≠ .safe n → r ≠ .seen n → own' b = some r := by
    intro b r hbr h1 h2
    have hlt := h.olt b (DG.F_of hbr)
    simp only [own']
    rw [if_neg, if_neg]
    · exact hbr
    · intro e
      rcases hv b e with e1 | e1
      · rw [hbr] at e1; injection e1 with e1; exact h2 e1
      · omega
    · intro e
      rcases hs b e with e1 | e1
      · rw [hbr] at e1; injection e1 with e1; exact h1 e1
      · omega
  have same : ∀ b r, G.own b = some r → r ≠ .safe n → r ≠ .seen n → r ≠ .file n → ¬ (G.own b = some (.seen n) ∨ G.own b = some (.safe n) ∨ b = G.bx n) := by
    rintro b r hbr h1 h2 h3 (e | e | e)
    · rw [hbr] at e; injection e with e; exact h2 e
    · rw [hbr] at e; injection e with e; exact h1 e
    · rw [e, hbxn] at hbr; injection hbr with e; exact h3 e.symm
  have cF : Chg G.F w w' := c.mono fun b hbb => by
    rcases hbb with e | e | e
    · exact .inl (DG.F_of e)
    · exact .inl (DG.F_of e)
    · subst e; exact .inl (DG.F_of hbxn)
  refine ⟨{ G with vs := upd G.vs n vs', vn := upd G.vn n vn', own := own' }, ?_, cF, ?_, rfl, upd_same _ _ _, upd_same _ _ _⟩
  · refine { disk := h.disk.chg c (same _ _ h.obd (by simp) (by simp) (by simp)), fm := h.fm.chg c (same _ _ h.obf (by simp) (by simp) (by simp)), tm := h.tm.chg c (same _ _ h.obt (by simp) (by simp) (by simp)),
             obd := keep _ _ h.obd (by simp) (by simp), obf := keep _ _ h.obf (by simp) (by simp), obt := keep _ _ h.obt (by simp) (by simp), file := ?_, obx := ?_, ovs := ?_, ovn := ?_, olt := ?_, lens := ?_, count := h.count }
    · intro m hm
      by_cases e : m = n
      · subst e; simp only [upd_same, DiskM.set]; exact ⟨hb, hos, hon⟩
      · simp only [upd_other _ _ e, DiskM.set]
        obtain ⟨h1, h2, h3⟩ := h.file m hm
        exact ⟨h1.chg c (same _ _ (h.obx m hm) (by simp) (by simp) (by simpa using e)), h2.chg c fun g hg => same _ _ (h.ovs m hm g hg) (by simpa using e) (by simp) (by simp),
          h3.chg c fun g hg => same _ _ (h.ovn m hm g hg) (by simp) (by simpa using e) (by simp)⟩
    · intro m hm; exact keep _ _ (h.obx m hm) (by simp) (by simp)
    · intro m hm g hg
      by_cases e : m = n
      · subst e; simp only [upd_same] at hg; simp [own', hg]
      · simp only [upd_other _ _ e] at hg; exact keep _ _ (h.ovs m hm g hg) (by simpa using e) (by simp)
    · intro m hm g hg
      by_cases e : m = n
      · subst e; simp only [upd_same] at hg
        simp only [own']
        rw [if_neg (fun e1 => hne g e1 hg), if_pos hg]
      · simp only [upd_other _ _ e] at hg; exact keep _ _ (h.ovn m hm g hg) (by simp) (by simpa using e)
    · intro b hbF
      simp only [DG.F, own'] at hbF
      split at hbF
      · exact hlt b (.inl ‹_›)
      · split at hbF
        · exact hlt b (.inr ‹_›)
        · exact Nat.lt_of_lt_of_le (h.olt b hbF) c.size
    · intro m hm
      by_cases e : m = n
      · subst e; simp only [DiskM.set, upd_same]; exact hl
      · simp only [DiskM.set, upd_other _ _ e]; exact h.lens m hm
  · intro b hbF
    simp only [DG.F, own'] at hbF
    split at hbF
    · exact (hs b ‹_›).imp DG.F_of id
    · split at hbF
      · exact (hv b ‹_›).imp DG.F_of id
      · exact .inl hbF

theorem DiskAt.newFile (h : DiskAt w bd M G) {n : Bts} (hn : n ∉ M.names) (hc : M.names.length < 16) (b' : Nat) (c : Chg (fun b => b = G.bf) w w')
    (hm : MapW Tryz.prog 9 w' G.bf (mput (fmapOf M.names G.bx) (.string n) (ptr b'))) (hb : Blk w' b' 132 #[.slice none 0 0, .slice none 0 0]) (hb' : w.heap.size ≤ b') :
    ∃ G', DiskAt w' bd (M.new n) G' ∧ Chg G.F w w' ∧ (∀ b, G'.F b → G.F b ∨ w.heap.size ≤ b) ∧ G'.bx n = b' ∧ G'.vn n = .slice none 0 0 ∧ G'.bf = G.bf := by
  have keep : ∀ b r, G.own b = some r → upd G.own b' (some (Role.file n)) b = some r := fun b r hbr => by
    rw [upd_other _ _ (fun e => by have := h.olt b (DG.F_of hbr); omega)]; exact hbr
  have same : ∀ b r, G.own b = some r → r ≠ .fmap → ¬ b = G.bf := fun b r hbr hr e => by rw [e, h.obf] at hbr; injection hbr with hbr; exact hr hbr.symm
  have cF : Chg G.F w w' := c.mono fun b hbb => by subst hbb; exact .inl (DG.F_of h.obf)
  refine ⟨{ G with bx := upd G.bx n b', vs := upd G.vs n (.slice none 0 0), vn := upd G.vn n (.slice none 0 0), own := upd G.own b' (some (.file n)) }, ?_, cF, ?_, upd_same _ _ _, upd_same _ _ _, rfl⟩
  · refine { disk := h.disk.chg c (same _ _ h.obd (by simp)), fm := by rw [mput_fmap n G.bx b' M.names hn] at hm; exact hm, tm := h.tm.chg c (same _ _ h.obt (by simp)),
             obd := keep _ _ h.obd, obf := keep _ _ h.obf, obt := keep _ _ h.obt, file := ?_, obx := ?_, ovs := ?_, ovn := ?_, olt := ?_, lens := ?_, count := by simp only [DiskM.new, length_nins]; omega }
    · intro m hm
      by_cases e : m = n
      · subst e; simp only [upd_same, DiskM.new]; exact ⟨hb, .inl ⟨rfl, rfl⟩, .inl ⟨rfl, rfl⟩⟩
      · have hmn : m ∈ M.names := (mem_nins.1 hm).resolve_left e
        simp only [upd_other _ _ e, DiskM.new]
        obtain ⟨h1, h2, h3⟩ := h.file m hmn
        exact ⟨h1.chg c (same _ _ (h.obx m hmn) (by simp)), h2.chg c fun g hg => same _ _ (h.ovs m hmn g hg) (by simp), h3.chg c fun g hg => same _ _ (h.ovn m hmn g hg) (by simp)⟩
    · intro m hm
      by_cases e : m = n
      · subst e; simp only [upd_same]
      · simp only [upd_other _ _ e]; exact keep _ _ (h.obx m ((mem_nins.1 hm).resolve_left e))
    · intro m hm g hg
      by_cases e : m = n
      · subst e; simp [upd_same, Value.ownBlock] at hg
      · simp only [upd_other _ _ e] at hg; exact keep _ _ (h.ovs m ((mem_nins.1 hm).resolve_left e) g hg)
    · intro m hm g hg
      by_cases e : m = n
      · subst e; simp [upd_same, Value.ownBlock] at hg
      · simp only [upd_other _ _ e] at hg; exact keep _ _ (h.ovn m ((mem_nins.1 hm).resolve_left e) g hg)
    · intro b hbF
      by_cases e : b = b'
      · subst e; exact hb.lt
      · simp only [DG.F, upd_other _ _ e] at hbF; exact Nat.lt_of_lt_of_le (h.olt b hbF) c.size
    · intro m hm
      by_cases e : m = n
      · subst e; simp [DiskM.new, upd_same]
      · simp only [DiskM.new, upd_other _ _ e]; exact h.lens m ((mem_nins.1 hm).resolve_left e)
  · intro b hbF
    by_cases e : b = b'
    · subst e; exact .inr hb'
    · simp only [DG.F, upd_other _ _ e] at hbF; exact .inl hbF

theorem DiskAt.delFile (h : DiskAt w bd M G) (n : Bts) (c : Chg (fun b => b = G.bf) w w') (hm : MapW Tryz.prog 9 w' G.bf (mdel (fmapOf M.names G.bx) (.string n))) :
    DiskAt w' bd (M.del n) G ∧ Chg G.F w w' := by
  have same : ∀ b r, G.own b = some r → r ≠ .fmap → ¬ b = G.bf := fun b r hbr hr e => by rw [e, h.obf] at hbr; injection hbr with hbr; exact hr hbr.symm
  have cF : Chg G.F w w' := c.mono fun b hbb => by subst hbb; exact .inl (DG.F_of h.obf)
  refine ⟨?_, cF⟩
  have sub : ∀ m, m ∈ (M.del n).names → m ∈ M.names := fun m hm => (List.mem_filter.1 hm).1
  refine { disk := h.disk.chg c (same _ _ h.obd (by simp)), fm := by rw [mdel_fmap] at hm; exact hm, tm := h.tm.chg c (same _ _ h.obt (by simp)), obd := h.obd, obf := h.obf, obt := h.obt, file := ?_,
           obx := fun m hm => h.obx m (sub m hm), ovs := fun m hm => h.ovs m (sub m hm), ovn := fun m hm => h.ovn m (sub m hm), olt := fun b hb => Nat.lt_of_lt_of_le (h.olt b hb) c.size,
           lens := fun m hm => h.lens m (sub m hm), count := Nat.le_trans (List.length_filter_le _ _) h.count }
  intro m hm
  have hmn := sub m hm
  obtain ⟨h1, h2, h3⟩ := h.file m hmn
  exact ⟨h1.chg c (same _ _ (h.obx m hmn) (by simp)), h2.chg c fun g hg => same _ _ (h.ovs m hmn g hg) (by simp), h3.chg c fun g hg => same _ _ (h.ovn m hmn g hg) (by simp)⟩
end
end Go.Proofs.YtamhjjagjjdmoaaGreat
end

section
namespace Go.Proofs.YtamhjjagjjdmoaaGreat
open Go.RowKit Go.Maps

def writeSeen (l : Bts) (at_ : Nat) (b : Bts) : Bts := splice (longerM l (at_ + b.length)) at_ b
theorem length_writeSeen (l : Bts) (at_ : Nat) (b : Bts) : (writeSeen l at_ b).length = max l.length (at_ + b.length) := by
  rw [writeSeen, length_splice _ _ _ (by rw [length_longerM]; omega), length_longerM]
theorem map_splice {α β : Type} (f : α → β) (L : List α) (o : Nat) (cs : List α) : (splice L o cs).map f = splice (L.map f) o (cs.map f) := by
  simp [splice]

/-- what Write's closure captured -/
structure Cap4 (w : World) (k0 k1 k2 k3 bd : Nat) (s : ByteArray) (at_ : Nat) (v : Value) (G : DG) : Prop where
  c0 : w.cell? ⟨k0, 0, none⟩ = some (ptr bd)
  c1 : w.cell? ⟨k1, 0, none⟩ = some (.string s)
  c2 : w.cell? ⟨k2, 0, none⟩ = some (I at_)
  c3 : w.cell? ⟨k3, 0, none⟩ = some v
  n0 : ¬ G.F k0
  n1 : ¬ G.F k1
  n2 : ¬ G.F k2
  n3 : ¬ G.F k3

theorem DPost.from_ {w0 w w' : World} {bd : Nat} {G0 G : DG} {v : Value} {M' : DiskM} {e : Ending} (h : DPost w bd G v M' e w') (c : Chg G0.F w0 w) (s : ∀ b, G.F b → G0.F b ∨ w0.heap.size ≤ b) : DPost w0 bd G0 v M' e w' := by
  obtain ⟨G', h1, h2, h3, h4⟩ := h
  refine ⟨G', h1, h2, c.trans h3 s, fun b hb => ?_⟩
  rcases h4 b hb with e | e
  · exact s b e
  · exact .inr (Nat.le_trans c.size e)
theorem Cap4.chg {w w' : World} {k0 k1 k2 k3 bd : Nat} {s : ByteArray} {at_ : Nat} {v : Value} {G G' : DG} (h : Cap4 w k0 k1 k2 k3 bd s at_ v G) (c : Chg G.F w w') (hs : ∀ b, G'.F b → G.F b ∨ w.heap.size ≤ b) : Cap4 w' k0 k1 k2 k3 bd s at_ v G' := by
  have l0 := World.block_lt_of_cell? w _ h.c0
  have l1 := World.block_lt_of_cell? w _ h.c1
  have l2 := World.block_lt_of_cell? w _ h.c2
  have l3 := World.block_lt_of_cell? w _ h.c3
  have nn : ∀ k, ¬ G.F k → k < w.heap.size → ¬ G'.F k := fun k hk hl e => by rcases hs k e with e | e; exact hk e; omega
  exact ⟨(c.cell l0 h.n0).trans h.c0, (c.cell l1 h.n1).trans h.c1, (c.cell l2 h.n2).trans h.c2, (c.cell l3 h.n3).trans h.c3, nn _ h.n0 l0, nn _ h.n1 l1, nn _ h.n2 l2, nn _ h.n3 l3⟩
theorem size_fmap (names : List Bts) (bx : Bts → Nat) : Maps.size (MList.data (fmapOf names bx)) = names.length := by simp [MList.data, fmapOf, Maps.size_eq]

set_option maxHeartbeats 1000000 in
set_option maxRecDepth 100000 in
theorem write1_there (w : World) (bd : Nat) (M : DiskM) (G : DG) (h : DiskAt w bd M G) (s : ByteArray) (hs : s.size ≤ maxLen) (hn : s.data.toList ∈ M.names) (k0 k1 k2 k3 at_ : Nat) (g o c : Nat) (b : Bts)
    (hk : Cap4 w k0 k1 k2 k3 bd s at_ (.slice (some ⟨g, o, none⟩) b.length c) G) (hb : ∀ j u, (b.map B)[j]? = some u → w.cell? ⟨g, o + j, none⟩ = some u) (hg : ¬ G.F g) (hb0 : 0 < b.length) (hat : at_ + b.length ≤ 4194304) :
    Calls Tryz.prog 202 #[ptr k0, ptr k1, ptr k2, ptr k3] w (DPost w bd G (I 0) (M.set s.data.toList { M.file s.data.toList with seen := writeSeen (M.file s.data.toList).seen at_ b })) := by
  obtain ⟨n, hsn⟩ : ∃ n, n = s.data.toList := ⟨_, rfl⟩
  have hl : ∀ i, (Instr.lookup 124 (.map (some G.bf)) (.string s) false).run Tryz.prog (w.drewN i) = .ok (ptr (G.bx n)) (w.drewN i) := fun i => by
    have := (h.drewN i).look s hs
    rwa [if_pos hn, ← hsn] at this
  rw [← hsn] at hn ⊢
  obtain ⟨hblk, hos, hon⟩ := h.file n hn
  have d0 : w.cell? ⟨bd, 0, none⟩ = some (.map (some G.bf)) := h.disk.cell 0
  have f1 : w.cell? ⟨G.bx n, 1, none⟩ = some (G.vn n) := hblk.cell 1
  have q1 : w.frozen? ⟨G.bx n, 1, none⟩ = false := hblk.frozen 1
  obtain ⟨c0, c1, c2, c3, n0, n1, n2, n3⟩ := hk
  have hgw : g < w.heap.size := by
    have := hb 0 (B b[0]) (by simp [hb0])
    exact World.block_lt_of_cell? w _ this
  have hne : some (G.bx n) ≠ (G.vn n).ownBlock := fun e => h.ne_role (h.obx n hn) (h.ovn n hn _ e.symm) (by simp) rfl
  have hgv : some g ≠ (G.vn n).ownBlock := fun e => hg (DG.F_of (h.ovn n hn _ e.symm))
  have hgb : g ≠ G.bx n := fun e => hg (by rw [e]; exact DG.F_of (h.obx n hn))
  have kn : ∀ k, ¬ G.F k → k ≠ G.bx n ∧ some k ≠ (G.vn n).ownBlock := fun k hk => ⟨fun e => hk (by rw [e]; exact DG.F_of (h.obx n hn)), fun e => hk (DG.F_of (h.ovn n hn _ e.symm))⟩
  have hln := (h.lens n hn).2
  generalize hbl : b.length = m at *
  have HL := Lib.hid hbl
  have NE := Lib.hid (And.intro hne (And.intro hgv (And.intro hgb (And.intro (kn _ n0) (And.intro (kn _ n1) (And.intro (kn _ n2) (kn _ n3)))))))
  have HB := Lib.hid hb
  have HO := Lib.hid hon
  have HBL := Lib.hid hblk
  have HD := Lib.hid h
  have HN := Lib.hid hn
  have HS := Lib.hid hos
  have N0 := Lib.hid (And.intro n0 (And.intro n1 (And.intro n2 (And.intro n3 hg))))
  clear hsn hbl hne hgv hgb kn hb hon hblk hn h hos n0 n1 n2 n3 hg
  go_enter Tryz.func202, Tryz.ntmps202
  go_wp2_with fail
  go_quiet (fail)
  go_wp2_with fail
  clear hl
  have hwr : IntKind.i64.wrap ((at_ : Int) + (m : Int)) = (at_ : Int) + (m : Int) := by rw [IntKind.wrap_i64]; omega
  obtain ⟨L2, hL2⟩ : ∃ L2, (longerM (M.file n).seen (at_ + m)).length = L2 := ⟨_, rfl⟩
  have hLL := length_longerM (M.file n).seen (at_ + m)
  have hL2a : at_ + m ≤ L2 := by omega
  have hL2b : L2 ≤ 4194304 := by omega
  have HL2 := Lib.hid hL2
  clear hL2 hLL
  go_cut [5] (fun v5 wx => v5 = ptr (G.bx n) ∧ ∃ g2 cap2 cur2, Blk wx (G.bx n) 132 #[G.vs n, .slice (some ⟨g2, 0, none⟩) L2 cap2] ∧ Blk wx g2 5 cur2 ∧ L2 ≤ cap2 ∧ cap2 ≤ cur2.size ∧ cap2 ≤ maxLen ∧ cur2.toList.take L2 = (longerM (M.file n).seen (at_ + m)).map B ∧
    Chg (fun b => G.own b = some (.seen n) ∨ b = G.bx n) w wx ∧ (G.own g2 = some (.seen n) ∨ w.heap.size ≤ g2))
  case first =>
    have OUT : Hid (∀ (k : Nat) w2 g2 cap2 cur2, (w.drewN k).grownBy w2 (G.vn n).ownBlock → ((Value.slice (some ⟨g2, 0, none⟩) L2 cap2).ownBlock = (G.vn n).ownBlock ∨ (Value.slice (some ⟨g2, 0, none⟩) L2 cap2).ownBlock = some (w.drewN k).heap.size) →
      Blk w2 g2 5 cur2 → L2 ≤ cap2 → cap2 ≤ cur2.size → cap2 ≤ maxLen → cur2.toList.take L2 = (longerM (M.file n).seen (at_ + m)).map B →
      (w2.cell? ⟨G.bx n, 1, none⟩ = some (G.vn n) ∧ w2.frozen? ⟨G.bx n, 1, none⟩ = false) ∧
      (∃ g2' cap2' cur2', Blk (w2.setCell ⟨G.bx n, 1, none⟩ (.slice (some ⟨g2, 0, none⟩) L2 cap2)) (G.bx n) 132 #[G.vs n, .slice (some ⟨g2', 0, none⟩) L2 cap2'] ∧ Blk (w2.setCell ⟨G.bx n, 1, none⟩ (.slice (some ⟨g2, 0, none⟩) L2 cap2)) g2' 5 cur2' ∧ L2 ≤ cap2' ∧ cap2' ≤ cur2'.size ∧ cap2' ≤ maxLen ∧ cur2'.toList.take L2 = (longerM (M.file n).seen (at_ + m)).map B ∧
        Chg (fun b => G.own b = some (.seen n) ∨ b = G.bx n) w (w2.setCell ⟨G.bx n, 1, none⟩ (.slice (some ⟨g2, 0, none⟩) L2 cap2)) ∧ (G.own g2' = some (.seen n) ∨ w.heap.size ≤ g2'))) := by
      intro k w2 g2 cap2 cur2 hgr hloc hb2 h1 h2 h3 h4
      have hB2 := (HBL.out.drewN k).grown hgr NE.out.1
      refine ⟨⟨hB2.cell 1, hB2.frozen 1⟩, g2, cap2, cur2, ?_, hb2.far (p := ⟨G.bx n, 1, none⟩) (Blk.ne_ hb2 hB2 (by decide)) _, h1, h2, h3, h4, ?_, ?_⟩
      · simpa using hB2.set_ 1 (.slice (some ⟨g2, 0, none⟩) L2 cap2)
      · refine Chg.setCell (p := ⟨G.bx n, 1, none⟩) (Chg.grown ((Chg.refl _ w).drewN k) hgr fun g hg => .inl (.inl (HD.out.ovn n HN.out g hg))) (.inl (.inr rfl)) _
      · rcases hloc with e | e
        · exact .inl (HD.out.ovn n HN.out g2 e.symm)
        · right; simp [Value.ownBlock] at e; omega
    clear HB HS HBL HD HN HL
    go_region_with (go_at_call 130; refine (longer_int _ _ _ (at_ + m) _ (by omega) (HO.out.drewN _) hln hat).mono ?_; rintro e w2 ⟨v', rfl, ho, hgr, hloc⟩; obtain ⟨g2, cap2, cur2, rfl, hb2, hcap2, hcur2, hmax2, htk2⟩ := ho.some_form (by rw [HL2.out]; omega); rw [HL2.out] at hcap2 htk2 hloc ⊢; have O := OUT.out _ _ _ _ _ hgr hloc hb2 hcap2 hcur2 hmax2 htk2; obtain ⟨⟨f1', q1'⟩, O⟩ := O; have O2 := Lib.hid O; clear O ho hgr hloc hb2 hcur2 hmax2 htk2)
    all_goals (go_wp2_with fail; go_meet; exact ⟨rfl, O2.out⟩)
  case rest =>
    obtain ⟨rfl, g2, cap2, cur2, hB2, hb2, hcap2, hcur2, hmax2, htk2, hchg, hown2⟩ := hcut
    obtain ⟨n0, n1, n2, n3, hg⟩ := N0.out
    have NC : ∀ k, k ≠ G.bx n ∧ some k ≠ (G.vn n).ownBlock → ¬ G.F k → k < w.heap.size → wc.cell? ⟨k, 0, none⟩ = w.cell? ⟨k, 0, none⟩ := fun k hk hF hlt => hchg.cell (a := ⟨k, 0, none⟩) hlt (fun e => by
      rcases e with e | e
      · exact hF (DG.F_of e)
      · exact hk.1 e)
    have hk2 : wc.cell? ⟨k2, 0, none⟩ = some (I at_) := by rw [NC k2 NE.out.2.2.2.2.2.1 n2 (World.block_lt_of_cell? w _ c2)]; exact c2
    have hk3 : wc.cell? ⟨k3, 0, none⟩ = some (Value.slice (some ⟨g, o, none⟩) m c) := by rw [NC k3 NE.out.2.2.2.2.2.2 n3 (World.block_lt_of_cell? w _ c3)]; exact c3
    have hf1 : wc.cell? ⟨G.bx n, 1, none⟩ = some (.slice (some ⟨g2, 0, none⟩) L2 cap2) := hB2.cell 1
    have SRC : Hid (∀ j u, (b.map B)[j]? = some u → wc.cell? ((⟨g, o, none⟩ : Addr).add j) = some u) := fun j u hu => by
      rw [addr_add, hchg.cell (a := ⟨g, o + j, none⟩) hgw (fun e => by
        rcases e with e | e
        · exact hg (DG.F_of e)
        · exact NE.out.2.2.1 e)]
      exact HB.out j u hu
    have FIN : Hid (DPost w bd G (I 0) (M.set n { M.file n with seen := writeSeen (M.file n).seen at_ b }) (.returned (I 0)) (wc.drew.setRow g2 (cur2.toList.take at_ ++ (b.map B ++ cur2.toList.drop (at_ + (b.map B).length))).toArray)) := by
      have hg2b : g2 ≠ G.bx n := Blk.ne_ hb2 hB2 (by decide)
      have cT : Chg (fun b => G.own b = some (.seen n) ∨ b = G.bx n) w (wc.drew.setRow g2 (cur2.toList.take at_ ++ (b.map B ++ cur2.toList.drop (at_ + (b.map B).length))).toArray) := by
        refine hchg.drew.grown (row := some g2) ⟨rfl, rfl, rfl, by simp [World.setRow], fun k _ hk => setRow_other _ g2 k _ (fun e => hk (by rw [e]))⟩ fun g hg => ?_
        injection hg with hg; subst hg
        exact hown2.imp .inl id
      have c3' : Chg (fun b => G.own b = some (.seen n) ∨ G.own b = some (.safe n) ∨ b = G.bx n) w (wc.drew.setRow g2 (cur2.toList.take at_ ++ (b.map B ++ cur2.toList.drop (at_ + (b.map B).length))).toArray) :=
        cT.mono fun b hb => by
          rcases hb with e | e
          · exact .inl (.inl e)
          · exact .inl (.inr (.inr e))
      have hb3 : Blk (wc.drew.setRow g2 (cur2.toList.take at_ ++ (b.map B ++ cur2.toList.drop (at_ + (b.map B).length))).toArray) (G.bx n) 132 #[G.vs n, .slice (some ⟨g2, 0, none⟩) L2 cap2] :=
        (setRow_other wc.drew g2 (G.bx n) _ (fun e => hg2b e.symm)).trans hB2
      have hlb : (b.map B).length = m := by rw [List.length_map]; exact HL.out
      have hrow : OwnB (wc.drew.setRow g2 (cur2.toList.take at_ ++ (b.map B ++ cur2.toList.drop (at_ + (b.map B).length))).toArray) (.slice (some ⟨g2, 0, none⟩) L2 cap2) (writeSeen (M.file n).seen at_ b) := by
        have hwl := length_writeSeen (M.file n).seen at_ b
        have hLL := length_longerM (M.file n).seen (at_ + m)
        have e1 : (writeSeen (M.file n).seen at_ b).length = L2 := by rw [hwl, HL.out]; rw [HL2.out] at hLL; omega
        refine .inr ⟨g2, cap2, _, by rw [e1], setRow_heap wc.drew g2 cur2 _ _ _ hb2, by rw [e1]; exact hcap2, ?_, hmax2, ?_⟩
        · simp only [List.size_toArray, List.length_append, List.length_take, List.length_drop, Array.length_toList, hlb]
          omega
        · rw [e1, writeSeen, HL.out, map_splice, ← htk2]
          unfold splice
          have hcl : L2 ≤ cur2.toList.length := by rw [Array.length_toList]; omega
          simp only [hlb]
          rw [List.take_append, List.take_append, List.length_take, List.take_take, List.take_take, hlb, List.take_of_length_le (l := b.map B) (by omega), List.drop_take]
          congr 1
          · rw [show min L2 at_ = at_ by omega, show min at_ L2 = at_ by omega]
          · rw [show min at_ cur2.toList.length = at_ by omega, show L2 - at_ - m = L2 - (at_ + m) by omega]
      obtain ⟨G', d1, d2, d3, _⟩ := HD.out.setFile HN.out (G.vs n) (.slice (some ⟨g2, 0, none⟩) L2 cap2) { M.file n with seen := writeSeen (M.file n).seen at_ b } c3' hb3
        (HS.out.chg cT fun g hg e => by
          have hr := HD.out.ovs n HN.out g hg
          rcases e with e | e
          · rw [hr] at e; cases e
          · rw [e, HD.out.obx n HN.out] at hr; cases hr)
        hrow (fun g hg => .inl (HD.out.ovs n HN.out g hg)) (fun g hg => by simp [Value.ownBlock] at hg; subst hg; exact hown2)
        (fun g hg e => by
          simp [Value.ownBlock] at e; subst e
          have hr := HD.out.ovs n HN.out g2 hg
          rcases hown2 with e | e
          · rw [hr] at e; cases e
          · have := HD.out.olt g2 (DG.F_of hr); omega)
        (fun g hg => by
          rcases hg with hg | hg
          · exact Nat.lt_of_lt_of_le (HD.out.olt g (DG.F_of (HD.out.ovs n HN.out g hg))) c3'.size
          · simp [Value.ownBlock] at hg; subst hg; simpa [World.setRow] using hb2.lt)
        ⟨(HD.out.lens n HN.out).1, by rw [length_writeSeen, HL.out]; have := length_longerM (M.file n).seen (at_ + m); rw [HL2.out] at this; omega⟩
      exact ⟨G', rfl, d1, d2, d3⟩
    have HB2 := Lib.hid hb2
    have hLm : (b.map B).length = m := by rw [List.length_map]; exact HL.out
    have HLM : Hid ((b.map B).length = Nat.min m (L2 - at_)) := by show _ = _; rw [hLm]; show m = min _ _; omega
    have HFIT : Hid (at_ + (b.map B).length ≤ cur2.size) := by show _ ≤ _; omega
    clear NC hB2 hb2 hcur2 hmax2 htk2 hchg hown2 hgw hln n0 n1 n2 n3 hg c0 c1 c2 c3 d0 f1 q1 hwr hLm
    have i1 : (0 : Int) ≤ (at_ : Int) := by omega
    have i2 : (at_ : Int) ≤ (L2 : Int) := by omega
    have i3 : ¬ cap2 = at_ := by omega
    go_wp2_with fail
    go_still_tail 7, (by kernel_rfl)
    change wpList _ _ _ _ _ wc.drew
    refine wpList_copy_own rfl (.tmp 45) (.tmp 46) _ _ rfl _ Tryz.underlying48 (by kernel_rfl) g2 at_ _ _ ⟨g, o, none⟩ m c rfl rfl cur2 _ HB2.out (b.map B) HLM.out SRC.out HFIT.out (B_one b) ?_
    generalize (wc.drew.setRow g2 (cur2.toList.take at_ ++ (b.map B ++ cur2.toList.drop (at_ + (b.map B).length))).toArray) = w9 at *
    go_wp2_with fail
    go_ret
    exact FIN.out
end Go.Proofs.YtamhjjagjjdmoaaGreat
end

section
namespace Go.Proofs.YtamhjjagjjdmoaaGreat
open Go.RowKit Go.Maps

set_option maxHeartbeats 1000000 in
set_option maxRecDepth 100000 in
theorem write1_full (w0 : World) (bd : Nat) (M0 : DiskM) (G0 : DG) (h0 : DiskAt w0 bd M0 G0) (s : ByteArray) (hs : s.size ≤ maxLen) (hn0 : s.data.toList ∉ M0.names) (hfull : M0.names.length = 16) (k0 k1 k2 k3 at_ : Nat) (v : Value)
    (hk0 : Cap4 w0 k0 k1 k2 k3 bd s at_ v G0) :
    Calls Tryz.prog 202 #[ptr k0, ptr k1, ptr k2, ptr k3] w0 (DPost w0 bd G0 (I 10) M0) := by
  have hl : ∀ i, (Instr.lookup 124 (.map (some G0.bf)) (.string s) false).run Tryz.prog (w0.drewN i) = .ok (.pointer none) (w0.drewN i) := fun i => by
    have := (h0.drewN i).look s hs
    rwa [if_neg hn0] at this
  have d0 : w0.cell? ⟨bd, 0, none⟩ = some (.map (some G0.bf)) := h0.disk.cell 0
  obtain ⟨c0, c1, c2, c3, n0, n1, n2, n3⟩ := hk0
  have hb16 : ((Maps.size (MList.data (fmapOf M0.names G0.bx)) : Int) == 16) = true := by rw [size_fmap, hfull]; rfl
  have H0 := Lib.hid h0
  clear h0 hn0 n0 n1 n2 n3 hfull
  go_enter Tryz.func202, Tryz.ntmps202
  go_wp2_with fail
  go_quiet (fail)
  go_wp2_with (at_len; refine wpList_len_own _ rfl _ _ rfl 9 129 Tryz.underlying124 _ G0.bf _ _ rfl (H0.out.fm.drewN _) ?_)
  go_ret
  exact ⟨G0, rfl, H0.out.drewN _, (Chg.refl _ _).drewN _, fun b hb => .inl hb⟩

set_option maxHeartbeats 1000000 in
set_option maxRecDepth 100000 in
theorem write1_new (w0 : World) (bd : Nat) (M0 : DiskM) (G0 : DG) (h0 : DiskAt w0 bd M0 G0) (s : ByteArray) (hs : s.size ≤ maxLen) (hn0 : s.data.toList ∉ M0.names) (hfull : M0.names.length < 16) (k0 k1 k2 k3 at_ : Nat) (g o c : Nat) (b : Bts)
    (hk0 : Cap4 w0 k0 k1 k2 k3 bd s at_ (.slice (some ⟨g, o, none⟩) b.length c) G0) (hb : ∀ j u, (b.map B)[j]? = some u → w0.cell? ⟨g, o + j, none⟩ = some u) (hg : ¬ G0.F g) (hb0 : 0 < b.length) (hat : at_ + b.length ≤ 4194304) :
    Calls Tryz.prog 202 #[ptr k0, ptr k1, ptr k2, ptr k3] w0 (DPost w0 bd G0 (I 0) ((M0.new s.data.toList).set s.data.toList { (M0.new s.data.toList).file s.data.toList with seen := writeSeen ((M0.new s.data.toList).file s.data.toList).seen at_ b })) := by
  have hl : ∀ i, (Instr.lookup 124 (.map (some G0.bf)) (.string s) false).run Tryz.prog (w0.drewN i) = .ok (.pointer none) (w0.drewN i) := fun i => by
    have := (h0.drewN i).look s hs
    rwa [if_neg hn0] at this
  have d0 : w0.cell? ⟨bd, 0, none⟩ = some (.map (some G0.bf)) := h0.disk.cell 0
  obtain ⟨c0, c1, c2, c3, n0, n1, n2, n3⟩ := hk0
  have hb16 : ((Maps.size (MList.data (fmapOf M0.names G0.bx)) : Int) == 16) = false := by rw [size_fmap]; simp; omega
  have H0 := Lib.hid h0
  have HN0 := Lib.hid hn0
  have HF := Lib.hid hfull
  have HK := Lib.hid (Cap4.mk c0 c1 c2 c3 n0 n1 n2 n3)
  clear h0 hn0 n0 n1 n2 n3 hfull
  go_enter Tryz.func202, Tryz.ntmps202
  go_wp2_with fail
  go_quiet (fail)
  go_wp2_with (at_len; refine wpList_len_own _ rfl _ _ rfl 9 129 Tryz.underlying124 _ G0.bf _ _ rfl (H0.out.fm.drewN _) ?_)
  have c0' : ((w0.drewN nq).alloc (.cells #[.slice none 0 0, .slice none 0 0] 132)).cell? ⟨k0, 0, none⟩ = some (ptr bd) := cell_later ((below_drewN (Below.refl _ w0) nq).alloc (Nat.le_refl _) _) c0
  have c1' : ((w0.drewN nq).alloc (.cells #[.slice none 0 0, .slice none 0 0] 132)).cell? ⟨k1, 0, none⟩ = some (.string s) := cell_later ((below_drewN (Below.refl _ w0) nq).alloc (Nat.le_refl _) _) c1
  have d0' : ((w0.drewN nq).alloc (.cells #[.slice none 0 0, .slice none 0 0] 132)).cell? ⟨bd, 0, none⟩ = some (.map (some G0.bf)) := cell_later ((below_drewN (Below.refl _ w0) nq).alloc (Nat.le_refl _) _) d0
  have HM : Hid (MapW Tryz.prog 9 ((w0.drewN nq).alloc (.cells #[.slice none 0 0, .slice none 0 0] 132)) G0.bf (fmapOf M0.names G0.bx)) := (H0.out.fm.drewN _).alloc _
  have HC1 : Hid (Chg (fun b => b = G0.bf) w0 ((w0.drewN nq).alloc (.cells #[.slice none 0 0, .slice none 0 0] 132)) ∧ Blk ((w0.drewN nq).alloc (.cells #[.slice none 0 0, .slice none 0 0] 132)) w0.heap.size 132 #[.slice none 0 0, .slice none 0 0]) :=
    ⟨((Chg.refl _ w0).drewN _).alloc _, Blk.new (w0.drewN _) _ _⟩
  generalize (w0.drewN nq).alloc (.cells #[.slice none 0 0, .slice none 0 0] 132) = w1 at *
  clear c0 c1 d0
  go_still_tail 6, (by kernel_rfl)
  change wpList _ _ _ _ _ (World.drew w1)
  refine wpList_mapPut _ rfl (.tmp 25) (.tmp 26) (.tmp 27) _ rfl 9 129 keyS Tryz.underlying124 G0.bf (fmapOf M0.names G0.bx) (by rfl) HM.out.drew (by have := HF.out; unfold maxLen; simp [fmapOf]; omega) (.string s) (ptr w0.heap.size) (.string s.data.toList) (by rfl) (by rfl) (keyOfS s hs) ?_
  intro w hm hgr
  simp only [Act.put]
  have hC : Chg (fun b => b = G0.bf) w0 w := Chg.grown HC1.out.1.drew hgr fun g hg => .inl (by injection hg with hg; exact hg.symm)
  have hB0 : Blk w w0.heap.size 132 #[.slice none 0 0, .slice none 0 0] := HC1.out.2.drew.grown hgr (fun e => by injection e with e; have := H0.out.fm.lt; omega)
  obtain ⟨G, h, hCF, hSF, hbx, hvn, hbf⟩ := H0.out.newFile HN0.out HF.out w0.heap.size hC hm hB0 (Nat.le_refl _)
  have C0 := Lib.hid (And.intro hCF hSF)
  have hk := HK.out.chg hCF hSF
  have hgw0 : g < w0.heap.size := World.block_lt_of_cell? w0 _ (hb 0 (B b[0]) (by simp [hb0]))
  have hb' : ∀ j u, (b.map B)[j]? = some u → w.cell? ⟨g, o + j, none⟩ = some u := fun j u hu => (hCF.cell (a := ⟨g, o + j, none⟩) hgw0 hg).trans (hb j u hu)
  have hg' : ¬ G.F g := fun e => by rcases hSF g e with e | e; exact hg e; omega
  clear hb hg hCF hSF hgw0 hm hgr hC hB0 hvn hbf c2 c3 c0' c1' d0'
  have hb := hb'
  have hg := hg'
  clear hb' hg'
  obtain ⟨M, hM⟩ : ∃ M, M = M0.new s.data.toList := ⟨_, rfl⟩
  rw [← hM] at h ⊢
  have hn : s.data.toList ∈ M.names := by rw [hM]; exact mem_nins.2 (.inl rfl)
  obtain ⟨n, hsn⟩ : ∃ n, n = s.data.toList := ⟨_, rfl⟩
  have HMN := Lib.hid (And.intro hM hsn)
  clear hM
  rw [← hsn] at hn ⊢ hbx
  obtain ⟨hblk, hos, hon⟩ := h.file n hn
  have d0 : w.cell? ⟨bd, 0, none⟩ = some (.map (some G.bf)) := h.disk.cell 0
  have f1 : w.cell? ⟨G.bx n, 1, none⟩ = some (G.vn n) := hblk.cell 1
  have q1 : w.frozen? ⟨G.bx n, 1, none⟩ = false := hblk.frozen 1
  obtain ⟨c0, c1, c2, c3, n0, n1, n2, n3⟩ := hk
  have hgw : g < w.heap.size := by
    have := hb 0 (B b[0]) (by simp [hb0])
    exact World.block_lt_of_cell? w _ this
  have hne : some (G.bx n) ≠ (G.vn n).ownBlock := fun e => h.ne_role (h.obx n hn) (h.ovn n hn _ e.symm) (by simp) rfl
  have hgv : some g ≠ (G.vn n).ownBlock := fun e => hg (DG.F_of (h.ovn n hn _ e.symm))
  have hgb : g ≠ G.bx n := fun e => hg (by rw [e]; exact DG.F_of (h.obx n hn))
  have kn : ∀ k, ¬ G.F k → k ≠ G.bx n ∧ some k ≠ (G.vn n).ownBlock := fun k hk => ⟨fun e => hk (by rw [e]; exact DG.F_of (h.obx n hn)), fun e => hk (DG.F_of (h.ovn n hn _ e.symm))⟩
  have hln := (h.lens n hn).2
  generalize hbl : b.length = m at *
  have HL := Lib.hid hbl
  have NE := Lib.hid (And.intro hne (And.intro hgv (And.intro hgb (And.intro (kn _ n0) (And.intro (kn _ n1) (And.intro (kn _ n2) (kn _ n3)))))))
  have HB := Lib.hid hb
  have HO := Lib.hid hon
  have HBL := Lib.hid hblk
  have HD := Lib.hid h
  have HN := Lib.hid hn
  have HS := Lib.hid hos
  have N0 := Lib.hid (And.intro n0 (And.intro n1 (And.intro n2 (And.intro n3 hg))))
  clear hsn hbl hne hgv hgb kn hb hon hblk hn h hos n0 n1 n2 n3 hg
  rw [← hbx]
  clear hbx
  go_wp2_with fail
  have hwr : IntKind.i64.wrap ((at_ : Int) + (m : Int)) = (at_ : Int) + (m : Int) := by rw [IntKind.wrap_i64]; omega
  obtain ⟨L2, hL2⟩ : ∃ L2, (longerM (M.file n).seen (at_ + m)).length = L2 := ⟨_, rfl⟩
  have hLL := length_longerM (M.file n).seen (at_ + m)
  have hL2a : at_ + m ≤ L2 := by omega
  have hL2b : L2 ≤ 4194304 := by omega
  have HL2 := Lib.hid hL2
  clear hL2 hLL
  go_cut [5] (fun v5 wx => v5 = ptr (G.bx n) ∧ ∃ g2 cap2 cur2, Blk wx (G.bx n) 132 #[G.vs n, .slice (some ⟨g2, 0, none⟩) L2 cap2] ∧ Blk wx g2 5 cur2 ∧ L2 ≤ cap2 ∧ cap2 ≤ cur2.size ∧ cap2 ≤ maxLen ∧ cur2.toList.take L2 = (longerM (M.file n).seen (at_ + m)).map B ∧
    Chg (fun b => G.own b = some (.seen n) ∨ b = G.bx n) w wx ∧ (G.own g2 = some (.seen n) ∨ w.heap.size ≤ g2))
  case first =>
    have OUT : Hid (∀ (k : Nat) w2 g2 cap2 cur2, (w.drewN k).grownBy w2 (G.vn n).ownBlock → ((Value.slice (some ⟨g2, 0, none⟩) L2 cap2).ownBlock = (G.vn n).ownBlock ∨ (Value.slice (some ⟨g2, 0, none⟩) L2 cap2).ownBlock = some (w.drewN k).heap.size) →
      Blk w2 g2 5 cur2 → L2 ≤ cap2 → cap2 ≤ cur2.size → cap2 ≤ maxLen → cur2.toList.take L2 = (longerM (M.file n).seen (at_ + m)).map B →
      (w2.cell? ⟨G.bx n, 1, none⟩ = some (G.vn n) ∧ w2.frozen? ⟨G.bx n, 1, none⟩ = false) ∧
      (∃ g2' cap2' cur2', Blk (w2.setCell ⟨G.bx n, 1, none⟩ (.slice (some ⟨g2, 0, none⟩) L2 cap2)) (G.bx n) 132 #[G.vs n, .slice (some ⟨g2', 0, none⟩) L2 cap2'] ∧ Blk (w2.setCell ⟨G.bx n, 1, none⟩ (.slice (some ⟨g2, 0, none⟩) L2 cap2)) g2' 5 cur2' ∧ L2 ≤ cap2' ∧ cap2' ≤ cur2'.size ∧ cap2' ≤ maxLen ∧ cur2'.toList.take L2 = (longerM (M.file n).seen (at_ + m)).map B ∧
        Chg (fun b => G.own b = some (.seen n) ∨ b = G.bx n) w (w2.setCell ⟨G.bx n, 1, none⟩ (.slice (some ⟨g2, 0, none⟩) L2 cap2)) ∧ (G.own g2' = some (.seen n) ∨ w.heap.size ≤ g2'))) := by
      intro k w2 g2 cap2 cur2 hgr hloc hb2 h1 h2 h3 h4
      have hB2 := (HBL.out.drewN k).grown hgr NE.out.1
      refine ⟨⟨hB2.cell 1, hB2.frozen 1⟩, g2, cap2, cur2, ?_, hb2.far (p := ⟨G.bx n, 1, none⟩) (Blk.ne_ hb2 hB2 (by decide)) _, h1, h2, h3, h4, ?_, ?_⟩
      · simpa using hB2.set_ 1 (.slice (some ⟨g2, 0, none⟩) L2 cap2)
      · refine Chg.setCell (p := ⟨G.bx n, 1, none⟩) (Chg.grown ((Chg.refl _ w).drewN k) hgr fun g hg => .inl (.inl (HD.out.ovn n HN.out g hg))) (.inl (.inr rfl)) _
      · rcases hloc with e | e
        · exact .inl (HD.out.ovn n HN.out g2 e.symm)
        · right; simp [Value.ownBlock] at e; omega
    clear HB HS HBL HD HN HL
    go_region_with (go_at_call 130; refine (longer_int _ _ _ (at_ + m) _ (by omega) (HO.out.drewN _) hln hat).mono ?_; rintro e w2 ⟨v', rfl, ho, hgr, hloc⟩; obtain ⟨g2, cap2, cur2, rfl, hb2, hcap2, hcur2, hmax2, htk2⟩ := ho.some_form (by rw [HL2.out]; omega); rw [HL2.out] at hcap2 htk2 hloc ⊢; have O := OUT.out _ _ _ _ _ hgr hloc hb2 hcap2 hcur2 hmax2 htk2; obtain ⟨⟨f1', q1'⟩, O⟩ := O; have O2 := Lib.hid O; clear O ho hgr hloc hb2 hcur2 hmax2 htk2)
    all_goals (go_wp2_with fail; go_meet; exact ⟨rfl, O2.out⟩)
  case rest =>
    obtain ⟨rfl, g2, cap2, cur2, hB2, hb2, hcap2, hcur2, hmax2, htk2, hchg, hown2⟩ := hcut
    obtain ⟨n0, n1, n2, n3, hg⟩ := N0.out
    have NC : ∀ k, k ≠ G.bx n ∧ some k ≠ (G.vn n).ownBlock → ¬ G.F k → k < w.heap.size → wc.cell? ⟨k, 0, none⟩ = w.cell? ⟨k, 0, none⟩ := fun k hk hF hlt => hchg.cell (a := ⟨k, 0, none⟩) hlt (fun e => by
      rcases e with e | e
      · exact hF (DG.F_of e)
      · exact hk.1 e)
    have hk2 : wc.cell? ⟨k2, 0, none⟩ = some (I at_) := by rw [NC k2 NE.out.2.2.2.2.2.1 n2 (World.block_lt_of_cell? w _ c2)]; exact c2
    have hk3 : wc.cell? ⟨k3, 0, none⟩ = some (Value.slice (some ⟨g, o, none⟩) m c) := by rw [NC k3 NE.out.2.2.2.2.2.2 n3 (World.block_lt_of_cell? w _ c3)]; exact c3
    have hf1 : wc.cell? ⟨G.bx n, 1, none⟩ = some (.slice (some ⟨g2, 0, none⟩) L2 cap2) := hB2.cell 1
    have SRC : Hid (∀ j u, (b.map B)[j]? = some u → wc.cell? ((⟨g, o, none⟩ : Addr).add j) = some u) := fun j u hu => by
      rw [addr_add, hchg.cell (a := ⟨g, o + j, none⟩) hgw (fun e => by
        rcases e with e | e
        · exact hg (DG.F_of e)
        · exact NE.out.2.2.1 e)]
      exact HB.out j u hu
    have FIN : Hid (DPost w bd G (I 0) (M.set n { M.file n with seen := writeSeen (M.file n).seen at_ b }) (.returned (I 0)) (wc.drew.setRow g2 (cur2.toList.take at_ ++ (b.map B ++ cur2.toList.drop (at_ + (b.map B).length))).toArray)) := by
      have hg2b : g2 ≠ G.bx n := Blk.ne_ hb2 hB2 (by decide)
      have cT : Chg (fun b => G.own b = some (.seen n) ∨ b = G.bx n) w (wc.drew.setRow g2 (cur2.toList.take at_ ++ (b.map B ++ cur2.toList.drop (at_ + (b.map B).length))).toArray) := by
        refine hchg.drew.grown (row := some g2) ⟨rfl, rfl, rfl, by simp [World.setRow], fun k _ hk => setRow_other _ g2 k _ (fun e => hk (by rw [e]))⟩ fun g hg => ?_
        injection hg with hg; subst hg
        exact hown2.imp .inl id
      have c3' : Chg (fun b => G.own b = some (.seen n) ∨ G.own b = some (.safe n) ∨ b = G.bx n) w (wc.drew.setRow g2 (cur2.toList.take at_ ++ (b.map B ++ cur2.toList.drop (at_ + (b.map B).length))).toArray) :=
        cT.mono fun b hb => by
          rcases hb with e | e
          · exact .inl (.inl e)
          · exact .inl (.inr (.inr e))
      have hb3 : Blk (wc.drew.setRow g2 (cur2.toList.take at_ ++ (b.map B ++ cur2.toList.drop (at_ + (b.map B).length))).toArray) (G.bx n) 132 #[G.vs n, .slice (some ⟨g2, 0, none⟩) L2 cap2] :=
        (setRow_other wc.drew g2 (G.bx n) _ (fun e => hg2b e.symm)).trans hB2
      have hlb : (b.map B).length = m := by rw [List.length_map]; exact HL.out
      have hrow : OwnB (wc.drew.setRow g2 (cur2.toList.take at_ ++ (b.map B ++ cur2.toList.drop (at_ + (b.map B).length))).toArray) (.slice (some ⟨g2, 0, none⟩) L2 cap2) (writeSeen (M.file n).seen at_ b) := by
        have hwl := length_writeSeen (M.file n).seen at_ b
        have hLL := length_longerM (M.file n).seen (at_ + m)
        have e1 : (writeSeen (M.file n).seen at_ b).length = L2 := by rw [hwl, HL.out]; rw [HL2.out] at hLL; omega
        refine .inr ⟨g2, cap2, _, by rw [e1], setRow_heap wc.drew g2 cur2 _ _ _ hb2, by rw [e1]; exact hcap2, ?_, hmax2, ?_⟩
        · simp only [List.size_toArray, List.length_append, List.length_take, List.length_drop, Array.length_toList, hlb]
          omega
        · rw [e1, writeSeen, HL.out, map_splice, ← htk2]
          unfold splice
          have hcl : L2 ≤ cur2.toList.length := by rw [Array.length_toList]; omega
          simp only [hlb]
          rw [List.take_append, List.take_append, List.length_take, List.take_take, List.take_take, hlb, List.take_of_length_le (l := b.map B) (by omega), List.drop_take]
          congr 1
          · rw [show min L2 at_ = at_ by omega, show min at_ L2 = at_ by omega]
          · rw [show min at_ cur2.toList.length = at_ by omega, show L2 - at_ - m = L2 - (at_ + m) by omega]
      obtain ⟨G', d1, d2, d3, _⟩ := HD.out.setFile HN.out (G.vs n) (.slice (some ⟨g2, 0, none⟩) L2 cap2) { M.file n with seen := writeSeen (M.file n).seen at_ b } c3' hb3
        (HS.out.chg cT fun g hg e => by
          have hr := HD.out.ovs n HN.out g hg
          rcases e with e | e
          · rw [hr] at e; cases e
          · rw [e, HD.out.obx n HN.out] at hr; cases hr)
        hrow (fun g hg => .inl (HD.out.ovs n HN.out g hg)) (fun g hg => by simp [Value.ownBlock] at hg; subst hg; exact hown2)
        (fun g hg e => by
          simp [Value.ownBlock] at e; subst e
          have hr := HD.out.ovs n HN.out g2 hg
          rcases hown2 with e | e
          · rw [hr] at e; cases e
          · have := HD.out.olt g2 (DG.F_of hr); omega)
        (fun g hg => by
          rcases hg with hg | hg
          · exact Nat.lt_of_lt_of_le (HD.out.olt g (DG.F_of (HD.out.ovs n HN.out g hg))) c3'.size
          · simp [Value.ownBlock] at hg; subst hg; simpa [World.setRow] using hb2.lt)
        ⟨(HD.out.lens n HN.out).1, by rw [length_writeSeen, HL.out]; have := length_longerM (M.file n).seen (at_ + m); rw [HL2.out] at this; omega⟩
      exact ⟨G', rfl, d1, d2, d3⟩
    have HB2 := Lib.hid hb2
    have hLm : (b.map B).length = m := by rw [List.length_map]; exact HL.out
    have HLM : Hid ((b.map B).length = Nat.min m (L2 - at_)) := by show _ = _; rw [hLm]; show m = min _ _; omega
    have HFIT : Hid (at_ + (b.map B).length ≤ cur2.size) := by show _ ≤ _; omega
    clear NC hB2 hb2 hcur2 hmax2 htk2 hchg hown2 hgw hln n0 n1 n2 n3 hg c0 c1 c2 c3 d0 f1 q1 hwr hLm
    have i1 : (0 : Int) ≤ (at_ : Int) := by omega
    have i2 : (at_ : Int) ≤ (L2 : Int) := by omega
    have i3 : ¬ cap2 = at_ := by omega
    go_wp2_with fail
    go_still_tail 7, (by kernel_rfl)
    change wpList _ _ _ _ _ wc.drew
    refine wpList_copy_own rfl (.tmp 45) (.tmp 46) _ _ rfl _ Tryz.underlying48 (by kernel_rfl) g2 at_ _ _ ⟨g, o, none⟩ m c rfl rfl cur2 _ HB2.out (b.map B) HLM.out SRC.out HFIT.out (B_one b) ?_
    generalize (wc.drew.setRow g2 (cur2.toList.take at_ ++ (b.map B ++ cur2.toList.drop (at_ + (b.map B).length))).toArray) = w9 at *
    go_wp2_with fail
    go_ret
    have F9 := FIN.out.from_ C0.out.1 C0.out.2
    rw [HMN.out.2, HMN.out.1] at F9
    exact F9
end Go.Proofs.YtamhjjagjjdmoaaGreat
end

section
namespace Go.Proofs.YtamhjjagjjdmoaaGreat
open Go.RowKit Go.Maps

def okc (c : Nat) : Prop := (97 ≤ c ∧ c ≤ 122) ∨ (48 ≤ c ∧ c ≤ 57) ∨ c = 46 ∨ c = 45
def GoodName (s : ByteArray) : Prop := (∀ (i : Nat) (h : i < s.size), okc s[i].toNat) ∧ 1 ≤ s.size ∧ s.size ≤ 32

set_option maxHeartbeats 1000000 in
theorem good_yes (w : World) (s : ByteArray) (hs : GoodName s) : Calls Tryz.prog 66 #[.string s] w fun e w' => e = .returned (.bool true) ∧ w = w' := by
  obtain ⟨hc, h1, h32⟩ := hs
  have HC := Lib.hid hc
  clear hc
  have b1 : decide (1 ≤ s.size) = true := by simpa using h1
  have b2 : decide ((s.size : Int) ≤ 32) = true := by simp; omega
  go_enter Tryz.func66, Tryz.ntmps66
  go_wp2
  go_loop [7] (fun i => ∃ k : Nat, k ≤ s.size ∧ i = I k) (fun i => s.size - (intOf i).toNat)
  case atStart => exact ⟨0, by omega, rfl⟩
  case round =>
    obtain ⟨k, hk, rfl⟩ := hrel
    by_cases hlt : k < s.size
    · have hx := HC.out k hlt
      rcases hx with ⟨h2, h3⟩ | ⟨h2, h3⟩ | h2 | h2
      · have q1 : decide (97 ≤ s[k].toNat) = true := by simpa using h2
        go_wp2
        all_goals first | (exact ⟨⟨k + 1, by omega, by go_num⟩, by simp [intOf]; omega⟩) | (exfalso; simp at *; omega)
      · go_wp2
        all_goals first | (exact ⟨⟨k + 1, by omega, by go_num⟩, by simp [intOf]; omega⟩) | (exfalso; simp at *; omega)
      · have q1 : ((s[k].toNat : Int) != 46) = false := by simp; omega
        have q2 : ((s[k].toNat : Int) == 46) = true := by simp; omega
        have q3 : s[k].toNat ≤ 46 := by omega
        have q4 : 46 ≤ s[k].toNat := by omega
        clear h2
        go_wp2
        all_goals first | (exact ⟨⟨k + 1, by omega, by go_num⟩, by simp [intOf]; omega⟩) | (exfalso; simp at *; omega)
      · have q1 : ((s[k].toNat : Int) != 45) = false := by simp; omega
        have q2 : ((s[k].toNat : Int) != 46) = true := by simp; omega
        have q3 : s[k].toNat ≤ 45 := by omega
        have q4 : 45 ≤ s[k].toNat := by omega
        clear h2
        go_wp2
        all_goals first | (exact ⟨⟨k + 1, by omega, by go_num⟩, by simp [intOf]; omega⟩) | (exfalso; simp at *; omega)
    · go_wp2
      go_ret
      exact ⟨rfl, rfl⟩
end Go.Proofs.YtamhjjagjjdmoaaGreat
end

section
namespace Go.Proofs.YtamhjjagjjdmoaaGreat
open Go.RowKit Go.Maps

/-- what Write does to files, when it is carried out: its answer, the disk -/
def writeDo (M : DiskM) (n : Bts) (at_ : Nat) (b : Bts) : Int × DiskM :=
  if n ∈ M.names then (0, M.set n { M.file n with seen := writeSeen (M.file n).seen at_ b })
  else if M.names.length = 16 then (10, M)
  else (0, (M.new n).set n { (M.new n).file n with seen := writeSeen ((M.new n).file n).seen at_ b })
/-- troubles are of the known kinds -/
def TrOk (M : DiskM) : Prop := ∀ kl v, mfind M.tr kl = some v → ∃ k, v = I k ∧ (k = 1 ∨ k = 2 ∨ k = 3)
theorem TrOk.ints {M : DiskM} (h : TrOk M) : ∀ kl v, mfind M.tr kl = some v → ∃ k, v = I k := fun kl v e => let ⟨k, hk, _⟩ := h kl v e; ⟨k, hk⟩
theorem TrOk.cases {M : DiskM} (h : TrOk M) (s : Int) : M.trouble s = 0 ∨ M.trouble s = 1 ∨ M.trouble s = 2 ∨ M.trouble s = 3 := by
  unfold DiskM.trouble
  cases hf : mfind M.tr (.int .i64 s) with
  | none => exact .inl rfl
  | some v => obtain ⟨k, rfl, hk⟩ := h _ _ hf; exact .inr hk

/-- a stroke, in plain numbers -/
def strokeAll (M : DiskM) (d : Int × DiskM) (safe : DiskM → DiskM) : Int × DiskM :=
  if M.off then (9, M.tick)
  else if M.trouble M.tick.strokes = 1 then (9, M.tick)
  else if M.trouble M.tick.strokes = 2 then (10, M.tick)
  else if M.trouble M.tick.strokes = 3 then (9, { d.2 with off := true })
  else if d.1 = 0 then (0, safe d.2) else d
def writeM (M : DiskM) (n : Bts) (at_ : Nat) (b : Bts) : Int × DiskM :=
  if at_ + b.length ≤ 4194304 ∧ 0 < b.length then strokeAll M (writeDo M.tick n at_ b) id else (1, M)

theorem nothing_any (w : World) : Calls Tryz.prog 178 #[] w fun e w' => e = .returned (.tuple #[]) ∧ w = w' := by
  go_enter Tryz.func178, Tryz.ntmps178
  go_wp2
  go_end0
  exact ⟨rfl, rfl⟩

/-- the closure's call, whatever the disk -/
theorem write1_any (w : World) (bd : Nat) (M : DiskM) (G : DG) (h : DiskAt w bd M G) (s : ByteArray) (hs : s.size ≤ maxLen) (k0 k1 k2 k3 at_ : Nat) (g o c : Nat) (b : Bts)
    (hk : Cap4 w k0 k1 k2 k3 bd s at_ (.slice (some ⟨g, o, none⟩) b.length c) G) (hb : ∀ j u, (b.map B)[j]? = some u → w.cell? ⟨g, o + j, none⟩ = some u) (hg : ¬ G.F g) (hb0 : 0 < b.length) (hat : at_ + b.length ≤ 4194304) :
    Calls Tryz.prog 202 #[ptr k0, ptr k1, ptr k2, ptr k3] w (DPost w bd G (I (writeDo M s.data.toList at_ b).1) (writeDo M s.data.toList at_ b).2) := by
  unfold writeDo
  by_cases hn : s.data.toList ∈ M.names
  · simp only [hn, if_true]
    exact write1_there w bd M G h s hs hn k0 k1 k2 k3 at_ g o c b hk hb hg hb0 hat
  · by_cases hf : M.names.length = 16
    · simp only [hn, hf, if_true, if_false]
      exact write1_full w bd M G h s hs hn hf k0 k1 k2 k3 at_ _ hk
    · simp only [hn, hf, if_false]
      exact write1_new w bd M G h s hs hn (by have := h.count; omega) k0 k1 k2 k3 at_ g o c b hk hb hg hb0 hat

theorem stroke_Write (w : World) (bd : Nat) (M : DiskM) (G : DG) (h : DiskAt w bd M G) (ht : TrOk M) (cd : Array Value) (d : Int × DiskM)
    (hdo : ∀ w1, SPre w bd G M.tick w1 → Calls Tryz.prog 202 cd w1 (DPost w1 bd G (I d.1) d.2)) :
    Calls Tryz.prog 165 #[ptr bd, .func (.func 202) #[] cd, .func (.func 178) #[] #[]] w (DPost w bd G (I (strokeAll M d id).1) (strokeAll M d id).2) := by
  have ns : ∀ w1 G1, DiskAt w1 bd d.2 G1 → Chg G.F w w1 → (∀ b, G1.F b → G.F b ∨ w.heap.size ≤ b) → Calls Tryz.prog 178 #[] w1 (DPost w1 bd G1 (.tuple #[]) d.2) := fun w1 G1 h1 _ _ =>
    (nothing_any w1).mono fun e w' ⟨he, hw⟩ => by subst hw; exact ⟨G1, he, h1, Chg.refl _ _, fun b hb => .inl hb⟩
  unfold strokeAll
  by_cases ho : M.off = true
  · simp only [ho, if_true]; exact stroke_off w bd M G h _ _ ho
  · have ho' : M.off = false := by simpa using ho
    simp only [ho', Bool.false_eq_true, if_false]
    rcases ht.cases M.tick.strokes with hk | hk | hk | hk
    · simp only [hk, if_false, show ¬ (0 : Int) = 1 by omega, show ¬ (0 : Int) = 2 by omega, show ¬ (0 : Int) = 3 by omega]
      by_cases hr : d.1 = 0
      · simp only [hr, if_true, id]
        exact stroke_ok_Write w bd M d.2 d.2 G h ht.ints cd #[] ho' hk (fun w1 h1 => by have := hdo w1 h1; rwa [hr] at this) ns
      · simp only [hr, if_false]
        exact stroke_bad_Write w bd M d.2 G h ht.ints cd _ ho' hk d.1 (by simpa using hr) hdo
    · simp only [hk, if_true]; exact stroke_bad w bd M G h ht.ints _ _ ho' 1 hk (.inl rfl)
    · simp only [hk, if_true, show ¬ (2 : Int) = 1 by omega, if_false]; exact stroke_bad w bd M G h ht.ints _ _ ho' 2 hk (.inr rfl)
    · simp only [hk, if_true, show ¬ (3 : Int) = 1 by omega, show ¬ (3 : Int) = 2 by omega, if_false]
      exact stroke_offs_Write w bd M d.2 G h ht.ints cd _ ho' hk d.1 hdo


theorem DiskAt.nF {w : World} {bd : Nat} {M : DiskM} {G : DG} (h : DiskAt w bd M G) {k : Nat} (hk : w.heap.size ≤ k) : ¬ G.F k := fun e => by have := h.olt k e; omega

set_option maxHeartbeats 1000000 in
set_option maxRecDepth 100000 in
/-- Write, of a name, from a place that is not below 0 -/
theorem write_any (w : World) (bd : Nat) (M : DiskM) (G : DG) (h : DiskAt w bd M G) (ht : TrOk M) (s : ByteArray) (hs : GoodName s) (at_ : Nat) (hat : at_ ≤ 1000000000) (g o c : Nat) (b : Bts) (hbl : b.length ≤ 1000000000)
    (hb : ∀ j u, (b.map B)[j]? = some u → w.cell? ⟨g, o + j, none⟩ = some u) (hg : ¬ G.F g) :
    Calls Tryz.prog 170 #[ptr bd, .string s, I at_, .slice (some ⟨g, o, none⟩) b.length c] w (DPost w bd G (I (writeM M s.data.toList at_ b).1) (writeM M s.data.toList at_ b).2) := by
  have hsm : s.size ≤ maxLen := by have := hs.2.2; unfold maxLen; omega
  have hi1 : (0 : Int) ≤ (at_ : Int) := by omega
  obtain ⟨m, hm⟩ : ∃ m, b.length = m := ⟨_, rfl⟩
  by_cases hok : at_ + b.length ≤ 4194304 ∧ 0 < b.length
  · have hw : writeM M s.data.toList at_ b = strokeAll M (writeDo M.tick s.data.toList at_ b) id := by unfold writeM; rw [if_pos hok]
    rw [hw]
    clear hw
    obtain ⟨W, hW⟩ : ∃ W, W = (((w.alloc (.cells #[ptr bd] 25)).alloc (.cells #[.string s] 9)).alloc (.cells #[I at_] 3)).alloc (.cells #[.slice (some ⟨g, o, none⟩) m c] 48) := ⟨_, rfl⟩
    have hCW : Chg Non w W := by rw [hW]; exact ((((Chg.refl _ _).alloc _).alloc _).alloc _).alloc _
    have hD : DiskAt W bd M G := h.chg hCW (fun _ _ => id)
    have q0 : W.cell? ⟨w.heap.size, 0, none⟩ = some (ptr bd) := by rw [hW]; simp [go_sem]
    have q1 : W.cell? ⟨w.heap.size + 1, 0, none⟩ = some (.string s) := by rw [hW]; simp [go_sem]
    have q2 : W.cell? ⟨w.heap.size + 1 + 1, 0, none⟩ = some (I at_) := by rw [hW]; simp [go_sem]
    have q3 : W.cell? ⟨w.heap.size + 1 + 1 + 1, 0, none⟩ = some (.slice (some ⟨g, o, none⟩) m c) := by rw [hW]; simp [go_sem]
    have hK : Cap4 W w.heap.size (w.heap.size + 1) (w.heap.size + 1 + 1) (w.heap.size + 1 + 1 + 1) bd s at_ (.slice (some ⟨g, o, none⟩) m c) G :=
      ⟨q0, q1, q2, q3, h.nF (by omega), h.nF (by omega), h.nF (by omega), h.nF (by omega)⟩
    have hgw : g < w.heap.size := World.block_lt_of_cell? w _ (hb 0 (B b[0]) (by simp [hok.2]))
    have hstroke := stroke_Write W bd M G hD ht #[ptr w.heap.size, ptr (w.heap.size + 1), ptr (w.heap.size + 1 + 1), ptr (w.heap.size + 1 + 1 + 1)] (writeDo M.tick s.data.toList at_ b) (fun w1 h1 => by
      refine write1_any w1 bd M.tick G h1.1 s hsm _ _ _ _ at_ g o c b (by rw [hm]; exact hK.chg h1.2 fun b hb => .inl hb) (fun j u hu => ?_) hg hok.2 hok.1
      rw [h1.2.cell (a := ⟨g, o + j, none⟩) (by have := hCW.size; show g < _; omega) hg, hCW.cell (a := ⟨g, o + j, none⟩) hgw id]
      exact hb j u hu)
    have S := Lib.hid hstroke
    have FIN : Hid (∀ v M' e w', DPost W bd G v M' e w' → DPost w bd G v M' e w') := fun v M' e w' hp => hp.from_ (hCW.mono fun _ hf => hf.elim) fun b hb => .inl hb
    rw [hW] at S FIN
    have b1 : (m == 0) = false := by simp; omega
    have b1' : ((m : Int) == 0) = false := by simp; omega
    have b2 : decide ((4194304 : Int) < (at_ : Int)) = false := by simp; omega
    have b3 : decide ((4194304 : Int) - (at_ : Int) < (m : Int)) = false := by simp; omega
    have b4 : at_ ≤ 4194304 := by omega
    have HS := Lib.hid hs
    rw [hm]
    clear hs hW hCW hD q0 q1 q2 q3 hK hgw hstroke h ht hb hg hok hsm hm hbl hat
    go_enter Tryz.func170, Tryz.ntmps170
    go_wp2_with (first | (go_at_call 66; refine (good_yes _ s HS.out).mono ?_; rintro e w' ⟨rfl, rfl⟩) | (go_at_call 165; go_must (refine S.out.mono ?_); rintro e w2 hp; have FP := Lib.hid (FIN.out _ _ _ _ hp); obtain ⟨G', rfl, hp⟩ := hp; clear hp))
    go_ret
    exact FP.out
  · have hw : writeM M s.data.toList at_ b = (1, M) := by unfold writeM; rw [if_neg hok]
    rw [hw]
    clear hw
    obtain ⟨W, hW⟩ : ∃ W, W = (((w.alloc (.cells #[ptr bd] 25)).alloc (.cells #[.string s] 9)).alloc (.cells #[I at_] 3)).alloc (.cells #[.slice (some ⟨g, o, none⟩) m c] 48) := ⟨_, rfl⟩
    have hCW : Chg Non w W := by rw [hW]; exact ((((Chg.refl _ _).alloc _).alloc _).alloc _).alloc _
    have hD : DiskAt W bd M G := h.chg hCW (fun _ _ => id)
    have FIN : Hid (DPost w bd G (I 1) M (.returned (I 1)) W) := ⟨G, rfl, hD, hCW.mono fun _ hf => hf.elim, fun b hb => .inl hb⟩
    rw [hW] at FIN
    have HS := Lib.hid hs
    rw [hm] at hok hbl ⊢
    have hc2 := h.count
    by_cases c1 : m = 0
    · have b1 : (m == 0) = true := by simpa using c1
      have b1' : ((m : Int) == 0) = true := by simp; omega
      clear c1
      clear hs hW hCW hD h ht hb hg hok hsm hm hbl hat hc2
      go_enter Tryz.func170, Tryz.ntmps170
      go_wp2_with (go_at_call 66; refine (good_yes _ s HS.out).mono ?_; rintro e w' ⟨rfl, rfl⟩)
      go_ret
      exact FIN.out
    · by_cases c2 : 4194304 < at_
      · have b1 : (m == 0) = false := by simpa using c1
        have b1' : ((m : Int) == 0) = false := by simp; omega
        have b2 : decide ((4194304 : Int) < (at_ : Int)) = true := by simp; omega
        clear hs hW hCW hD h ht hb hg hok hsm hm hbl hat hc2
        go_enter Tryz.func170, Tryz.ntmps170
        go_wp2_with (go_at_call 66; refine (good_yes _ s HS.out).mono ?_; rintro e w' ⟨rfl, rfl⟩)
        go_ret
        exact FIN.out
      · have b1 : (m == 0) = false := by simpa using c1
        have b1' : ((m : Int) == 0) = false := by simp; omega
        have b2 : decide ((4194304 : Int) < (at_ : Int)) = false := by simp; omega
        have b3 : decide ((4194304 : Int) - (at_ : Int) < (m : Int)) = true := by simp; omega
        have b4 : at_ ≤ 4194304 := by omega
        clear hs hW hCW hD h ht hb hg hok hsm hm hbl hat hc2
        go_enter Tryz.func170, Tryz.ntmps170
        go_wp2_with (go_at_call 66; refine (good_yes _ s HS.out).mono ?_; rintro e w' ⟨rfl, rfl⟩)
        go_ret
        exact FIN.out
end Go.Proofs.YtamhjjagjjdmoaaGreat
end

section
namespace Go.Proofs.YtamhjjagjjdmoaaGreat
open Go.RowKit Go.Maps

/-- what a closure of two captured -/
structure Cap2 (w : World) (k0 k1 bd : Nat) (s : ByteArray) (G : DG) : Prop where
  c0 : w.cell? ⟨k0, 0, none⟩ = some (ptr bd)
  c1 : w.cell? ⟨k1, 0, none⟩ = some (.string s)
  n0 : ¬ G.F k0
  n1 : ¬ G.F k1
theorem Cap2.chg {w w' : World} {k0 k1 bd : Nat} {s : ByteArray} {G G' : DG} (h : Cap2 w k0 k1 bd s G) (c : Chg G.F w w') (hs : ∀ b, G'.F b → G.F b ∨ w.heap.size ≤ b) : Cap2 w' k0 k1 bd s G' := by
  have l0 := World.block_lt_of_cell? w _ h.c0
  have l1 := World.block_lt_of_cell? w _ h.c1
  have nn : ∀ k, ¬ G.F k → k < w.heap.size → ¬ G'.F k := fun k hk hl e => by rcases hs k e with e | e; exact hk e; omega
  exact ⟨(c.cell l0 h.n0).trans h.c0, (c.cell l1 h.n1).trans h.c1, nn _ h.n0 l0, nn _ h.n1 l1⟩

def thereM (M : DiskM) (n : Bts) : Int := if n ∈ M.names then 0 else 2
theorem there_any (w : World) (bd : Nat) (M : DiskM) (G : DG) (h : DiskAt w bd M G) (s : ByteArray) (hs : s.size ≤ maxLen) :
   Calls Tryz.prog 167 #[ptr bd, .string s] w fun e w' => e = .returned (I (thereM M s.data.toList)) ∧ w = w' := by
  unfold thereM
  split
  · exact there_yes w bd M G h s hs ‹_›
  · exact there_no w bd M G h s hs ‹_›

theorem sync1_any (w : World) (bd : Nat) (M : DiskM) (G : DG) (h : DiskAt w bd M G) (s : ByteArray) (hs : s.size ≤ maxLen) (k0 k1 : Nat) (hk : Cap2 w k0 k1 bd s G) :
    Calls Tryz.prog 166 #[ptr k0, ptr k1] w (DPost w bd G (I (thereM M s.data.toList)) M) := by
  obtain ⟨c0, c1, n0, n1⟩ := hk
  have HD := Lib.hid h
  clear h
  go_enter Tryz.func166, Tryz.ntmps166
  go_wp2_with (go_at_call 167; refine (there_any _ bd M G HD.out s hs).mono ?_; rintro e w' ⟨rfl, rfl⟩)
  go_ret
  exact ⟨G, rfl, HD.out, Chg.refl _ _, fun b hb => .inl hb⟩

/-- Sync's second part -/
def syncSafe (n : Bts) (M : DiskM) : DiskM := M.set n ⟨(M.file n).seen, (M.file n).seen⟩

set_option maxHeartbeats 1000000 in
set_option maxRecDepth 100000 in
theorem sync2_any (w : World) (bd : Nat) (M : DiskM) (G : DG) (h : DiskAt w bd M G) (s : ByteArray) (hs : s.size ≤ maxLen) (hn : s.data.toList ∈ M.names) (k0 k1 : Nat) (hk : Cap2 w k0 k1 bd s G) :
    Calls Tryz.prog 168 #[ptr k0, ptr k1] w (DPost w bd G (.tuple #[]) (syncSafe s.data.toList M)) := by
  obtain ⟨n, hsn⟩ : ∃ n, n = s.data.toList := ⟨_, rfl⟩
  have hl : ∀ i, (Instr.lookup 124 (.map (some G.bf)) (.string s) false).run Tryz.prog (w.drewN i) = .ok (ptr (G.bx n)) (w.drewN i) := fun i => by
    have := (h.drewN i).look s hs
    rwa [if_pos hn, ← hsn] at this
  rw [← hsn] at hn ⊢
  obtain ⟨hblk, hos, hon⟩ := h.file n hn
  have d0 : w.cell? ⟨bd, 0, none⟩ = some (.map (some G.bf)) := h.disk.cell 0
  have f1 : w.cell? ⟨G.bx n, 1, none⟩ = some (G.vn n) := hblk.cell 1
  obtain ⟨c0, c1, n0, n1⟩ := hk
  have hln := (h.lens n hn).2
  have HD := Lib.hid h
  have HN := Lib.hid hn
  have HO := Lib.hid hon
  have HB := Lib.hid hblk
  have HL := Lib.hid hln
  clear h hn hon hos hblk hsn hln
  go_enter Tryz.func168, Tryz.ntmps168
  go_wp2_with fail
  go_quiet (fail)
  go_wp2_with fail
  refine (clone_sl _ _ _ (HO.out.sl.drewN _) HL.out).mono ?_
  rintro e w2 ⟨v', rfl, ho, hb, hnew⟩
  have hB2 : Blk w2 (G.bx n) 132 #[G.vs n, G.vn n] := ((HB.out.drewN nq).chg (Chg.of_below (S := Non) hb) id)
  have f0' : w2.cell? ⟨G.bx n, 0, none⟩ = some (G.vs n) := hB2.cell 0
  have q0' : w2.frozen? ⟨G.bx n, 0, none⟩ = false := hB2.frozen 0
  obtain ⟨A, c, rfl, hc⟩ := ho.form
  have FIN : Hid (DPost w bd G (.tuple #[]) (syncSafe n M) (.returned (.tuple #[])) (w2.setCell ⟨G.bx n, 0, none⟩ (.slice A (M.file n).seen.length c))) := by
    have hB3 := hB2.set_ 0 (.slice A (M.file n).seen.length c)
    have cN : Chg Non w w2 := ((Chg.refl Non w).drewN nq).tr (Chg.of_below hb)
    have cT : Chg (fun b => b = G.bx n) w (w2.setCell ⟨G.bx n, 0, none⟩ (.slice A (M.file n).seen.length c)) := Chg.setCell (S := fun b => b = G.bx n) (p := ⟨G.bx n, 0, none⟩) (cN.mono fun _ hf => hf.elim) (.inl rfl) _
    have hne : ∀ g, (Value.slice A (M.file n).seen.length c).ownBlock = some g → g ≠ G.bx n := fun g hg e => by
      have h1 := hnew g hg
      have h2 := HD.out.olt (G.bx n) (DG.F_of (HD.out.obx n HN.out))
      have h3 : w.heap.size ≤ g := h1
      omega
    obtain ⟨G', d1, d2, d3, _⟩ := HD.out.setFile HN.out (.slice A (M.file n).seen.length c) (G.vn n) ⟨(M.file n).seen, (M.file n).seen⟩ (cT.mono fun b hb => .inl (.inr (.inr hb)))
      (by simpa using hB3)
      (ho.chg (Chg.setCell (S := fun b => b = G.bx n) (p := ⟨G.bx n, 0, none⟩) (Chg.refl _ w2) (.inl rfl) _) hne)
      (HO.out.chg cT fun g hg e => by have hr := HD.out.ovn n HN.out g hg; rw [e, HD.out.obx n HN.out] at hr; cases hr)
      (fun g hg => .inr (hnew g hg)) (fun g hg => .inl (HD.out.ovn n HN.out g hg))
      (fun g hg e => by
        have h1 := hnew g hg
        have h2 := HD.out.olt g (DG.F_of (HD.out.ovn n HN.out g e))
        have h3 : w.heap.size ≤ g := h1
        omega)
      (fun g hg => by
        rcases hg with hg | hg
        · rcases ho with ⟨e, _⟩ | ⟨g', cap, cur, e, hb', _⟩
          · rw [e] at hg; simp [Value.ownBlock] at hg
          · rw [e] at hg; simp [Value.ownBlock] at hg; subst hg; simpa [World.setCell] using hb'.lt
        · exact Nat.lt_of_lt_of_le (HD.out.olt g (DG.F_of (HD.out.ovn n HN.out g hg))) cT.size)
      ⟨HL.out, HL.out⟩
    exact ⟨G', rfl, d1, d2, d3⟩
  clear hB2 ho hb hnew hc
  go_wp2_with fail
  go_end0
  exact FIN.out

set_option maxHeartbeats 1000000 in
set_option maxRecDepth 100000 in
theorem delete1_any (w : World) (bd : Nat) (M : DiskM) (G : DG) (h : DiskAt w bd M G) (s : ByteArray) (hs : s.size ≤ maxLen) (k0 k1 : Nat) (hk : Cap2 w k0 k1 bd s G) :
    Calls Tryz.prog 177 #[ptr k0, ptr k1] w (DPost w bd G (I (thereM M s.data.toList)) (M.del s.data.toList)) := by
  obtain ⟨c0, c1, n0, n1⟩ := hk
  have d0 : w.cell? ⟨bd, 0, none⟩ = some (.map (some G.bf)) := h.disk.cell 0
  have HD := Lib.hid h
  clear h
  go_enter Tryz.func177, Tryz.ntmps177
  go_wp2_with (go_at_call 167; refine (there_any _ bd M G HD.out s hs).mono ?_; rintro e w' ⟨rfl, rfl⟩)
  go_still_tail 5, (by kernel_rfl)
  change wpList _ _ _ _ _ (World.drew w)
  refine wpList_mapDel _ rfl (.tmp 10) (.tmp 11) _ _ rfl 129 keyS Tryz.underlying124 G.bf (fmapOf M.names G.bx) (by rfl) HD.out.fm.drew (.string s) (.string s.data.toList) (by rfl) (keyOfS s hs) ?_
  intro w2 hm hgr
  have FIN : Hid (DPost w bd G (I (thereM M s.data.toList)) (M.del s.data.toList) (.returned (I (thereM M s.data.toList))) w2) := by
    obtain ⟨d1, d2⟩ := HD.out.delFile s.data.toList (Chg.grown (S := fun b => b = G.bf) (Chg.refl _ w).drew hgr fun g hg => .inl (by injection hg with hg; exact hg.symm)) hm
    exact ⟨G, rfl, d1, d2, fun b hb => .inl hb⟩
  simp only [Act.put]
  clear hm hgr c0 c1 d0
  go_wp2_with fail
  go_ret
  exact FIN.out

theorem stroke_Delete (w : World) (bd : Nat) (M : DiskM) (G : DG) (h : DiskAt w bd M G) (ht : TrOk M) (cd : Array Value) (d : Int × DiskM)
    (hdo : ∀ w1, SPre w bd G M.tick w1 → Calls Tryz.prog 177 cd w1 (DPost w1 bd G (I d.1) d.2)) :
    Calls Tryz.prog 165 #[ptr bd, .func (.func 177) #[] cd, .func (.func 178) #[] #[]] w (DPost w bd G (I (strokeAll M d id).1) (strokeAll M d id).2) := by
  have ns : ∀ w1 G1, DiskAt w1 bd d.2 G1 → Chg G.F w w1 → (∀ b, G1.F b → G.F b ∨ w.heap.size ≤ b) → Calls Tryz.prog 178 #[] w1 (DPost w1 bd G1 (.tuple #[]) d.2) := fun w1 G1 h1 _ _ =>
    (nothing_any w1).mono fun e w' ⟨he, hw⟩ => by subst hw; exact ⟨G1, he, h1, Chg.refl _ _, fun b hb => .inl hb⟩
  unfold strokeAll
  by_cases ho : M.off = true
  · simp only [ho, if_true]; exact stroke_off w bd M G h _ _ ho
  · have ho' : M.off = false := by simpa using ho
    simp only [ho', Bool.false_eq_true, if_false]
    rcases ht.cases M.tick.strokes with hk | hk | hk | hk
    · simp only [hk, if_false, show ¬ (0 : Int) = 1 by omega, show ¬ (0 : Int) = 2 by omega, show ¬ (0 : Int) = 3 by omega]
      by_cases hr : d.1 = 0
      · simp only [hr, if_true, id]
        exact stroke_ok_Delete w bd M d.2 d.2 G h ht.ints cd #[] ho' hk (fun w1 h1 => by have := hdo w1 h1; rwa [hr] at this) ns
      · simp only [hr, if_false]
        exact stroke_bad_Delete w bd M d.2 G h ht.ints cd _ ho' hk d.1 (by simpa using hr) hdo
    · simp only [hk, if_true]; exact stroke_bad w bd M G h ht.ints _ _ ho' 1 hk (.inl rfl)
    · simp only [hk, if_true, show ¬ (2 : Int) = 1 by omega, if_false]; exact stroke_bad w bd M G h ht.ints _ _ ho' 2 hk (.inr rfl)
    · simp only [hk, if_true, show ¬ (3 : Int) = 1 by omega, show ¬ (3 : Int) = 2 by omega, if_false]
      exact stroke_offs_Delete w bd M d.2 G h ht.ints cd _ ho' hk d.1 hdo



theorem stroke_Truncate (w : World) (bd : Nat) (M : DiskM) (G : DG) (h : DiskAt w bd M G) (ht : TrOk M) (cd : Array Value) (d : Int × DiskM)
    (hdo : ∀ w1, SPre w bd G M.tick w1 → Calls Tryz.prog 179 cd w1 (DPost w1 bd G (I d.1) d.2)) :
    Calls Tryz.prog 165 #[ptr bd, .func (.func 179) #[] cd, .func (.func 178) #[] #[]] w (DPost w bd G (I (strokeAll M d id).1) (strokeAll M d id).2) := by
  have ns : ∀ w1 G1, DiskAt w1 bd d.2 G1 → Chg G.F w w1 → (∀ b, G1.F b → G.F b ∨ w.heap.size ≤ b) → Calls Tryz.prog 178 #[] w1 (DPost w1 bd G1 (.tuple #[]) d.2) := fun w1 G1 h1 _ _ =>
    (nothing_any w1).mono fun e w' ⟨he, hw⟩ => by subst hw; exact ⟨G1, he, h1, Chg.refl _ _, fun b hb => .inl hb⟩
  unfold strokeAll
  by_cases ho : M.off = true
  · simp only [ho, if_true]; exact stroke_off w bd M G h _ _ ho
  · have ho' : M.off = false := by simpa using ho
    simp only [ho', Bool.false_eq_true, if_false]
    rcases ht.cases M.tick.strokes with hk | hk | hk | hk
    · simp only [hk, if_false, show ¬ (0 : Int) = 1 by omega, show ¬ (0 : Int) = 2 by omega, show ¬ (0 : Int) = 3 by omega]
      by_cases hr : d.1 = 0
      · simp only [hr, if_true, id]
        exact stroke_ok_Truncate w bd M d.2 d.2 G h ht.ints cd #[] ho' hk (fun w1 h1 => by have := hdo w1 h1; rwa [hr] at this) ns
      · simp only [hr, if_false]
        exact stroke_bad_Truncate w bd M d.2 G h ht.ints cd _ ho' hk d.1 (by simpa using hr) hdo
    · simp only [hk, if_true]; exact stroke_bad w bd M G h ht.ints _ _ ho' 1 hk (.inl rfl)
    · simp only [hk, if_true, show ¬ (2 : Int) = 1 by omega, if_false]; exact stroke_bad w bd M G h ht.ints _ _ ho' 2 hk (.inr rfl)
    · simp only [hk, if_true, show ¬ (3 : Int) = 1 by omega, show ¬ (3 : Int) = 2 by omega, if_false]
      exact stroke_offs_Truncate w bd M d.2 G h ht.ints cd _ ho' hk d.1 hdo



theorem stroke_Sync (w : World) (bd : Nat) (M : DiskM) (G : DG) (h : DiskAt w bd M G) (ht : TrOk M) (cd : Array Value) (d : Int × DiskM) (safe : DiskM → DiskM)
    (hdo : ∀ w1, SPre w bd G M.tick w1 → Calls Tryz.prog 166 cd w1 (DPost w1 bd G (I d.1) d.2))
    (ns : d.1 = 0 → ∀ w1 G1, DiskAt w1 bd d.2 G1 → Chg G.F w w1 → (∀ b, G1.F b → G.F b ∨ w.heap.size ≤ b) → Calls Tryz.prog 168 cd w1 (DPost w1 bd G1 (.tuple #[]) (safe d.2))) :
    Calls Tryz.prog 165 #[ptr bd, .func (.func 166) #[] cd, .func (.func 168) #[] cd] w (DPost w bd G (I (strokeAll M d safe).1) (strokeAll M d safe).2) := by
  unfold strokeAll
  by_cases ho : M.off = true
  · simp only [ho, if_true]; exact stroke_off w bd M G h _ _ ho
  · have ho' : M.off = false := by simpa using ho
    simp only [ho', Bool.false_eq_true, if_false]
    rcases ht.cases M.tick.strokes with hk | hk | hk | hk
    · simp only [hk, if_false, show ¬ (0 : Int) = 1 by omega, show ¬ (0 : Int) = 2 by omega, show ¬ (0 : Int) = 3 by omega]
      by_cases hr : d.1 = 0
      · simp only [hr, if_true]
        exact stroke_ok_Sync w bd M d.2 (safe d.2) G h ht.ints cd cd ho' hk (fun w1 h1 => by have := hdo w1 h1; rwa [hr] at this) (ns hr)
      · simp only [hr, if_false]
        exact stroke_bad_Sync w bd M d.2 G h ht.ints cd _ ho' hk d.1 (by simpa using hr) hdo
    · simp only [hk, if_true]; exact stroke_bad w bd M G h ht.ints _ _ ho' 1 hk (.inl rfl)
    · simp only [hk, if_true, show ¬ (2 : Int) = 1 by omega, if_false]; exact stroke_bad w bd M G h ht.ints _ _ ho' 2 hk (.inr rfl)
    · simp only [hk, if_true, show ¬ (3 : Int) = 1 by omega, show ¬ (3 : Int) = 2 by omega, if_false]
      exact stroke_offs_Sync w bd M d.2 G h ht.ints cd _ ho' hk d.1 hdo




def syncM (M : DiskM) (n : Bts) : Int × DiskM := strokeAll M (thereM M n, M.tick) (syncSafe n)
def deleteM (M : DiskM) (n : Bts) : Int × DiskM := strokeAll M (thereM M n, M.tick.del n) id

set_option maxHeartbeats 1000000 in
set_option maxRecDepth 100000 in
theorem sync_any (w : World) (bd : Nat) (M : DiskM) (G : DG) (h : DiskAt w bd M G) (ht : TrOk M) (s : ByteArray) (hs : GoodName s) :
    Calls Tryz.prog 118 #[ptr bd, .string s] w (DPost w bd G (I (syncM M s.data.toList).1) (syncM M s.data.toList).2) := by
  have hsm : s.size ≤ maxLen := by have := hs.2.2; unfold maxLen; omega
  obtain ⟨W, hW⟩ : ∃ W, W = (w.alloc (.cells #[ptr bd] 25)).alloc (.cells #[.string s] 9) := ⟨_, rfl⟩
  have hCW : Chg Non w W := by rw [hW]; exact ((Chg.refl _ _).alloc _).alloc _
  have hD : DiskAt W bd M G := h.chg hCW (fun _ _ => id)
  have q0 : W.cell? ⟨w.heap.size, 0, none⟩ = some (ptr bd) := by rw [hW]; simp [go_sem]
  have q1 : W.cell? ⟨w.heap.size + 1, 0, none⟩ = some (.string s) := by rw [hW]; simp [go_sem]
  have hK : Cap2 W w.heap.size (w.heap.size + 1) bd s G := ⟨q0, q1, h.nF (by omega), h.nF (by omega)⟩
  have hstroke : Calls Tryz.prog 165 _ W (DPost W bd G (I (syncM M s.data.toList).1) (syncM M s.data.toList).2) := stroke_Sync W bd M G hD ht #[ptr w.heap.size, ptr (w.heap.size + 1)] (thereM M s.data.toList, M.tick) (syncSafe s.data.toList)
    (fun w1 h1 => sync1_any w1 bd M.tick G h1.1 s hsm _ _ (hK.chg h1.2 fun b hb => .inl hb))
    (fun hr w1 G1 d1 c1 f1 => sync2_any w1 bd M.tick G1 d1 s hsm (by simp only [thereM] at hr; split at hr; assumption; cases hr) _ _ (hK.chg c1 f1))
  have S := Lib.hid hstroke
  have FIN : Hid (∀ v M' e w', DPost W bd G v M' e w' → DPost w bd G v M' e w') := fun v M' e w' hp => hp.from_ (hCW.mono fun _ hf => hf.elim) fun b hb => .inl hb
  rw [hW] at S FIN
  have HS := Lib.hid hs
  clear hs hW hCW hD q0 q1 hK hstroke h ht hsm
  go_enter Tryz.func118, Tryz.ntmps118
  go_wp2_with (first | (go_at_call 66; refine (good_yes _ s HS.out).mono ?_; rintro e w' ⟨rfl, rfl⟩) | (go_at_call 165; go_must (refine S.out.mono ?_); rintro e w2 hp; have FP := Lib.hid (FIN.out _ _ _ _ hp); obtain ⟨G', rfl, hp⟩ := hp; clear hp))
  go_ret
  exact FP.out

set_option maxHeartbeats 1000000 in
set_option maxRecDepth 100000 in
theorem delete_any (w : World) (bd : Nat) (M : DiskM) (G : DG) (h : DiskAt w bd M G) (ht : TrOk M) (s : ByteArray) (hs : GoodName s) :
    Calls Tryz.prog 124 #[ptr bd, .string s] w (DPost w bd G (I (deleteM M s.data.toList).1) (deleteM M s.data.toList).2) := by
  have hsm : s.size ≤ maxLen := by have := hs.2.2; unfold maxLen; omega
  obtain ⟨W, hW⟩ : ∃ W, W = (w.alloc (.cells #[ptr bd] 25)).alloc (.cells #[.string s] 9) := ⟨_, rfl⟩
  have hCW : Chg Non w W := by rw [hW]; exact ((Chg.refl _ _).alloc _).alloc _
  have hD : DiskAt W bd M G := h.chg hCW (fun _ _ => id)
  have q0 : W.cell? ⟨w.heap.size, 0, none⟩ = some (ptr bd) := by rw [hW]; simp [go_sem]
  have q1 : W.cell? ⟨w.heap.size + 1, 0, none⟩ = some (.string s) := by rw [hW]; simp [go_sem]
  have hK : Cap2 W w.heap.size (w.heap.size + 1) bd s G := ⟨q0, q1, h.nF (by omega), h.nF (by omega)⟩
  have hstroke : Calls Tryz.prog 165 _ W (DPost W bd G (I (deleteM M s.data.toList).1) (deleteM M s.data.toList).2) := stroke_Delete W bd M G hD ht #[ptr w.heap.size, ptr (w.heap.size + 1)] (thereM M s.data.toList, M.tick.del s.data.toList)
    (fun w1 h1 => delete1_any w1 bd M.tick G h1.1 s hsm _ _ (hK.chg h1.2 fun b hb => .inl hb))
  have S := Lib.hid hstroke
  have FIN : Hid (∀ v M' e w', DPost W bd G v M' e w' → DPost w bd G v M' e w') := fun v M' e w' hp => hp.from_ (hCW.mono fun _ hf => hf.elim) fun b hb => .inl hb
  rw [hW] at S FIN
  have HS := Lib.hid hs
  clear hs hW hCW hD q0 q1 hK hstroke h ht hsm
  go_enter Tryz.func124, Tryz.ntmps124
  go_wp2_with (first | (go_at_call 66; refine (good_yes _ s HS.out).mono ?_; rintro e w' ⟨rfl, rfl⟩) | (go_at_call 165; go_must (refine S.out.mono ?_); rintro e w2 hp; have FP := Lib.hid (FIN.out _ _ _ _ hp); obtain ⟨G', rfl, hp⟩ := hp; clear hp))
  go_ret
  exact FP.out

end Go.Proofs.YtamhjjagjjdmoaaGreat
end

section
namespace Go.Proofs.YtamhjjagjjdmoaaGreat
open Go.RowKit Go.Maps

/-- what Size tells: the length, the error -/
def sizeM (M : DiskM) (n : Bts) : Int × Int := if M.off then (0, 9) else if n ∈ M.names then ((M.file n).seen.length, 0) else (0, 2)

set_option maxHeartbeats 1000000 in
set_option maxRecDepth 100000 in
theorem size_any (w : World) (bd : Nat) (M : DiskM) (G : DG) (h : DiskAt w bd M G) (s : ByteArray) (hs : GoodName s) :
    Calls Tryz.prog 132 #[ptr bd, .string s] w fun e w' => e = .returned (.tuple #[I (sizeM M s.data.toList).1, I (sizeM M s.data.toList).2]) ∧ w' = w := by
  have hsm : s.size ≤ maxLen := by have := hs.2.2; unfold maxLen; omega
  have d0 : w.cell? ⟨bd, 0, none⟩ = some (.map (some G.bf)) := h.disk.cell 0
  have d3 : w.cell? ⟨bd, 3, none⟩ = some (.bool M.off) := h.disk.cell 3
  have HS := Lib.hid hs
  unfold sizeM
  by_cases ho : M.off = true
  · simp only [ho, if_true] at d3 ⊢
    clear h hs ho
    go_enter Tryz.func132, Tryz.ntmps132
    go_wp2_with (go_at_call 66; refine (good_yes _ s HS.out).mono ?_; rintro e w' ⟨rfl, rfl⟩)
    go_ret2
    exact ⟨rfl, rfl⟩
  · have ho' : M.off = false := by simpa using ho
    have hl := h.look s hsm
    simp only [ho', Bool.false_eq_true, if_false] at d3 ⊢
    by_cases hn : s.data.toList ∈ M.names
    · simp only [hn, if_true] at hl ⊢
      obtain ⟨h1, _, h3⟩ := h.file _ hn
      have f1 : w.cell? ⟨G.bx s.data.toList, 1, none⟩ = some (G.vn s.data.toList) := h1.cell 1
      obtain ⟨A, c, hv, hc⟩ := h3.form
      rw [hv] at f1
      clear h hs ho ho' hn h1 h3 hv
      go_enter Tryz.func132, Tryz.ntmps132
      go_wp2_with (go_at_call 66; refine (good_yes _ s HS.out).mono ?_; rintro e w' ⟨rfl, rfl⟩)
      go_ret2
      exact ⟨rfl, rfl⟩
    · simp only [hn, if_false] at hl ⊢
      clear h hs ho ho' hn
      go_enter Tryz.func132, Tryz.ntmps132
      go_wp2_with (go_at_call 66; refine (good_yes _ s HS.out).mono ?_; rintro e w' ⟨rfl, rfl⟩)
      go_ret2
      exact ⟨rfl, rfl⟩

set_option maxHeartbeats 1000000 in
set_option maxRecDepth 100000 in
/-- all of a file is read -/
theorem read_all (w : World) (bd : Nat) (M : DiskM) (G : DG) (h : DiskAt w bd M G) (s : ByteArray) (hs : GoodName s) (ho : M.off = false) (hn : s.data.toList ∈ M.names) :
    Calls Tryz.prog 163 #[ptr bd, .string s, I 0, I (M.file s.data.toList).seen.length] w fun e w' => ∃ v', e = .returned (.tuple #[v', I 0]) ∧ OwnB w' v' (M.file s.data.toList).seen ∧ Below w.heap.size w w' ∧ ∀ g, v'.ownBlock = some g → w.heap.size ≤ g := by
  have hsm : s.size ≤ maxLen := by have := hs.2.2; unfold maxLen; omega
  have d0 : w.cell? ⟨bd, 0, none⟩ = some (.map (some G.bf)) := h.disk.cell 0
  have d3 : w.cell? ⟨bd, 3, none⟩ = some (.bool M.off) := h.disk.cell 3
  rw [ho] at d3
  have HS := Lib.hid hs
  have hl := h.look s hsm
  rw [if_pos hn] at hl
  obtain ⟨h1, _, h3⟩ := h.file _ hn
  have f1 : w.cell? ⟨G.bx s.data.toList, 1, none⟩ = some (G.vn s.data.toList) := h1.cell 1
  have hlen := (h.lens _ hn).2
  generalize hL : (M.file s.data.toList).seen = L at *
  have HL : Hid (L.length ≤ 4194304) := hlen
  rcases h3 with ⟨hv, rfl⟩ | ⟨g, cap, cur, hv, hb, h4, h5, h6, h7⟩
  · rw [hv] at f1
    simp only [List.length_nil]
    clear h hs ho hn h1 hv hL hlen
    go_enter Tryz.func163, Tryz.ntmps163
    go_wp2_with (first | (go_at_call 66; refine (good_yes _ s HS.out).mono ?_; rintro e w' ⟨rfl, rfl⟩) | (go_at_call 67; refine (clone_nil _).mono ?_; rintro e w' ⟨rfl, rfl⟩))
    go_ret2
    exact ⟨_, rfl, .inl ⟨rfl, rfl⟩, Below.refl _ _, fun g hg => by simp [Value.ownBlock] at hg⟩
  · have SL : Hid (Sl w (.slice (some ⟨g, 0, none⟩) L.length cap) L) := (OwnB.sl (.inr ⟨g, cap, cur, rfl, hb, h4, h5, h6, h7⟩))
    obtain ⟨m, hm⟩ : ∃ m, m = L.length := ⟨_, rfl⟩
    rw [← hm] at hlen h4 ⊢
    rw [← hm] at hv
    have SL2 : Hid (Sl w (.slice (some ⟨g, 0, none⟩) m cap) L) := by rw [hm]; exact SL.out
    rw [hv] at f1
    have b1 : decide ((4194304 : Int) < (m : Int)) = false := by simp; omega
    have b2 : decide ((m : Int) < 0) = false := by simp
    clear h hs ho hn h1 hv hL hb h5 h7 hm
    go_enter Tryz.func163, Tryz.ntmps163
    go_wp2_with (first | (go_at_call 66; refine (good_yes _ s HS.out).mono ?_; rintro e w' ⟨rfl, rfl⟩) | (go_at_call 67; go_loud (refine (clone_sl _ _ _ SL2.out HL.out).mono ?_; rintro e w' ⟨v', rfl, h⟩; have FIN := Lib.hid h; clear h)))
    go_ret2
    exact ⟨_, rfl, FIN.out⟩
end Go.Proofs.YtamhjjagjjdmoaaGreat
end

section
namespace Go.Proofs.YtamhjjagjjdmoaaGreat
open Go.RowKit Go.Maps

theorem or_low (k a b : Nat) (ha : 2 ^ k ∣ a) (hb : b < 2 ^ k) (hs : a + b < 9223372036854775808) : bits .or .i64 (a : Int) (b : Int) = ((a + b : Nat) : Int) := by
  show IntKind.i64.wrap ((BitVec.ofInt 64 (a : Int) ||| BitVec.ofInt 64 (b : Int)).toNat : Int) = _
  obtain ⟨q, rfl⟩ := ha
  rw [BitVec.toNat_or, ofInt_u64 _ (by omega), ofInt_u64 b (by omega), ← Nat.two_pow_add_eq_or_of_lt hb]
  exact Lib.wrap_i64_small _ (by omega)
theorem wrap64_small (n : Nat) (h : n < 9223372036854775808) : wrap64 (n : Int) = (n : Int) := by unfold wrap64; omega
theorem number_sum (x0 x1 x2 x3 : UInt8) : bits BinOp.or IntKind.i64 (bits BinOp.or IntKind.i64 (bits BinOp.or IntKind.i64 (wrap64 (wrap64 ↑x0.toNat * 16777216)) (wrap64 (wrap64 ↑x1.toNat * 65536))) (wrap64 (wrap64 ↑x2.toNat * 256))) (wrap64 ↑x3.toNat)
    = ((x0.toNat * 16777216 + x1.toNat * 65536 + x2.toNat * 256 + x3.toNat : Nat) : Int) := by
  have h0 := x0.toNat_lt; have h1 := x1.toNat_lt; have h2 := x2.toNat_lt; have h3 := x3.toNat_lt
  generalize x0.toNat = a0 at *; generalize x1.toNat = a1 at *; generalize x2.toNat = a2 at *; generalize x3.toNat = a3 at *
  have e0 : wrap64 (wrap64 (a0 : Int) * 16777216) = ((a0 * 16777216 : Nat) : Int) := by rw [wrap64_small a0 (by omega)]; exact wrap64_small (a0 * 16777216) (by omega)
  have e1 : wrap64 (wrap64 (a1 : Int) * 65536) = ((a1 * 65536 : Nat) : Int) := by rw [wrap64_small a1 (by omega)]; exact wrap64_small (a1 * 65536) (by omega)
  have e2 : wrap64 (wrap64 (a2 : Int) * 256) = ((a2 * 256 : Nat) : Int) := by rw [wrap64_small a2 (by omega)]; exact wrap64_small (a2 * 256) (by omega)
  rw [e0, e1, e2, wrap64_small a3 (by omega), or_low 24 _ _ (by omega) (by omega) (by omega), or_low 16 _ _ (by omega) (by omega) (by omega), or_low 8 _ _ (by omega) (by omega) (by omega)]

def be4 (l : Bts) : Nat := (l.getD 0 0).toNat * 16777216 + (l.getD 1 0).toNat * 65536 + (l.getD 2 0).toNat * 256 + (l.getD 3 0).toNat

set_option maxHeartbeats 1000000 in
set_option maxRecDepth 100000 in
theorem number_raw (w : World) (g o n c : Nat) (x0 x1 x2 x3 : UInt8) (h0 : w.cell? ⟨g, o, none⟩ = some (B x0)) (h1 : w.cell? ⟨g, o + 1, none⟩ = some (B x1)) (h2 : w.cell? ⟨g, o + 2, none⟩ = some (B x2)) (h3 : w.cell? ⟨g, o + 3, none⟩ = some (B x3)) (hn : 4 ≤ n) :
    Calls Tryz.prog 183 #[.slice (some ⟨g, o, none⟩) n c] w fun e w' => e = .returned (I (x0.toNat * 16777216 + x1.toNat * 65536 + x2.toNat * 256 + x3.toNat : Nat)) ∧ ∃ m, w' = w.drewN m := by
  simp only [B] at h0 h1 h2 h3
  have i0 : (0 : Int) < n := by omega
  have i1 : (1 : Int) < n := by omega
  have i2 : (2 : Int) < n := by omega
  have i3 : (3 : Int) < n := by omega
  go_enter Tryz.func183, Tryz.ntmps183
  go_wp2_with fail
  go_quiet (fail)
  go_wp2_with fail
  go_ret
  refine ⟨?_, nq, rfl⟩
  show Ending.returned (I _) = _
  rw [number_sum]
theorem Sl.cells_at {w : World} {v : Value} {l : Bts} (h : Sl w v l) (h0 : 0 < l.length) : ∃ g o c, v = .slice (some ⟨g, o, none⟩) l.length c ∧ l.length ≤ c ∧ c ≤ maxLen ∧ ∀ j (hj : j < l.length), w.cell? ⟨g, o + j, none⟩ = some (B l[j]) := by
  rcases h with ⟨_, rfl⟩ | ⟨g, o, c, rfl, h1, h2, hc⟩
  · simp at h0
  · exact ⟨g, o, c, rfl, h1, h2, fun j hj => hc j _ (by simp [hj])⟩
theorem number_any (w : World) (v : Value) (l : Bts) (h : Sl w v l) (h4 : 4 ≤ l.length) :
    Calls Tryz.prog 183 #[v] w fun e w' => e = .returned (I (be4 l)) ∧ ∃ m, w' = w.drewN m := by
  obtain ⟨g, o, c, rfl, _, _, hc⟩ := h.cells_at (by omega)
  have h0 := hc 0 (by omega); have h1 := hc 1 (by omega); have h2 := hc 2 (by omega); have h3 := hc 3 (by omega)
  have := number_raw w g o l.length c l[0] l[1] l[2] l[3] h0 h1 h2 h3 h4
  have e : be4 l = l[0].toNat * 16777216 + l[1].toNat * 65536 + l[2].toNat * 256 + l[3].toNat := by
    unfold be4
    simp [List.getD_eq_getElem?_getD, List.getElem?_eq_getElem (show 0 < l.length by omega), List.getElem?_eq_getElem (show 1 < l.length by omega), List.getElem?_eq_getElem (show 2 < l.length by omega), List.getElem?_eq_getElem (show 3 < l.length by omega)]
  rw [e]; exact this

/-- four bytes of a number -/
def bytes4 (n : Nat) : Bts := [UInt8.ofNat (n / 16777216), UInt8.ofNat (n / 65536), UInt8.ofNat (n / 256), UInt8.ofNat n]
theorem appendB_run (w : World) (ty : TypeId) (v : Value) (l : Bts) (hown : OwnB w v l) (sv : Value) (x : Bts) (hs : Sl w sv x) (h63 : l.length + x.length ≤ 4194304 * 4) :
    ∃ v' w', (Builtin.append_ #[48, 48] ty #[v, sv]).run Tryz.prog w = .ok v' w' ∧ OwnB w' v' (l ++ x) ∧ w.grownBy w' v.ownBlock ∧ (v'.ownBlock = v.ownBlock ∨ v'.ownBlock = some w.heap.size) := by
  obtain ⟨i, hi, hz, hsize, hby⟩ := info_parts infoU8
  have ht := Tryz.underlying48
  have hzs : (Value.int .u8 0).cells = #[.int .u8 0] := rfl
  have hzc : ∀ m, Builtin.zeroCells (Value.int .u8 0).cells m = (List.replicate m (Value.int .u8 0)).toArray := fun m => by rw [hzs, zeroCells_one]
  have hlen : (l ++ x).length = l.length + x.length := by simp
  have hmap : (l ++ x).map B = l.map B ++ x.map B := by simp
  by_cases hx0 : x = []
  · subst hx0
    obtain ⟨A, c, rfl, hc⟩ := hown.form
    obtain ⟨A2, c2, rfl, hc2⟩ := hs.form
    refine ⟨_, w, ?_, by simpa using hown, World.grownBy.refl _ _, .inl rfl⟩
    cases A <;> simp [Builtin.append_, run_underlying ht, sizeOf, typeInfo, hi, hsize, Builtin.lenOf, hc, storeCells, Builtin.firstCells, loadCells, loadCellsFrom]
    all_goals cases A2 <;> simp [storeCells]
  have hx1 : 0 < x.length := List.length_pos_iff.2 hx0
  obtain ⟨a, o, cs, rfl, hcs1, hcs2, hxc⟩ := hs.cells_at hx1
  have hnews : ∀ j u, (x.map B)[j]? = some u → w.cell? ((⟨a, o, none⟩ : Addr).add j) = some u := fun j u hu => by
    rw [addr_add]
    rw [List.getElem?_map] at hu
    cases hj : x[j]? with
    | none => simp [hj] at hu
    | some y =>
      obtain ⟨hj1, rfl⟩ := List.getElem?_eq_some_iff.1 hj
      rw [hxc j hj1]; simpa [hj] using hu
  have hl : (x.map B).length = x.length * i.size := by simp [hsize]
  have grown : ∀ (old : Nat), old < l.length + x.length → ∀ (row : Option Nat),
      OwnB (w.drew.alloc (.cells ((l.map B).toArray ++ (x.map B).toArray ++ Builtin.zeroCells (Value.int .u8 0).cells (grownCap w (l.length + x.length) old 5 - (l.length + x.length))) 5))
        (.slice (some ⟨w.heap.size, 0, none⟩) (l.length + x.length) (grownCap w (l.length + x.length) old 5)) (l ++ x) ∧
      w.grownBy (w.drew.alloc (.cells ((l.map B).toArray ++ (x.map B).toArray ++ Builtin.zeroCells (Value.int .u8 0).cells (grownCap w (l.length + x.length) old 5 - (l.length + x.length))) 5)) row := by
    intro old ho row
    have hge := grownCap_ge w (l.length + x.length) old 5
    have hcm : grownCap w (l.length + x.length) old 5 ≤ maxLen := grownCap_le_maxLen w (l.length + x.length) old 5 (by unfold maxLen; omega)
    refine ⟨.inr ⟨w.heap.size, _, _, by rw [hlen], heap_alloc_new w.drew _, by rw [hlen]; exact hge, ?_, hcm, ?_⟩, ⟨rfl, rfl, rfl, by simp, fun q hq _ => Below.heap_alloc w.drew _ q hq⟩⟩
    · simp only [Array.size_append, List.size_toArray, hzc, List.length_replicate, List.length_map]
      omega
    · simp only [hzc, Array.toList_append]
      rw [hmap, hlen]
      exact List.take_left' (by simp)
  rcases hown with ⟨rfl, rfl⟩ | ⟨g, cap, cur, rfl, hg, hnc, hcs, hcm, htake⟩
  · have hr := run_append_nil (P := Tryz.prog) w 48 ty 5 i (.int .u8 0) ht hi hz ⟨a, o, none⟩ x.length cs (x.map B) hl hnews hx1 (by omega) (by rw [hby]; omega)
    have hgr := grown 0 (by simp; omega) (Value.ownBlock (.slice none 0 0))
    simp only [List.length_nil, Nat.zero_add, List.map_nil, List.nil_append, Array.empty_append] at hgr ⊢
    exact ⟨_, _, hr, hgr.1, hgr.2, Or.inr rfl⟩
  · have holds : ∀ j u, (l.map B)[j]? = some u → w.cell? ((⟨g, 0, none⟩ : Addr).add j) = some u := fun j u hu => by
      rw [addr_add, Nat.zero_add]
      exact OwnB.cells (n := l.length) (c := cap) (.inr ⟨g, cap, cur, rfl, hg, hnc, hcs, hcm, htake⟩) j u hu
    by_cases hroom : l.length + x.length ≤ cap
    · have hr := run_append_room (P := Tryz.prog) w 48 ty 5 i ht hi g l.length cap cur hg ⟨a, o, none⟩ x.length cs (x.map B) hl hnews (B_one x) hroom (by simp [hsize]; omega)
      rw [hsize, Nat.mul_one] at hr
      refine ⟨_, _, hr, .inr ⟨g, cap, _, by rw [hlen], setRow_heap w g cur _ _ _ hg, by rw [hlen]; exact hroom, ?_, hcm, ?_⟩, ⟨rfl, rfl, rfl, by simp, fun q _ hq => setRow_other w g q _ (fun e => hq (by simp [Value.ownBlock, e]))⟩, Or.inl rfl⟩
      · simp only [List.size_toArray, List.length_append, List.length_take, List.length_drop, Array.length_toList, List.length_map]
        omega
      · rw [hmap, hlen, htake]
        exact List.take_left' (by simp)
    · have hr := run_append_grow (P := Tryz.prog) w 48 ty 5 i (.int .u8 0) ht hi hz ⟨g, 0, none⟩ l.length cap (l.map B) (by simp [hsize]) holds ⟨a, o, none⟩ x.length cs (x.map B) hl hnews (by omega) (by omega) (by
            have := nextslicecap_le (need := l.length + x.length) (old := cap) (by omega)
            rw [hby]; omega)
      have hgr := grown cap (by omega) (Value.ownBlock (.slice (some ⟨g, 0, none⟩) l.length cap))
      exact ⟨_, _, hr, hgr.1, hgr.2, Or.inr rfl⟩

theorem u8w (m : Nat) (h : m < 9223372036854775808) : (IntKind.u8.wrap (wrap64 (m : Int)) : Int) = ((UInt8.ofNat m).toNat : Int) := by
  rw [wrap64_small m h, IntKind.wrap_u8]
  simp
set_option maxHeartbeats 1000000 in
set_option maxRecDepth 100000 in
theorem put_any (w : World) (v : Value) (l : Bts) (h : OwnB w v l) (n : Nat) (hn : n < 2147483648) (hl : l.length ≤ 4194304) :
    Calls Tryz.prog 174 #[v, I n] w fun e w' => ∃ v', e = .returned v' ∧ OwnB w' v' (l ++ bytes4 n) ∧ Chg (fun b => v.ownBlock = some b) w w' ∧ (v'.ownBlock = v.ownBlock ∨ ∀ g, v'.ownBlock = some g → w.heap.size ≤ g) := by
  obtain ⟨A, c, rfl, hc⟩ := h.form
  have hbs : ((bytes4 n).map B).toArray = #[Value.int .u8 ((n : Int) / 16777216), .int .u8 ((n : Int) / 65536 % 256), .int .u8 ((n : Int) / 256 % 256), .int .u8 ((n : Int) % 256)] := by
    simp only [bytes4, List.map_cons, List.map_nil, B, UInt8.toNat_ofNat']
    rw [show (n / 16777216) % 2 ^ 8 = n / 16777216 by omega]
    rfl
  obtain ⟨W, hW⟩ : ∃ W, W = w.alloc (.cells ((bytes4 n).map B).toArray 5) := ⟨_, rfl⟩
  have cW : Chg Non w W := by rw [hW]; exact (Chg.refl _ _).alloc _
  have hs : Sl W (.slice (some ⟨w.heap.size, 0, none⟩) 4 4) (bytes4 n) := .inr ⟨w.heap.size, 0, 4, rfl, Nat.le_refl _, by decide, fun j u hu => by
    rw [hW, Nat.zero_add, (Blk.new w _ _).cell j]; simpa using hu⟩
  obtain ⟨v', w', hr, ho, hg, hv⟩ := appendB_run W 48 _ l (h.chg cW fun _ _ => id) _ _ hs (by simp [bytes4]; omega)
  have FIN : Hid (OwnB w' v' (l ++ bytes4 n) ∧ Chg (fun b => (Value.slice A l.length c).ownBlock = some b) w w' ∧ (v'.ownBlock = (Value.slice A l.length c).ownBlock ∨ ∀ g, v'.ownBlock = some g → w.heap.size ≤ g)) := by
    refine ⟨ho, Chg.grown (cW.mono fun _ hf => hf.elim) hg fun g hg => .inl hg, hv.imp id fun e g hg => ?_⟩
    rw [e] at hg; injection hg with hg; have := cW.size; omega
  rw [hW, hbs] at hr
  have RUN := Lib.hid hr
  clear hW cW hs hr ho hg hv hbs
  clear h hc
  obtain ⟨m, hm⟩ : ∃ m, m = l.length := ⟨_, rfl⟩
  rw [← hm] at FIN RUN ⊢
  clear hm hl
  go_enter Tryz.func174, Tryz.ntmps174
  go_wp2_with (at_builtin; refine Lib.wpList_append_run _ rfl (.tmp 5) (.tmp 17) _ _ rfl _ _ rfl rfl _ _ RUN.out ?_)
  go_ret
  exact ⟨_, rfl, FIN.out⟩
end Go.Proofs.YtamhjjagjjdmoaaGreat
end
