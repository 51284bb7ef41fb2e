/- Part 0 of a proof that was merged by a program. -/
import Derived.Below
import Derived.Deep.Draws
import Derived.Deep.AppendLies
import Derived.Maps.AppendAt
import Derived.OwnWalk
import Derived.Laws.BytesArg
import Derived.Laws.MakeOwn
import Derived.Laws.OwnMore
import Derived.Deep.OwnRows
import Derived.Tactics
import Derived.Lib.ConvBytes
import Derived.Laws.Slices
import Derived.WalkKit
import Derived.KernelRfl
import Derived.RowKit3
import Derived.Deep.LoopGhost
import Derived.Deep.QuietTactic
import Derived.BigQuiet
import Derived.WideLaws
import Derived.Deep.DeepCutAuto
import Derived.Deep.CutBlock
import Derived.Deep.RegionHeld3
import Derived.Laws.Rows
import Derived.Lib.AppendStr
import Derived.ArgAppend
import Derived.Laws.IdiomCopy
import Derived.RowKit
import Derived.OrdersHeld
import Derived.Laws.BitsLemmas
import Derived.Laws.CopyOwn
import Derived.Lib.Builder
import Derived.Lib.LaidTab
import Derived.Lib.OthersKept
import Derived.Lib.FrozenHead
import Derived.Lib.ItoaNum
import Derived.Test.YteidaijpaijgpaaGreatDoorProg
import Derived.Test.YteidaijpaijgpaaGreatDoorRows
import Derived.PinnedBridge
import Derived.LaidHandle
import Derived.LaidLaws
import Derived.MakeChecks
import Derived.Stop.LaidErr
import Derived.ProofKit
import Derived.Laws.StructEq
import Derived.OpenShut
import Derived.ChangeArms
import Derived.DataReads
import Derived.DataElems
import Derived.Shelf.Strings.Builder1
import Derived.Shelf.Strings.Builder2
import Derived.Shelf.Strings.OnBuilder
import Derived.Shelf.Strings.Trim
import Derived.Shelf.Small.Utf8
import Derived.Shelf.Small.Strs
import Derived.Shelf.Strings.BuilderF
import Derived.Shelf.Strings.BuilderK
import Derived.Shelf.Strings.Builder2Cap
import Derived.Shelf.Strconv.Itoa0
import Derived.Shelf.Strconv.Itoa1
import Derived.Shelf.LaysM
import Derived.Shelf.Strconv.Itoa2
import Derived.Shelf.Strconv.Itoa3
import Derived.Shelf.Strings.Search1
import Derived.Shelf.Unicode.Decode
import Derived.Shelf.Strings.Runes
import Derived.Shelf.Strings.AsciiSet
import Derived.Shelf.Unicode.DecodeSlow
import Derived.Shelf.Unicode.DecodeAny
import Derived.Shelf.Strings.BuilderCap
import Derived.Lib.ItoaLen
import Derived.Lib.ItoaMem
import Derived.Laws.BitsAllLaws
import Derived.Lib.Hide
import Derived.ShutString
import Derived.ChangeOld
import Derived.Carry
import Derived.SizedLaws
import Derived.Test.YteidaijpaijgpaaGreatDoorCards
import Derived.Test.YteidaijpaijgpaaGreatDoorTie
import Derived.SevenTiedAt
section
set_option linter.unusedVariables false
set_option linter.unusedSimpArgs false
namespace Go.Proofs.YteidaijpaijgpaaGreatDoorW.ay
open Go.RowKit
structure ae (p : Prop) : Prop where mk :: (out : p)
structure eT (w w' : World) : Prop where mk :: (out : ∃ n, w' = w.drewN n)
theorem eT.refl (w : World) : eT w w := ⟨⟨0, rfl⟩⟩
theorem eT.step {w w' : World} (h : eT w w') (n : Nat) : eT w (w'.drewN n) := by
  obtain ⟨m, rfl⟩ := h
  exact ⟨⟨m + n, World.drewN_drewN ..⟩⟩
def rd (xs : List Int) (i : Int) : Int := xs.getD i.toNat 0
def bt (s : ByteArray) (i : Int) : Int := if h : i.toNat < s.size then ((s[i.toNat]'h).toNat : Int) else 0
theorem zH (s : ByteArray) (i : Int) : ∀ h : i.toNat < s.size, ((s[i.toNat]'h).toNat : Int) = bt s i := fun h => by simp [bt, h]
def nums (k : IntKind) (xs : List Int) : List Value := xs.map fun x => .int k x
theorem au {w W : World} (h : Below w.heap.size w W) (o : Obj) : Below w.heap.size w (W.alloc o) := h.alloc h.size o
theorem oL {B : Nat} {w W : World} (h : Below B w W) : Below B w W.drew := ⟨h.os, h.tape, h.output, h.size, h.block⟩
theorem ai {B : Nat} {w W : World} (h : Below B w W) (n : Nat) : Below B w (W.drewN n) := ⟨h.os, h.tape, h.output, h.size, h.block⟩
theorem sJ {B : Nat} {w w1 w2 : World} (h : Below B w w1) (hB : B ≤ w1.heap.size) (k : Below w1.heap.size w1 w2) : Below B w w2 :=
  h.trans ⟨k.os, k.tape, k.output, k.size, fun i hi => k.block i (Nat.lt_of_lt_of_le hi hB)⟩
theorem pY {w w1 : World} (h : Below w.heap.size w w1) {a : Addr} {v : Value} (hc : w.cell? a = some v) : w1.cell? a = some v := (h.cell (World.block_lt_of_cell? w a hc)).trans hc
theorem add_plain (g j : Nat) : (⟨g, 0, none⟩ : Addr).add j = ⟨g, j, none⟩ := by unfold Addr.add; split <;> simp_all
def lW (w : World) (k : IntKind) (A : Option Addr) (n : Nat) (xs : List Int) : Prop :=
  xs.length = n ∧ n ≤ 9223372036854775807 ∧ (0 < n → ∃ ad, A = some ad ∧ ∀ j, j < n → w.cell? (ad.add j) = some (.int k (xs.getD j 0)))
theorem lW.at_ {w : World} {k : IntKind} {A : Option Addr} {n : Nat} {xs : List Int} (h : lW w k A n xs) (i : Int) (h0 : 0 ≤ i) (h1 : i < n) : ∃ ad, A = some ad ∧ w.cell? (ad.add i.toNat) = some (.int k (rd xs i)) := by
  obtain ⟨ad, e, hc⟩ := h.2.2 (by omega)
  exact ⟨ad, e, hc _ (by omega)⟩
theorem um (W : World) (base : Nat) (e : TypeId) (size : Nat) : W.ownsRow base e size (.slice none 0 0) 0 [] := ⟨by simp, .inl ⟨rfl, rfl⟩⟩
theorem lh {w : World} {base : Nat} {e : TypeId} {size n : Nat} {v : Value} {xs : List Value} (h : w.ownsRow base e size v n xs) (k : Nat) (hk : v.ownBlock = some k) : base ≤ k := by
  rcases h.2 with ⟨rfl, _⟩ | ⟨g, cap, cur, rfl, hb, _⟩
  · simp [Value.ownBlock] at hk
  · have : g = k := by simpa [Value.ownBlock] using hk
    omega
theorem sK {w : World} {base : Nat} {e : TypeId} {size n : Nat} {v : Value} {xs : List Value} (h : w.ownsRow base e size v n xs) (k : Nat) (hk : v.ownBlock = some k) : k < w.heap.size := by
  rcases h.2 with ⟨rfl, _⟩ | ⟨g, cap, cur, rfl, hb, hh, _⟩
  · simp [Value.ownBlock] at hk
  · have : g = k := by simpa [Value.ownBlock] using hk
    subst this
    exact (Array.getElem?_eq_some_iff.1 hh).1
theorem uG {w : World} {base n : Nat} {e : TypeId} {size : Nat} {v : Value} {xs : List Value} (h : w.ownsRow base e size v n xs) : ∃ A c, v = .slice A n c := by
  rcases h.2 with ⟨rfl, rfl⟩ | ⟨g, cap, cur, rfl, _⟩
  · exact ⟨none, 0, rfl⟩
  · exact ⟨_, cap, rfl⟩
theorem mU {P : Program} {w : World} {base n : Nat} {e' src dst e : TypeId} {v : Value} {xs : List Int} (hs : P.underlying src = some (.slice e)) (he : P.underlying e = some (.int .u8)) (hd : P.underlying dst = some .string)
    (h : w.ownsRow base e' 1 v n (nums .u8 xs)) : (convert src dst v).run P w = .ok (.string (strOfNums xs)) w := by
  have hl : xs.length = n := by have := h.1; simp [nums] at this; exact this
  rcases h.2 with ⟨rfl, rfl⟩ | ⟨g, cap, cur, rfl, _⟩
  · obtain rfl : xs = [] := List.eq_nil_of_length_eq_zero hl
    exact run_convert_bytes_nil w src e hs he 0 0 dst hd
  · refine run_convert_bytes_arg w src e hs he g 0 n cap xs hl (fun i hi => ?_) dst hd
    have hc := h.cells (g := g) rfl i (.int .u8 (xs.getD i 0)) (by simp [nums, List.getElem?_eq_getElem (show i < xs.length by omega), List.getD_eq_getElem?_getD])
    have ha : (⟨g, 0, none⟩ : Addr).add i = ⟨g, 0 + i, none⟩ := by unfold Addr.add; split <;> simp_all
    rwa [ha] at hc
section
variable {P : Program} {ops : Array Oper} {rest : List Oper} {o : Oper} {a : Act} {Q : Exit → Act → World → Prop}
end
section
variable {P : Program}
end
section
variable {P : Program} {ops : Array Oper} {rest : List Oper} {o : Oper} {a : Act} {Q : Exit → Act → World → Prop}
end
theorem lW.rE {w : World} {k : IntKind} {A : Option Addr} {n : Nat} {xs : List Int} (h : lW w k A n xs) (i : Nat) (hi : i ≤ n) : lW w k A i (xs.take i) := by
  refine ⟨by rw [List.length_take, h.1]; omega, by have := h.2.1; omega, fun hp => ?_⟩
  obtain ⟨ad, e, hc⟩ := h.2.2 (by omega)
  refine ⟨ad, e, fun j hj => ?_⟩
  rw [hc j (by omega)]
  simp [List.getD_eq_getElem?_getD, hj]
def LeO {α : Type} (a b : Option α) : Prop := ∀ r, a = some r → b = some r
theorem LeO.refl {α : Type} (a : Option α) : LeO a a := fun _ h => h
theorem LeO.none {α : Type} (b : Option α) : LeO Option.none b := fun _ h => by cases h
theorem LeO.trans {α : Type} {a b c : Option α} (h : LeO a b) (k : LeO b c) : LeO a c := fun r hr => k r (h r hr)
theorem LeO.ite {α : Type} {c : Prop} [Decidable c] {a a' b b' : Option α} (h : LeO a a') (k : LeO b b') : LeO (if c then a else b) (if c then a' else b') := by
  split
  · exact h
  · exact k
theorem LeO.bind {α β : Type} {a a' : Option α} {f f' : α → Option β} (h : LeO a a') (k : ∀ x, LeO (f x) (f' x)) : LeO (a.bind f) (a'.bind f') := by
  intro r hr
  obtain ⟨x, hx, hf⟩ := Option.bind_eq_some_iff.1 hr
  exact Option.bind_eq_some_iff.2 ⟨x, h x hx, k x r hf⟩
theorem nT {α : Type} {g : Nat → Option α} (h : ∀ k, LeO (g k) (g (k + 1))) (k : Nat) : ∀ j, LeO (g k) (g (k + j))
  | 0 => LeO.refl _
  | j + 1 => (nT h k j).trans (h (k + j))
theorem uH {α : Type} {g : Nat → Option α} (h : ∀ k, LeO (g k) (g (k + 1))) {k k' : Nat} (hk : k ≤ k') {r : α} (hr : g k = some r) : g k' = some r := by
  have := nT h k (k' - k) r hr
  rwa [Nat.add_sub_cancel' hk] at this
def cu {α : Type} (R : α → List Value → Prop) (size : Nat) (ps : List α) (cs : List Value) : Prop :=
  cs.length = ps.length * size ∧ ∀ j p, ps[j]? = some p → R p ((cs.drop (j * size)).take size)
theorem cu.none {α : Type} (R : α → List Value → Prop) (size : Nat) : cu R size [] [] := ⟨by simp, fun j p h => by simp at h⟩
theorem cu.snoc {α : Type} {R : α → List Value → Prop} {size : Nat} {ps : List α} {cs c : List Value} {p : α} (h : cu R size ps cs) (hp : R p c) (hc : c.length = size) : cu R size (ps ++ [p]) (cs ++ c) := by
  refine ⟨by rw [List.length_append, h.1, hc, List.length_append, List.length_singleton, Nat.add_mul, Nat.one_mul], fun j q hq => ?_⟩
  rcases Nat.lt_or_ge j ps.length with hj | hj
  · rw [List.getElem?_append_left hj] at hq
    have h1 : j * size + size ≤ cs.length := by rw [h.1, ← Nat.succ_mul]; exact Nat.mul_le_mul_right _ hj
    have h2 := h.2 j q hq
    rw [List.drop_append_of_le_length (by omega), List.take_append_of_le_length (by rw [List.length_drop]; omega)]
    exact h2
  · have hj' : j = ps.length := by
      have := (List.getElem?_eq_some_iff.1 hq).1
      rw [List.length_append, List.length_singleton] at this
      omega
    subst hj'
    have hq' : p = q := by simpa using hq
    subst hq'
    rw [← h.1, List.drop_left, ← hc, List.take_length]
    exact hp
theorem cu.mH {α : Type} {R R' : α → List Value → Prop} {size : Nat} {ps : List α} {cs : List Value} (h : cu R size ps cs) (hR : ∀ p c, R p c → R' p c) : cu R' size ps cs := ⟨h.1, fun j p hj => hR _ _ (h.2 j p hj)⟩
def iH {α : Type} (R : α → List Value → Prop) (size : Nat) (w : World) (A : Option Addr) (n : Nat) (ps : List α) : Prop :=
  ps.length = n ∧ n ≤ 9223372036854775807 ∧ (0 < n → ∃ ad, A = some ad ∧ ∀ j p, ps[j]? = some p → ∃ c, c.length = size ∧ R p c ∧ ∀ i u, c[i]? = some u → w.cell? (ad.add (j * size + i)) = some u)
theorem iH.BI {α : Type} {R : α → List Value → Prop} {size : Nat} {w : World} {A : Option Addr} {n : Nat} {ps : List α} (h : iH R size w A n ps) (d : α) (i : Int) (h0 : 0 ≤ i) (h1 : i < n) :
    ∃ ad c, A = some ad ∧ c.length = size ∧ R (ps.getD i.toNat d) c ∧ ∀ j u, c[j]? = some u → w.cell? (ad.add (i.toNat * size + j)) = some u := by
  obtain ⟨ad, e, hc⟩ := h.2.2 (by omega)
  have hl : i.toNat < ps.length := by have := h.1; omega
  obtain ⟨c, hs, hr, hcell⟩ := hc i.toNat _ (List.getElem?_eq_getElem hl)
  refine ⟨ad, c, e, hs, ?_, hcell⟩
  rw [List.getD_eq_getElem?_getD, List.getElem?_eq_getElem hl]
  exact hr
theorem iH.mH {α : Type} {R R' : α → List Value → Prop} {size : Nat} {w w1 : World} {A : Option Addr} {n : Nat} {ps : List α} (h : iH R size w A n ps) (hb : Below w.heap.size w w1) (hR : ∀ p c, R p c → R' p c) : iH R' size w1 A n ps :=
  ⟨h.1, h.2.1, fun hn => by
    obtain ⟨ad, e, hc⟩ := h.2.2 hn
    refine ⟨ad, e, fun j p hj => ?_⟩
    obtain ⟨c, hs, hr, hcell⟩ := hc j p hj
    exact ⟨c, hs, hR _ _ hr, fun i u hu => pY hb (hcell i u hu)⟩⟩
theorem qc {α : Type} {R : α → List Value → Prop} {w : World} {base n size : Nat} {e : TypeId} {v : Value} {ps : List α} {cs : List Value} (h : w.ownsRow base e size v n cs) (hR : cu R size ps cs) (hn : ps.length = n) :
    ∃ A c, v = .slice A n c ∧ iH R size w A n ps := by
  rcases Nat.eq_zero_or_pos n with h0 | h0
  · rcases h.2 with ⟨rfl, rfl⟩ | ⟨g, cap, cur, rfl, _⟩
    · exact ⟨none, 0, rfl, hn, by omega, fun hp => absurd hp (by omega)⟩
    · exact ⟨_, cap, rfl, hn, by omega, fun hp => absurd hp (by omega)⟩
  · obtain ⟨g, cap, rfl, _, _⟩ := h.form h0
    have hm : n ≤ 9223372036854775807 := by
      rcases h.2 with ⟨_, h1⟩ | ⟨g', cap', cur, he, _, _, h1, h2, _⟩
      · omega
      · simp only [maxLen] at h2
        omega
    refine ⟨_, cap, rfl, hn, hm, fun _ => ⟨_, rfl, fun j p hj => ⟨(cs.drop (j * size)).take size, ?_, hR.2 j p hj, fun i u hu => ?_⟩⟩⟩
    · have hjl := (List.getElem?_eq_some_iff.1 hj).1
      have h1 : j * size + size ≤ cs.length := by rw [hR.1, ← Nat.succ_mul]; exact Nat.mul_le_mul_right _ hjl
      rw [List.length_take, List.length_drop]
      omega
    · refine h.cells (g := g) rfl _ u ?_
      rw [List.getElem?_take] at hu
      split at hu
      · rw [List.getElem?_drop] at hu
        exact hu
      · cases hu
theorem fK (ad : Addr) (m j : Nat) (hj : 0 < j) : ad.add (m + j) = ⟨(ad.add m).block, (ad.add m).off + j, none⟩ := by
  unfold Addr.add
  by_cases hm : m = 0
  · subst hm
    simp [Nat.ne_of_gt hj]
  · simp [hm, Nat.add_assoc]
section
variable {P : Program} {ops : Array Oper} {rest : List Oper} {o : Oper} {a : Act} {Q : Exit → Act → World → Prop}
theorem mV {w0 W : World} (base : Nat) (hgd : o.guard = none) (s x : Operand) (t e : TypeId) (z : Value) (size bytes : Nat)
    (ho : o.op = .call { callee := .builtin .append, args := #[s, x], argTypes := #[t, t] })
    (ht : P.underlying t = some (.slice e)) (hinfo : (P.info? e).map (fun i => (i.zero, i.size, i.bytes)) = some (some z, size, bytes)) (hz : z.cells.size = size) (hs0 : 0 < size) (hb0 : 0 < bytes)
    (v : Value) (n : Nat) (xs ys : List Value) (hs : a.eval s = v) (hx : a.eval x = .slice (some ⟨W.heap.size, 0, none⟩) 1 1) (hys : ys.length = size) (h1 : ∀ u ∈ ys, u.oneCell' = true)
    (HO : W.ownsRow base e size v n xs) (HB : Below base w0 W) (hbase : base ≤ W.heap.size) (hl : (n + 1) * bytes ≤ 140737488355328)
    (h : ∀ v1 w1, w1.ownsRow base e size v1 (n + 1) (xs ++ ys) → Below base w0 w1 → W.grownBy w1 v.ownBlock → (v1.ownBlock = v.ownBlock ∨ ∃ b, v1.ownBlock = some b ∧ W.heap.size ≤ b) → wpList P ops Q rest (a.put o.dst v1) w1) :
    wpList P ops Q (o :: rest) a (W.alloc (.cells ys.toArray e)) := by
  obtain ⟨i0, hi, hzz⟩ := Option.map_eq_some_iff.1 hinfo
  simp only [Prod.mk.injEq] at hzz
  obtain ⟨hz0, hz1, hz2⟩ := hzz
  have hlen : n + 1 ≤ 140737488355328 := Nat.le_trans (Nat.le_mul_of_pos_right _ hb0) hl
  refine wpList_append_own_at (W.alloc (.cells ys.toArray e)) hgd s x t ho base e i0 z size bytes ht hi hz0 hz1 hz2 hz hs0 v n xs hs (HO.alloc _) ⟨W.heap.size, 0, none⟩ 1 1 ys hx (by rw [hys]; simp)
    (by simpa using World.news_of_block (cs := ys.toArray) (t := e) (fr := (0, 0)) (heap_alloc_new W (.cells ys.toArray e))) h1 (by simp only [maxLen]; omega) hl (by simp; omega) ?_
  intro v1 w1 hown hg _ hat
  refine h v1 w1 hown ((HB.alloc hbase _).grown hg (by simp; omega) (lh HO)) (World.grownBy.trans (World.grownBy_alloc W _ _) hg) ?_
  rcases hat with hat | hat
  · exact .inl hat
  · exact .inr ⟨_, hat, by simp⟩
end
theorem own_ne {w : World} {base : Nat} {e t : TypeId} {size n g : Nat} {v : Value} {xs : List Value} {cs : Array Value} (h : w.ownsRow base e size v n xs) (hg : w.heap[g]? = some (.cells cs t (0, 0))) (hne : e ≠ t) : some g ≠ v.ownBlock := by
  rcases h.2 with ⟨rfl, _⟩ | ⟨g', cap, cur, rfl, _, hh, _⟩
  · simp [Value.ownBlock]
  · intro he
    have : g = g' := by simpa [Value.ownBlock] using he
    subst this
    rw [hg] at hh
    injection hh with hh
    injection hh with _ ht
    exact hne ht.symm
theorem xI {w : World} {g : Nat} {t : TypeId} {cs : Array Value} (h : w.heap[g]? = some (.cells cs t (0, 0))) (i : Nat) (u : Value) : (w.setCell ⟨g, i, none⟩ u).heap[g]? = some (.cells (cs.setIfInBounds i u) t (0, 0)) := by
  simp [World.setCell, Array.getElem?_modify, h]
theorem jH {w : World} {g : Nat} {t : TypeId} {cs : Array Value} (h : w.heap[g]? = some (.cells cs t (0, 0))) {p : Addr} (hp : g ≠ p.block) (u : Value) : (w.setCell p u).heap[g]? = some (.cells cs t (0, 0)) := (Below.heap_setCell w p u g hp).trans h
theorem ky {w : World} {g : Nat} {o : Obj} (h : w.heap[g]? = some o) : g < w.heap.size := (Array.getElem?_eq_some_iff.1 h).1
theorem af {w : World} {g : Nat} {t : TypeId} {cs : Array Value} (h : w.heap[g]? = some (.cells cs t (0, 0))) (i : Nat) : w.cell? ⟨g, i, none⟩ = cs[i]? := cell_of_row w g i cs t (0, 0) h
theorem ah {w : World} {g : Nat} {t : TypeId} {cs : Array Value} (h : w.heap[g]? = some (.cells cs t (0, 0))) (i : Nat) : w.frozen? ⟨g, i, none⟩ = false := by simp [World.frozen?, h]
theorem jO {w w1 : World} {g : Nat} {o : Obj} {row : Option Nat} (h : w.heap[g]? = some o) (hg : w.grownBy w1 row) (hne : some g ≠ row) : w1.heap[g]? = some o := (hg.block g (ky h) hne).trans h
def oG (w w' : World) (g : Nat) (row : Option Nat) : Prop := w.heap.size ≤ w'.heap.size ∧ ∀ i, i < w.heap.size → i ≠ g → some i ≠ row → w'.heap[i]? = w.heap[i]?
theorem oG.trans {w w1 w2 : World} {g : Nat} {row row1 : Option Nat} (h : oG w w1 g row) (k : oG w1 w2 g row1) (hr : row1 = row ∨ ∃ b, row1 = some b ∧ w.heap.size ≤ b) : oG w w2 g row :=
  ⟨Nat.le_trans h.1 k.1, fun i hi hg hn => by
    refine (k.2 i (Nat.lt_of_lt_of_le hi h.1) hg ?_).trans (h.2 i hi hg hn)
    rcases hr with rfl | ⟨b, rfl, hb⟩
    · exact hn
    · intro e
      injection e with e
      omega⟩
def Ev {α : Type} (g : Nat → Option α) (r : α) : Prop := ∃ K, ∀ k, K ≤ k → g k = some r
theorem Ev.of {α : Type} {g : Nat → Option α} {r : α} (hg : ∀ k, LeO (g k) (g (k + 1))) {k : Nat} (h : g k = some r) : Ev g r := ⟨k, fun _ hk => uH hg hk h⟩
theorem Ev.now {α : Type} (r : α) : Ev (fun _ => some r) r := ⟨0, fun _ _ => rfl⟩
theorem Ev.rounds {α : Type} {g : Nat → Option α} {r : α} (h : Ev g r) : ∃ k, g k = some r := by
  obtain ⟨K, h⟩ := h
  exact ⟨K, h K (Nat.le_refl _)⟩
theorem Ev.bind {α β : Type} {g : Nat → Option α} {f : Nat → α → Option β} {a : α} {r : β} (h : Ev g a) (k : Ev (fun n => f n a) r) : Ev (fun n => (g n).bind (f n)) r := by
  obtain ⟨K, h⟩ := h
  obtain ⟨K', k⟩ := k
  refine ⟨max K K', fun n hn => ?_⟩
  have h1 := h n (by omega)
  have h2 := k n (by omega)
  simp only [h1, Option.bind_some]
  exact h2
theorem Ev.step {α : Type} {g f : Nat → Option α} {r : α} (h : ∀ k, g (k + 1) = f k) (k : Ev f r) : Ev g r := by
  obtain ⟨K, k⟩ := k
  refine ⟨K + 1, fun n hn => ?_⟩
  obtain ⟨m, rfl⟩ : ∃ m, n = m + 1 := ⟨n - 1, by omega⟩
  rw [h]
  exact k m (by omega)
theorem Ev.congr {α : Type} {g f : Nat → Option α} {r : α} (h : ∀ k, g k = f k) (k : Ev f r) : Ev g r := by
  obtain ⟨K, k⟩ := k
  exact ⟨K, fun n hn => (h n).trans (k n hn)⟩
section
variable {P : Program} {ops : Array Oper} {o : Oper} {a : Act} {Q : Exit → Act → World → Prop} {K : Act → World → Prop}
end
theorem sM {w : World} {base base' : Nat} {e : TypeId} {size n : Nat} {v : Value} {xs : List Value} (h : w.ownsRow base e size v n xs) (hb : base' ≤ base) : w.ownsRow base' e size v n xs := by
  obtain ⟨h1, h2⟩ := h
  refine ⟨h1, ?_⟩
  rcases h2 with h2 | ⟨g, cap, cur, rfl, hg, r⟩
  · exact .inl h2
  · exact .inr ⟨g, cap, cur, rfl, Nat.le_trans hb hg, r⟩
section
variable {α : Type} {enc : α → Value} {d : α}
def encs (enc : α → Value) (xs : List α) : List Value := xs.map enc
def ol (d : α) (xs : List α) (i : Int) : α := xs.getD i.toNat d
theorem nU (xs : List α) : (encs enc xs).length = xs.length := by simp [encs]
theorem vK (xs : List α) (j : Nat) (h : j < xs.length) : (encs enc xs)[j]? = some (enc (xs.getD j d)) := by
  simp [encs, List.getElem?_eq_getElem h, List.getD_eq_getElem?_getD]
def kM (enc : α → Value) (d : α) (w : World) (A : Option Addr) (n : Nat) (xs : List α) : Prop :=
  xs.length = n ∧ n ≤ 9223372036854775807 ∧ (0 < n → ∃ ad, A = some ad ∧ ∀ j, j < n → w.cell? (ad.add j) = some (enc (xs.getD j d)))
theorem kM.at_ {w : World} {A : Option Addr} {n : Nat} {xs : List α} (h : kM enc d w A n xs) (i : Int) (h0 : 0 ≤ i) (h1 : i < n) : ∃ ad, A = some ad ∧ w.cell? (ad.add i.toNat) = some (enc (ol d xs i)) := by
  obtain ⟨ad, e, hc⟩ := h.2.2 (by omega)
  exact ⟨ad, e, hc _ (by omega)⟩
theorem kM.rE {w : World} {A : Option Addr} {n : Nat} {xs : List α} (h : kM enc d w A n xs) (i : Nat) (hi : i ≤ n) : kM enc d w A i (xs.take i) := by
  refine ⟨by rw [List.length_take, h.1]; omega, by have := h.2.1; omega, fun hp => ?_⟩
  obtain ⟨ad, e, hc⟩ := h.2.2 (by omega)
  refine ⟨ad, e, fun j hj => ?_⟩
  rw [hc j (by omega)]
  simp [List.getD_eq_getElem?_getD, hj]
theorem uI {W : World} {base g n cap : Nat} {e : TypeId} {xs : List α} (h : W.ownsRow base e 1 (.slice (some ⟨g, 0, none⟩) n cap) n (encs enc xs)) (i : Int) (h0 : 0 ≤ i) (h1 : i < n) :
    W.cell? ⟨g, i.toNat, none⟩ = some (enc (ol d xs i)) ∧ W.frozen? ⟨g, i.toNat, none⟩ = false := by
  have hl : xs.length = n := by have := h.1; simp [encs] at this; exact this
  constructor
  · have hc := h.cells (g := g) rfl i.toNat _ (vK (d := d) xs i.toNat (by omega))
    rwa [add_plain] at hc
  · rcases h.2 with ⟨h', _⟩ | ⟨g', cap', cur, h', _, hh, _⟩
    · cases h'
    · have : g = g' := by injection h' with h'; injection h' with h'; injection h' with h'
      subst this
      simp [World.frozen?, hh]
theorem qD {W : World} {base g n cap : Nat} {e : TypeId} {xs : List α} (h : W.ownsRow base e 1 (.slice (some ⟨g, 0, none⟩) n cap) n (encs enc xs)) (i : Int) (x : α) :
    (W.setCell ⟨g, i.toNat, none⟩ (enc x)).ownsRow base e 1 (.slice (some ⟨g, 0, none⟩) n cap) n (encs enc (xs.set i.toNat x)) ∧ W.grownBy (W.setCell ⟨g, i.toNat, none⟩ (enc x)) (some g) := by
  have hs := h.stored i.toNat (enc x)
  have he : (encs enc xs).set i.toNat (enc x) = encs enc (xs.set i.toNat x) := by simp [encs, List.map_set]
  rwa [he] at hs
end
section
variable {α : Type} {P : Program} {ops : Array Oper} {rest : List Oper} {o : Oper} {a : Act} {Q : Exit → Act → World → Prop}
end
def zI (v v' : Value) : Prop := ∀ k, v.ownBlock = some k → v'.ownBlock ≠ some k
theorem zJ {W w1 : World} {v1 v' : Value} {base n size n1 size1 : Nat} {e e1 : TypeId} {xs xs1 : List Value} (h1 : w1.ownsRow W.heap.size e1 size1 v1 n1 xs1) (ho : W.ownsRow base e size v' n xs) : zI v1 v' := by
  intro k hk hk'
  have h2 := lh h1 k hk
  have h3 := sK ho k hk'
  omega
theorem gy {w : World} {g : Nat} {o : Obj} (h : w.heap[g]? = some o) (o' : Obj) : (w.alloc o').heap[g]? = some o := (Below.heap_alloc w o' g (ky h)).trans h
theorem dQ {w : World} {g : Nat} {o : Obj} (h : w.heap[g]? = some o) : w.drew.heap[g]? = some o := h
theorem gz {w : World} {g : Nat} {o : Obj} (h : w.heap[g]? = some o) (n : Nat) : (w.drewN n).heap[g]? = some o := h
theorem ji {w w1 : World} {g : Nat} {o : Obj} (h : w.heap[g]? = some o) (hb : Below w.heap.size w w1) : w1.heap[g]? = some o := (hb.block g (ky h)).trans h
theorem xJ (w : World) (o : Obj) : (w.alloc o).heap[w.heap.size]? = some o := heap_alloc_new w o
section
variable {P : Program}
end
theorem yZ {w : World} {base n m c size : Nat} {e : TypeId} {A : Option Addr} {xs : List Value} (h : w.ownsRow base e size (.slice A m c) n xs) : m ≤ c := by
  rcases h.2 with ⟨he, _⟩ | ⟨g, cap, cur, he, _, _, hnc, _⟩
  · injection he with _ h2 h3
    omega
  · injection he with _ h2 h3
    omega
def jP {α : Type} (R : α → List Value → Prop) (e : TypeId) (size : Nat) (w : World) (base : Nat) (v : Value) (ps : List α) : Prop :=
  ∃ inner, w.ownsRow base e size v ps.length inner ∧ cu R size ps inner
section
variable {α : Type} {R R' : α → List Value → Prop} {e : TypeId} {size : Nat} {w w1 : World} {base : Nat} {v : Value} {ps : List α}
theorem jP.none_ (R : α → List Value → Prop) (e : TypeId) (size : Nat) (w : World) (base : Nat) : jP R e size w base (.slice none 0 0) [] := ⟨[], um _ _ _ _, cu.none _ _⟩
theorem jP.mH (h : jP R e size w base v ps) (hR : ∀ p c, R p c → R' p c) : jP R' e size w base v ps := by
  obtain ⟨inner, ho, hr⟩ := h
  exact ⟨inner, ho, hr.mH hR⟩
theorem jP.reads (h : jP R e size w base v ps) : ∃ A c, v = .slice A ps.length c ∧ ps.length ≤ c ∧ iH R size w A ps.length ps := by
  obtain ⟨inner, ho, hr⟩ := h
  obtain ⟨A, c, rfl, hrow⟩ := qc ho hr rfl
  exact ⟨A, c, rfl, yZ ho, hrow⟩
theorem jP.vL (h : jP R e size w base v ps) {g : Nat} {t : TypeId} {cells : Array Value} (hb : w.heap[g]? = some (.cells cells t (0, 0))) (ht : e ≠ t) : some g ≠ v.ownBlock := by
  obtain ⟨inner, ho, hr⟩ := h
  exact own_ne ho hb ht
end
section
variable {P : Program} {ops : Array Oper} {rest : List Oper} {o : Oper} {a : Act} {Q : Exit → Act → World → Prop} {α : Type} {R : α → List Value → Prop}
end
section
variable {P : Program} {ops : Array Oper} {o : Oper} {a : Act} {Q : Exit → Act → World → Prop} {K : Act → World → Prop} {α : Type} {R : α → List Value → Prop}
end
theorem iH.za {α : Type} {R : α → List Value → Prop} {size : Nat} {w : World} {ad : Addr} {n : Nat} {ps : List α} (h : iH R size w (some ad) n ps) :
    ∃ inner, cu R size ps inner ∧ ∀ j u, inner[j]? = some u → w.cell? (ad.add j) = some u := by
  have key : ∀ m, m ≤ ps.length → ∃ inner, cu R size (ps.take m) inner ∧ ∀ j u, inner[j]? = some u → w.cell? (ad.add j) = some u := by
    intro m
    induction m with
    | zero => exact fun _ => ⟨[], cu.none _ _, fun j u hu => by simp at hu⟩
    | succ m ih =>
      intro hm
      obtain ⟨inner, hr, hc⟩ := ih (by omega)
      obtain ⟨ad', he, hcell⟩ := h.2.2 (by have := h.1; omega)
      injection he with he
      subst he
      obtain ⟨c, hcl, hp, hcc⟩ := hcell m _ (List.getElem?_eq_getElem (show m < ps.length by omega))
      refine ⟨inner ++ c, ?_, fun j u hu => ?_⟩
      · rw [List.take_succ_eq_append_getElem (show m < ps.length by omega)]
        exact hr.snoc hp hcl
      · have hil : inner.length = m * size := by rw [hr.1, List.length_take, Nat.min_eq_left (by omega)]
        rcases Nat.lt_or_ge j inner.length with hj | hj
        · rw [List.getElem?_append_left hj] at hu
          exact hc j u hu
        · rw [List.getElem?_append_right hj] at hu
          have := hcc (j - inner.length) u hu
          rwa [hil, Nat.add_sub_cancel' (by omega)] at this
  obtain ⟨inner, hr, hc⟩ := key ps.length (Nat.le_refl _)
  rw [List.take_length] at hr
  exact ⟨inner, hr, hc⟩
section
variable {α : Type} {P : Program}
end
section
variable {P : Program} {ops : Array Oper} {rest : List Oper} {o : Oper} {a : Act} {Q : Exit → Act → World → Prop}
end
structure Kd (α : Type) where
  sz : Nat
  E : List Nat
  K : World → α → List Value → Prop
  M : World → Nat → (Nat → Prop) → α → List Value → Prop
  K_len : ∀ {w x cs}, K w x cs → cs.length = sz
  K_one : ∀ {w x cs}, K w x cs → ∀ u ∈ cs, u.oneCell' = true
  K_below : ∀ {w w1 : World} {x cs}, Below w.heap.size w w1 → K w x cs → K w1 x cs
  K_of_M : ∀ {w base ok x cs}, M w base ok x cs → K w x cs
  M_mono : ∀ {w base ok ok' x cs}, (∀ k, ok k → ok' k) → M w base ok x cs → M w base ok' x cs
  M_bound : ∀ {w : World} {base ok x cs}, M w base ok x cs → M w base (fun k => ok k ∧ base ≤ k ∧ k < w.heap.size ∧ ∃ q, q ∈ E ∧ ∃ cells, w.heap[k]? = some (.cells cells q (0, 0))) x cs
  M_move : ∀ {w w1 : World} {base ok x cs}, (∀ k, ok k → w1.heap[k]? = w.heap[k]?) → M w base ok x cs → M w1 base ok x cs
  M_lower : ∀ {w base base' ok x cs}, base' ≤ base → M w base ok x cs → M w base' ok x cs
theorem vM {w w1 : World} {base : Nat} {e : TypeId} {size n : Nat} {v : Value} {xs : List Value} (h : w.ownsRow base e size v n xs) (hm : ∀ k, v.ownBlock = some k → w1.heap[k]? = w.heap[k]?) : w1.ownsRow base e size v n xs := by
  obtain ⟨h1, h2⟩ := h
  refine ⟨h1, ?_⟩
  rcases h2 with h2 | ⟨g, cap, cur, rfl, hg, hh, r⟩
  · exact .inl h2
  · exact .inr ⟨g, cap, cur, rfl, hg, (hm g (by simp [Value.ownBlock])).trans hh, r⟩
theorem nN {w : World} {base : Nat} {e : TypeId} {size n : Nat} {v : Value} {xs : List Value} (h : w.ownsRow base e size v n xs) (k : Nat) (hk : v.ownBlock = some k) : ∃ cells, w.heap[k]? = some (.cells cells e (0, 0)) := by
  rcases h.2 with ⟨rfl, _⟩ | ⟨g, cap, cur, rfl, hg, hh, r⟩
  · simp [Value.ownBlock] at hk
  · have : g = k := by simpa [Value.ownBlock] using hk
    subst this
    exact ⟨cur, hh⟩
namespace Kd
def C {α : Type} (d : Kd α) (w : World) (A : Option Addr) (n : Nat) (xs : List α) : Prop := iH (d.K w) d.sz w A n xs
def R {α : Type} (d : Kd α) (e : Nat) (w : World) (base : Nat) (ok : Nat → Prop) (v : Value) (xs : List α) : Prop :=
  (∀ k, v.ownBlock = some k → ok k) ∧ jP (d.M w base (fun k => ok k ∧ some k ≠ v.ownBlock)) e d.sz w base v xs
section
variable {α : Type} {d : Kd α} {e : Nat} {w w1 : World} {base : Nat} {ok ok' : Nat → Prop} {v : Value} {xs : List α}
theorem dC {A : Option Addr} {n : Nat} (h : d.C w A n xs) (hb : Below w.heap.size w w1) : d.C w1 A n xs := iH.mH h hb (fun _ _ hp => d.K_below hb hp)
theorem gm (d : Kd α) (e : Nat) (w : World) (base : Nat) (ok : Nat → Prop) : d.R e w base ok (.slice none 0 0) [] := ⟨fun k hk => by simp [Value.ownBlock] at hk, jP.none_ _ _ _ _ _⟩
theorem gu (h : d.R e w base ok v xs) (hok : ∀ k, ok k → ok' k) : d.R e w base ok' v xs := ⟨fun k hk => hok k (h.1 k hk), h.2.mH (fun _ _ hp => d.M_mono (fun k hk => ⟨hok k hk.1, hk.2⟩) hp)⟩
theorem iR (h : d.R e w base ok v xs) : d.R e w base (fun k => ok k ∧ base ≤ k ∧ k < w.heap.size ∧ ∃ q, q ∈ e :: d.E ∧ ∃ cells, w.heap[k]? = some (.cells cells q (0, 0))) v xs := by
  obtain ⟨h0, inner, ho, hr⟩ := h
  refine ⟨fun k hk => ?_, inner, ho, hr.mH (fun _ _ hp => d.M_mono (fun k hk => ?_) (d.M_bound hp))⟩
  · obtain ⟨cells, hc⟩ := nN ho k hk
    exact ⟨h0 k hk, lh ho k hk, sK ho k hk, e, List.mem_cons_self, cells, hc⟩
  · obtain ⟨⟨h1, h2⟩, h3, h4, q, hq, hc⟩ := hk
    exact ⟨⟨h1, h3, h4, q, List.mem_cons_of_mem _ hq, hc⟩, h2⟩
theorem nO (h : d.R e w base ok v xs) (hm : ∀ k, ok k → w1.heap[k]? = w.heap[k]?) : d.R e w1 base ok v xs := by
  obtain ⟨h0, inner, ho, hr⟩ := h
  exact ⟨h0, inner, vM ho (fun k hk => hm k (h0 k hk)), hr.mH (fun _ _ hp => d.M_move (fun k hk => hm k hk.1) hp)⟩
theorem dI {base' : Nat} (h : d.R e w base ok v xs) (hb : base' ≤ base) : d.R e w base' ok v xs := by
  obtain ⟨h0, inner, ho, hr⟩ := h
  exact ⟨h0, inner, sM ho hb, hr.mH (fun _ _ hp => d.M_lower hb hp)⟩
theorem oM (h : d.R e w base ok v xs) (hm : ∀ k, ok k → k < w.heap.size → w1.heap[k]? = w.heap[k]?) : d.R e w1 base ok v xs :=
  gu (nO (iR h) (fun k hk => hm k hk.1 hk.2.2.1)) (fun _ hk => hk.1)
theorem zb {x : α} {cs : List Value} (h : d.M w base ok x cs) (hm : ∀ k, ok k → k < w.heap.size → w1.heap[k]? = w.heap[k]?) : d.M w1 base ok x cs :=
  d.M_mono (fun _ hk => hk.1) (d.M_move (fun k hk => hm k hk.1 hk.2.2.1) (d.M_bound h))
theorem bD (h : d.R e w base ok v xs) (hb : Below w.heap.size w w1) : d.R e w1 base ok v xs := oM h (fun k _ hk => hb.block k hk)
theorem uo {x : α} {cs : List Value} (h : d.M w base ok x cs) (hb : Below w.heap.size w w1) : d.M w1 base ok x cs := zb h (fun k _ hk => hb.block k hk)
theorem iI (h : d.R e w base ok v xs) {p : Addr} (hok : ∀ k, ok k → k ≠ p.block) (u : Value) : d.R e (w.setCell p u) base ok v xs := oM h (fun k ho _ => Below.heap_setCell w p u k (hok k ho))
theorem lC (h : d.R e w base ok v xs) {g t : Nat} {cells : Array Value} (hb : w.heap[g]? = some (.cells cells t (0, 0))) (ht : ∀ q, q ∈ e :: d.E → q ≠ t) : d.R e w base (fun k => ok k ∧ k ≠ g) v xs :=
  gu (iR h) (fun k hk => ⟨hk.1, by
    obtain ⟨_, _, _, q, hq, cells', hc⟩ := hk
    rintro rfl
    rw [hc] at hb
    injection hb with hb
    injection hb with _ hb
    exact ht q hq hb⟩)
theorem qE (h : d.R e w base ok v xs) : ∃ A c, v = .slice A xs.length c ∧ xs.length ≤ c ∧ d.C w A xs.length xs := by
  obtain ⟨A, c, he, hl, hr⟩ := jP.reads h.2
  exact ⟨A, c, he, hl, hr.mH (Below.refl _ _) (fun _ _ hp => d.K_of_M hp)⟩
theorem dM (h : d.R e w base ok v xs) : ∃ A c, v = .slice A xs.length c := by
  obtain ⟨A, c, he, _⟩ := qE h
  exact ⟨A, c, he⟩
theorem rF (h : d.R e w base ok v xs) : ∃ inner, w.ownsRow base e d.sz v xs.length inner := by
  obtain ⟨_, inner, ho, _⟩ := h
  exact ⟨inner, ho⟩
theorem sN (h : d.R e w base ok v xs) {g t : Nat} {cells : Array Value} (hb : w.heap[g]? = some (.cells cells t (0, 0))) (ht : e ≠ t) : some g ≠ v.ownBlock := jP.vL h.2 hb ht
end
def scalar {α : Type} (enc : α → Value) (h1 : ∀ x, (enc x).oneCell' = true) : Kd α where
  sz := 1
  E := []
  K := fun _ x cs => cs = [enc x]
  M := fun _ _ _ x cs => cs = [enc x]
  K_len := fun h => by rw [h]; rfl
  K_one := fun h u hu => by
    rw [h] at hu
    rw [List.mem_singleton.1 hu]
    exact h1 _
  K_below := fun _ h => h
  K_of_M := fun h => h
  M_mono := fun _ h => h
  M_bound := fun h => h
  M_move := fun _ h => h
  M_lower := fun _ h => h
def int (k : IntKind) : Kd Int := scalar (Value.int k) (fun _ => rfl)
def bool : Kd Bool := scalar Value.bool (fun _ => rfl)
def string : Kd ByteArray := scalar Value.string (fun _ => rfl)
def slice {α : Type} (e : Nat) (d : Kd α) : Kd (List α) where
  sz := 1
  E := e :: d.E
  K := fun w xs cs => ∃ A c, cs = [.slice A xs.length c] ∧ xs.length ≤ c ∧ d.C w A xs.length xs
  M := fun w base ok xs cs => ∃ v, cs = [v] ∧ d.R e w base ok v xs
  K_len := by
    rintro w x cs ⟨A, c, rfl, _⟩
    rfl
  K_one := by
    rintro w x cs ⟨A, c, rfl, _⟩ u hu
    rw [List.mem_singleton.1 hu]
    rfl
  K_below := by
    rintro w w1 x cs hb ⟨A, c, rfl, hl, hr⟩
    exact ⟨A, c, rfl, hl, dC hr hb⟩
  K_of_M := by
    rintro w base ok x cs ⟨v, rfl, h⟩
    obtain ⟨A, c, rfl, hl, hr⟩ := qE h
    exact ⟨A, c, rfl, hl, hr⟩
  M_mono := by
    rintro w base ok ok' x cs hok ⟨v, rfl, h⟩
    exact ⟨v, rfl, gu h hok⟩
  M_bound := by
    rintro w base ok x cs ⟨v, rfl, h⟩
    exact ⟨v, rfl, iR h⟩
  M_move := by
    rintro w w1 base ok x cs hm ⟨v, rfl, h⟩
    exact ⟨v, rfl, nO h hm⟩
  M_lower := by
    rintro w base base' ok x cs hb ⟨v, rfl, h⟩
    exact ⟨v, rfl, dI h hb⟩
def pair {α β : Type} (a : Kd α) (b : Kd β) : Kd (α × β) where
  sz := a.sz + b.sz
  E := a.E ++ b.E
  K := fun w x cs => ∃ c0 c1, cs = c0 ++ c1 ∧ a.K w x.1 c0 ∧ b.K w x.2 c1
  M := fun w base ok x cs => ∃ c0 c1, cs = c0 ++ c1 ∧ a.M w base ok x.1 c0 ∧ b.M w base ok x.2 c1
  K_len := by
    rintro w x cs ⟨c0, c1, rfl, h0, h1⟩
    rw [List.length_append, a.K_len h0, b.K_len h1]
  K_one := by
    rintro w x cs ⟨c0, c1, rfl, h0, h1⟩ u hu
    rcases List.mem_append.1 hu with hu | hu
    · exact a.K_one h0 u hu
    · exact b.K_one h1 u hu
  K_below := by
    rintro w w1 x cs hb ⟨c0, c1, rfl, h0, h1⟩
    exact ⟨c0, c1, rfl, a.K_below hb h0, b.K_below hb h1⟩
  K_of_M := by
    rintro w base ok x cs ⟨c0, c1, rfl, h0, h1⟩
    exact ⟨c0, c1, rfl, a.K_of_M h0, b.K_of_M h1⟩
  M_mono := by
    rintro w base ok ok' x cs hok ⟨c0, c1, rfl, h0, h1⟩
    exact ⟨c0, c1, rfl, a.M_mono hok h0, b.M_mono hok h1⟩
  M_bound := by
    rintro w base ok x cs ⟨c0, c1, rfl, h0, h1⟩
    refine ⟨c0, c1, rfl, a.M_mono ?_ (a.M_bound h0), b.M_mono ?_ (b.M_bound h1)⟩
    · rintro k ⟨h2, h3, h4, q, hq, hc⟩
      exact ⟨h2, h3, h4, q, List.mem_append_left _ hq, hc⟩
    · rintro k ⟨h2, h3, h4, q, hq, hc⟩
      exact ⟨h2, h3, h4, q, List.mem_append_right _ hq, hc⟩
  M_move := by
    rintro w w1 base ok x cs hm ⟨c0, c1, rfl, h0, h1⟩
    exact ⟨c0, c1, rfl, a.M_move hm h0, b.M_move hm h1⟩
  M_lower := by
    rintro w base base' ok x cs hb ⟨c0, c1, rfl, h0, h1⟩
    exact ⟨c0, c1, rfl, a.M_lower hb h0, b.M_lower hb h1⟩
def iso {α β : Type} (d : Kd α) (f : β → α) : Kd β where
  sz := d.sz
  E := d.E
  K := fun w x cs => d.K w (f x) cs
  M := fun w base ok x cs => d.M w base ok (f x) cs
  K_len := d.K_len
  K_one := d.K_one
  K_below := d.K_below
  K_of_M := d.K_of_M
  M_mono := d.M_mono
  M_bound := d.M_bound
  M_move := d.M_move
  M_lower := d.M_lower
def bot {α : Type} (sz : Nat) (E : List Nat) : Kd α where
  sz := sz
  E := E
  K := fun _ _ _ => False
  M := fun _ _ _ _ _ => False
  K_len := fun h => h.elim
  K_one := fun h => h.elim
  K_below := fun _ h => h
  K_of_M := fun h => h
  M_mono := fun _ h => h
  M_bound := fun h => h
  M_move := fun _ h => h
  M_lower := fun _ h => h
def upto {α : Type} (F : Kd α → Kd α) (sz : Nat) (E : List Nat) : Nat → Kd α
  | 0 => bot sz E
  | n + 1 => F (upto F sz E n)
theorem nV {α : Type} {d : Kd α} {w : World} {A : Option Addr} {n : Nat} {xs : List α} (h : d.C w A n xs) (z : α) (i : Int) (h0 : 0 ≤ i) (h1 : i < n) :
    ∃ ad c, A = some ad ∧ c.length = d.sz ∧ d.K w (xs.getD i.toNat z) c ∧ ∀ j u, c[j]? = some u → w.cell? (ad.add (i.toNat * d.sz + j)) = some u := iH.BI h z i h0 h1
theorem sO {α : Type} {d : Kd α} {e base : Nat} {ok okp : Nat → Prop} {W w1 : World} {v v1 : Value} {xs : List α} {p : α} {inner cs : List Value} (h0 : ∀ k, v.ownBlock = some k → ok k) (hr : cu (d.M W base (fun k => ok k ∧ some k ≠ v.ownBlock)) d.sz xs inner) (hp : d.M W base okp p cs) (hokp : ∀ k, okp k → ok k ∧ some k ≠ v.ownBlock) (hfresh : ∀ k, W.heap.size ≤ k → ok k)
    (hown : w1.ownsRow base e d.sz v1 (xs.length + 1) (inner ++ cs)) (hg : W.grownBy w1 v.ownBlock) (hat : v1.ownBlock = v.ownBlock ∨ ∃ b, v1.ownBlock = some b ∧ W.heap.size ≤ b) : d.R e w1 base ok v1 (xs ++ [p]) := by
  have hne : ∀ k, some k ≠ v.ownBlock → k < W.heap.size → some k ≠ v1.ownBlock := by
    intro k hk hlt
    rcases hat with hat | ⟨b, hb, hle⟩
    · rw [hat]; exact hk
    · rw [hb]
      intro he
      injection he with he
      omega
  have step : ∀ {q : α} {c : List Value} {o : Nat → Prop}, d.M W base o q c → (∀ k, o k → ok k ∧ some k ≠ v.ownBlock) → d.M w1 base (fun k => ok k ∧ some k ≠ v1.ownBlock) q c := by
    intro q c o hq ho
    have h1 := d.M_move (w1 := w1) (fun k hk => hg.block k hk.2.2.1 (ho k hk.1).2) (d.M_bound hq)
    exact d.M_mono (fun k hk => ⟨(ho k hk.1).1, hne k (ho k hk.1).2 hk.2.2.1⟩) h1
  refine ⟨fun k hk => ?_, inner ++ cs, by rw [List.length_append, List.length_singleton]; exact hown, ?_⟩
  · rcases hat with hat | ⟨b, hb, hle⟩
    · exact h0 k (hat ▸ hk)
    · rw [hb] at hk
      injection hk with hk
      exact hfresh k (by omega)
  · exact (hr.mH (fun _ _ hq => step hq (fun _ hk => hk))).snoc (step hp hokp) (d.K_len (d.K_of_M hp))
section
variable {P : Program} {ops : Array Oper} {rest : List Oper} {o : Oper} {a : Act} {Q : Exit → Act → World → Prop} {α : Type}
theorem ll (d : Kd α) {w0 W : World} (base : Nat) (hgd : o.guard = none) (s x : Operand) (t e : TypeId) (z : Value) (bytes : Nat)
    (ho : o.op = .call { callee := .builtin .append, args := #[s, x], argTypes := #[t, t] })
    (ht : P.underlying t = some (.slice e)) (hinfo : (P.info? e).map (fun i => (i.zero, i.size, i.bytes)) = some (some z, d.sz, bytes)) (hz : z.cells.size = d.sz) (hs0 : 0 < d.sz) (hb0 : 0 < bytes)
    (v : Value) (xs : List α) (p : α) (cs : List Value) (ok okp : Nat → Prop) (hs : a.eval s = v) (hx : a.eval x = .slice (some ⟨W.heap.size, 0, none⟩) 1 1) (hp : d.M W base okp p cs) (hokp : ∀ k, okp k → ok k ∧ some k ≠ v.ownBlock) (hfresh : ∀ k, W.heap.size ≤ k → ok k)
    (HO : d.R e W base ok v xs) (HB : Below base w0 W) (hbase : base ≤ W.heap.size) (hl : (xs.length + 1) * bytes ≤ 140737488355328)
    (h : ∀ v1 w1, d.R e w1 base ok v1 (xs ++ [p]) → Below base w0 w1 → W.grownBy w1 v.ownBlock → (v1.ownBlock = v.ownBlock ∨ ∃ b, v1.ownBlock = some b ∧ W.heap.size ≤ b) → wpList P ops Q rest (a.put o.dst v1) w1) :
    wpList P ops Q (o :: rest) a (W.alloc (.cells cs.toArray e)) := by
  obtain ⟨h0, inner, hown, hr⟩ := HO
  refine mV base hgd s x t e z d.sz bytes ho ht hinfo hz hs0 hb0 v xs.length inner cs hs hx (d.K_len (d.K_of_M hp)) (d.K_one (d.K_of_M hp)) hown HB hbase hl ?_
  intro v1 w1 hown1 hb1 hg1 hat1
  exact h v1 w1 (sO h0 hr hp hokp hfresh hown1 hg1 hat1) hb1 hg1 hat1
end
section
variable {P : Program} {ops : Array Oper} {o : Oper} {a : Act} {Q : Exit → Act → World → Prop} {Kc : Act → World → Prop} {α : Type}
end
theorem rG {α : Type} {enc : α → Value} (xs : List α) : cu (fun (x : α) (cs : List Value) => cs = [enc x]) 1 xs (encs enc xs) := by
  refine ⟨by simp [encs], fun j p hj => ?_⟩
  obtain ⟨hl, hp⟩ := List.getElem?_eq_some_iff.1 hj
  have hl' : j < (encs enc xs).length := by rw [nU]; exact hl
  rw [Nat.mul_one, List.drop_eq_getElem_cons hl']
  simp [encs, hp]
theorem vN {α : Type} {enc : α → Value} {h1 : ∀ x, (enc x).oneCell' = true} {e : Nat} {w : World} {base : Nat} {ok : Nat → Prop} {v : Value} {xs : List α} (ho : w.ownsRow base e 1 v xs.length (encs enc xs)) (hok : ∀ k, v.ownBlock = some k → ok k) : (scalar enc h1).R e w base ok v xs := ⟨hok, encs enc xs, ho, rG xs⟩
theorem lX {α : Type} {enc : α → Value} {h1 : ∀ x, (enc x).oneCell' = true} {e : Nat} {w : World} {base : Nat} {ok : Nat → Prop} {v : Value} {xs : List α} (h : (scalar enc h1).R e w base ok v xs) : w.ownsRow base e 1 v xs.length (encs enc xs) := by
  obtain ⟨_, inner, ho, hr⟩ := h
  have : inner = encs enc xs := by
    apply List.ext_getElem?
    intro j
    rcases Nat.lt_or_ge j xs.length with hj | hj
    · have h2 := hr.2 j _ (List.getElem?_eq_getElem hj)
      have hl : j < inner.length := by have := hr.1; simp [scalar] at this; omega
      have h3 : (inner.drop (j * 1)).take 1 = [enc xs[j]] := h2
      rw [Nat.mul_one, List.drop_eq_getElem_cons hl] at h3
      have h4 : inner[j] = enc xs[j] := by
        have h5 := congrArg List.head? h3
        rw [List.take_succ_cons] at h5
        exact Option.some.inj h5
      rw [List.getElem?_eq_getElem hl, h4]
      simp [encs, List.getElem?_eq_getElem hj]
    · have h3 : inner.length = xs.length := by have := hr.1; simp [scalar] at this; omega
      rw [List.getElem?_eq_none (by omega), List.getElem?_eq_none (by rw [nU]; omega)]
  rw [← this]
  exact ho
theorem oO {α : Type} {enc : α → Value} {d : α} {h1 : ∀ x, (enc x).oneCell' = true} {w : World} {A : Option Addr} {n : Nat} {xs : List α} (h : (scalar enc h1).C w A n xs) : kM enc d w A n xs := by
  refine ⟨h.1, h.2.1, fun hn => ?_⟩
  obtain ⟨ad, e, hc⟩ := h.2.2 hn
  refine ⟨ad, e, fun j hj => ?_⟩
  have hl : j < xs.length := by have := h.1; omega
  obtain ⟨c, _, hK, hcell⟩ := hc j _ (List.getElem?_eq_getElem hl)
  have hK' : c = [enc xs[j]] := hK
  subst hK'
  have := hcell 0 _ rfl
  simpa [scalar, List.getD_eq_getElem?_getD, List.getElem?_eq_getElem hl] using this
end Kd
namespace Kd
section
variable {α : Type} {F : Kd α → Kd α} {sz : Nat} {E : List Nat} {hs : ∀ n, (upto F sz E n).sz = sz} {hE : ∀ n q, q ∈ (upto F sz E n).E → q ∈ E}
end
end Kd
namespace Kd
theorem mo {α : Type} {d : Kd α} {e base : Nat} {ok : Nat → Prop} {W w1 : World} {u v v1 : Value} {xs : List α} (h : d.R e W base (fun k => ok k ∧ some k ≠ v.ownBlock) u xs) (hg : W.grownBy w1 v.ownBlock) (hat : v1.ownBlock = v.ownBlock ∨ ∃ b, v1.ownBlock = some b ∧ W.heap.size ≤ b) : d.R e w1 base (fun k => ok k ∧ some k ≠ v1.ownBlock) u xs := by
  refine gu (nO (iR h) (fun k hk => hg.block k hk.2.2.1 hk.1.2)) (fun k hk => ⟨hk.1.1, ?_⟩)
  rcases hat with hat | ⟨b, hb, hle⟩
  · rw [hat]; exact hk.1.2
  · rw [hb]
    intro he
    injection he with he
    have := hk.2.2.1
    omega
end Kd
namespace Kd
section
variable {α β : Type} {d : Kd α} {d' : Kd β} {e e' : Nat} {w w1 W : World} {base b b' : Nat} {ok ok' okv oku : Nat → Prop} {v u : Value} {xs : List α} {ys : List β}
theorem di (h : d.R e w base ok v xs) (o : Obj) : d.R e (w.alloc o) base ok v xs := bD h (au (Below.refl _ _) o)
theorem dR (h : d.R e w base ok v xs) : d.R e w.drew base ok v xs := bD h (oL (Below.refl _ _))
theorem dm (h : d.R e w base ok v xs) (m : Nat) : d.R e (w.drewN m) base ok v xs := bD h (ai (Below.refl _ _) m)
theorem oH {A : Option Addr} {n : Nat} (h : d.C w A n xs) (o : Obj) : d.C (w.alloc o) A n xs := dC h (au (Below.refl _ _) o)
theorem qF {A : Option Addr} {n : Nat} (h : d.C w A n xs) : d.C w.drew A n xs := dC h (oL (Below.refl _ _))
theorem oI {A : Option Addr} {n : Nat} (h : d.C w A n xs) (m : Nat) : d.C (w.drewN m) A n xs := dC h (ai (Below.refl _ _) m)
theorem zK (d : Kd α) (w : World) : d.C w none ([] : List α).length [] := ⟨rfl, by simp, fun h => absurd h (Nat.lt_irrefl 0)⟩
theorem aV {A : Option Addr} {n c : Nat} (h : d.R e w base ok (.slice A n c) xs) : n = xs.length ∧ n ≤ c ∧ d.C w A xs.length xs := by
  obtain ⟨A', c', he, hl, hr⟩ := qE h
  injection he with h1 h2 h3
  subst h1
  exact ⟨h2, by omega, hr⟩
theorem jQ (h : d.R e w base ok v xs) : ∀ k, v.ownBlock = some k → k < w.heap.size := by
  obtain ⟨inner, ho⟩ := rF h
  exact sK ho
theorem iL (h : d.R e w base ok v xs) : ∀ k, v.ownBlock = some k → base ≤ k := by
  obtain ⟨inner, ho⟩ := rF h
  exact lh ho
theorem kz (h : d.R e w base ok v xs) (hp : 0 < xs.length) : ∃ g cap, v = .slice (some ⟨g, 0, none⟩) xs.length cap ∧ base ≤ g ∧ g < w.heap.size ∧ ∃ cells, w.heap[g]? = some (.cells cells e (0, 0)) := by
  obtain ⟨inner, ho⟩ := rF h
  obtain ⟨g, cap, he, hb, hl⟩ := ho.form hp
  obtain ⟨cells, hc⟩ := nN ho g (by rw [he]; simp [Value.ownBlock])
  exact ⟨g, cap, he, hb, hl, cells, hc⟩
theorem BG (hu : d'.R e' W b oku u ys) (h : d.R e w1 W.heap.size okv v xs) (hb : Below W.heap.size W w1) : d'.R e' w1 b (fun k => oku k ∧ some k ≠ v.ownBlock) u ys := by
  obtain ⟨inner, ho⟩ := rF h
  exact gu (nO (iR hu) (fun k hk => hb.block k hk.2.2.1)) (fun k hk => ⟨hk.1, fun he => by have := lh ho k he.symm; have := hk.2.2.1; omega⟩)
end
section
variable {w W : World} {A : Option Addr} {n : Nat}
theorem jA {k : IntKind} {xs : List Int} (h : (Kd.int k).C w A n xs) (i : Int) (h0 : 0 ≤ i) (h1 : i < n) : ∃ ad, A = some ad ∧ w.cell? (ad.add i.toNat) = some (.int k (rd xs i)) :=
  kM.at_ (oO (enc := Value.int k) (d := (0 : Int)) (h1 := fun _ => rfl) h) i h0 h1
theorem ql {xs : List ByteArray} (h : Kd.string.C w A n xs) (i : Int) (h0 : 0 ≤ i) (h1 : i < n) : ∃ ad, A = some ad ∧ w.cell? (ad.add i.toNat) = some (.string (ol ByteArray.empty xs i)) :=
  kM.at_ (oO (enc := Value.string) (d := ByteArray.empty) (h1 := fun _ => rfl) h) i h0 h1
variable {α : Type} {enc : α → Value} {h1 : ∀ x, (enc x).oneCell' = true} {e base g cap : Nat} {ok : Nat → Prop} {xs : List α}
theorem ze (d : α) (h : (scalar enc h1).R e W base ok (.slice (some ⟨g, 0, none⟩) xs.length cap) xs) (i : Int) (h0 : 0 ≤ i) (hi : i < xs.length) : W.cell? ⟨g, i.toNat, none⟩ = some (enc (ol d xs i)) ∧ W.frozen? ⟨g, i.toNat, none⟩ = false := uI (lX h) i h0 hi
theorem zL (h : (scalar enc h1).R e W base ok (.slice (some ⟨g, 0, none⟩) xs.length cap) xs) (i : Int) (x : α) : (scalar enc h1).R e (W.setCell ⟨g, i.toNat, none⟩ (enc x)) base ok (.slice (some ⟨g, 0, none⟩) xs.length cap) (xs.set i.toNat x) ∧ W.grownBy (W.setCell ⟨g, i.toNat, none⟩ (enc x)) (some g) := by
  obtain ⟨ho, hg⟩ := qD (lX h) i x
  exact ⟨vN (by rw [List.length_set]; exact ho) h.1, hg⟩
end
section
variable {P : Program} {ops : Array Oper} {rest : List Oper} {o : Oper} {a : Act} {Q : Exit → Act → World → Prop}
theorem mq {W w1 : World} {v : Value} (hgd : o.guard = none) (hrun : (execOp a.eval o).run P W = .ok (.value v) w1) (h : wpList P ops Q rest (a.put o.dst v) w1) : wpList P ops Q (o :: rest) a W := by
  refine wpList_plain hgd fun K hK => ?_
  unfold Oper.wp
  rw [hrun]
  exact hK _ _ h
variable {α : Type}
theorem jm (d : Kd α) {w0 W : World} (base e : Nat) (hgd : o.guard = none) {N : Tmp} (_hd : o.dst = some N) {xs : List α} {inner : List Value} {ok okp : Nat → Prop}
    (hrun : (execOp a.eval o).run P W = .ok (.value (.slice (some ⟨W.heap.size, 0, none⟩) xs.length xs.length)) (W.alloc (.cells inner.toArray e)))
    (hrep : cu (d.M W base okp) d.sz xs inner) (hok : ∀ k, okp k → ok k) (hfresh : ok W.heap.size) (HB : Below base w0 W) (hbase : base ≤ W.heap.size) (hm : xs.length ≤ 9223372036854775807)
    (h : ∀ v1 w1, d.R e w1 base ok v1 xs → Below base w0 w1 → W.grownBy w1 none → (∃ b, v1.ownBlock = some b ∧ W.heap.size ≤ b) → wpList P ops Q rest (a.put o.dst v1) w1) : wpList P ops Q (o :: rest) a W := by
  refine mq hgd hrun (h _ _ ⟨fun k hk => ?_, inner, ?_, ?_⟩ (HB.alloc hbase _) (World.grownBy_alloc W _ none) ⟨W.heap.size, by simp [Value.ownBlock], Nat.le_refl _⟩)
  · have : W.heap.size = k := by simpa [Value.ownBlock] using hk
    subst this
    exact hfresh
  · have h2 := World.ownsRow_lit (base := base) (e := e) (size := d.sz) W inner.toArray xs.length hbase (by simpa [maxLen] using hm) (by simpa using hrep.1)
    simpa using h2
  · refine hrep.mH (fun p c hp => d.M_mono (fun k hk => ⟨hok k hk.1, fun he => ?_⟩) (uo (d.M_bound hp) (au (Below.refl _ _) _)))
    have h3 : k = W.heap.size := by simpa [Value.ownBlock] using he
    have := hk.2.2.1
    omega
theorem uJ {α : Type} {R : α → List Value → Prop} {z : Value} {size : Nat} {z0 : α} (hz : z.cells.size = size) (hs : 0 < size) (h0 : R z0 z.cells.toList) (m : Nat) : cu R size (List.replicate m z0) (madeCells z.cells (m * size)).toList := by
  refine ⟨by simp [size_madeCells], fun j p hj => ?_⟩
  obtain ⟨hjl, hp⟩ := List.getElem?_eq_some_iff.1 hj
  have hjm : j < m := by simpa using hjl
  have hp' : z0 = p := by simpa using hp
  subst hp'
  have hle : j * size + size ≤ m * size := by rw [← Nat.succ_mul]; exact Nat.mul_le_mul_right _ hjm
  have : ((madeCells z.cells (m * size)).toList.drop (j * size)).take size = z.cells.toList := by
    apply List.ext_getElem
    · simp [size_madeCells, hz]
      omega
    · intro i h1 h2
      have hi : i < size := by rw [Array.length_toList, hz] at h2; exact h2
      have hmod : (j * size + i) % size = i := by
        rw [Nat.mul_comm, Nat.mul_add_mod]
        exact Nat.mod_eq_of_lt hi
      simp [madeCells, hz, hmod]
      rw [getElem!_pos z.cells i (by omega)]
  rw [this]
  exact h0
theorem kC (d : Kd α) {w0 W : World} (base e : Nat) (hgd : o.guard = none) {N : Tmp} (hd : o.dst = some N) (t : TypeId) (x y : Operand) (ho : o.op = .makeSlice t x y) (n : Int) (hx : a.eval x = .int .i64 n) (hy : a.eval y = .int .i64 n)
    (ht : P.underlying t = some (.slice e)) (z : Value) (bytes : Nat) (hinfo : (P.info? e).map (fun i => (i.zero, i.size, i.bytes)) = some (some z, d.sz, bytes)) (hz : z.cells.size = d.sz) (hs0 : 0 < d.sz) (hb0 : 0 < bytes)
    (z0 : α) {ok okp : Nat → Prop} (hzero : d.M W base okp z0 z.cells.toList) (hok : ∀ k, okp k → ok k) (hfresh : ok W.heap.size) (h0 : 0 ≤ n) (hl : n.toNat * bytes ≤ 281474976710656) (HB : Below base w0 W) (hbase : base ≤ W.heap.size)
    (h : ∀ v1 w1, d.R e w1 base ok v1 (List.replicate n.toNat z0) → Below base w0 w1 → W.grownBy w1 none → (∃ b, v1.ownBlock = some b ∧ W.heap.size ≤ b) → wpList P ops Q rest (a.put o.dst v1) w1) : wpList P ops Q (o :: rest) a W := by
  obtain ⟨m, rfl⟩ := Int.eq_ofNat_of_zero_le h0
  simp only [Int.toNat_natCast] at hl h
  obtain ⟨i0, hi, hzz⟩ := Option.map_eq_some_iff.1 hinfo
  simp only [Prod.mk.injEq] at hzz
  obtain ⟨hz0, hz1, hz2⟩ := hzz
  have hm : m ≤ 281474976710656 := Nat.le_trans (Nat.le_mul_of_pos_right _ hb0) hl
  have hr := run_make (P := P) W t e i0 z ht hi hz0 .i64 .i64 (m : Int) (m : Int) (by omega) (by omega)
    (by
      have h3 : ((i0.bytes * m : Nat) : Int) ≤ 281474976710656 := by rw [hz2, Nat.mul_comm]; omega
      rwa [Int.natCast_mul] at h3) (by omega)
  simp only [Int.toNat_natCast] at hr
  rw [hz1] at hr
  refine jm d base e hgd hd (xs := List.replicate m z0) (inner := (madeCells z.cells (m * d.sz)).toList) (okp := okp) (ok := ok) ?_ (uJ hz hs0 hzero m) hok hfresh HB hbase (by simp; omega) h
  simp [execOp, ho, hx, hy, hr]
end
end Kd
theorem vO {w : World} {base n m c size : Nat} {e : TypeId} {A : Option Addr} {xs : List Value} (h : w.ownsRow base e size (.slice A n c) n xs) (hm : m ≤ n) : w.ownsRow base e size (.slice A m c) m (xs.take (m * size)) := by
  obtain ⟨h1, h2⟩ := h
  refine ⟨by rw [List.length_take, h1]; exact Nat.min_eq_left (Nat.mul_le_mul_right _ hm), ?_⟩
  rcases h2 with ⟨he, h0⟩ | ⟨g, cap, cur, he, hb, hh, hnc, hcm, hcs, ht⟩
  · injection he with ha _ hc
    subst ha; subst hc
    exact .inl ⟨by rw [show m = 0 by omega], by omega⟩
  · injection he with ha _ hc
    subst ha; subst hc
    refine .inr ⟨g, c, cur, rfl, hb, hh, by omega, hcm, hcs, ?_⟩
    rw [← ht, List.take_take, Nat.min_eq_left (Nat.mul_le_mul_right _ hm)]
section
variable {P : Program}
theorem vP (t e : TypeId) (kh : IntKind) {i : TypeInfo} (ht : P.underlying t = some (.slice e)) (hi : P.info? e = some i) (A : Option Addr) (n c : Nat) (j : Int) (h0 : 0 ≤ j) (hm : j ≤ n) (hc : n ≤ c) :
    ∀ W : World, (Instr.slice t (.slice A n c) none (some (.int kh j)) none).run P W = .ok (.slice A j.toNat c) W := by
  intro W
  have hel : P.elem t = e := by simp [Program.elem, ht]
  have hu : P.underlying t = some (.slice (P.elem t)) := by rw [hel]; exact ht
  have ha : (A.map fun x => x.add 0) = A := by cases A <;> simp [Addr.add]
  rw [run_slice_h W t A n c hu kh j h0 (by omega), hel]
  simp [sizeOf, typeInfo, hi, sliced, Result.andThen, ha]
end
def BJ (w : World) (base : Nat) (e : TypeId) (size : Nat) (v : Value) (n : Nat) (xs : List Value) : Prop :=
  xs.length = n * size ∧
  ((n = 0 ∧ ∃ A, v = .slice A 0 0 ∧ ∀ a, A = some a → base ≤ a.block ∧ ∃ cur, w.heap[a.block]? = some (.cells cur e (0, 0))) ∨
   ∃ g off cap cur, v = .slice (some ⟨g, off * size, none⟩) n cap ∧ base ≤ g ∧ w.heap[g]? = some (.cells cur e (0, 0)) ∧ n ≤ cap ∧ off + cap ≤ maxLen ∧ cur.size = (off + cap) * size ∧ (cur.toList.drop (off * size)).take (n * size) = xs)
section
variable {w w1 : World} {base n size : Nat} {e : TypeId} {v : Value} {xs : List Value}
end
section
variable {P : Program}
end
namespace Kd
theorem uK {α : Type} {R : α → List Value → Prop} {size m : Nat} {ps : List α} {cs : List Value} (h : cu R size ps cs) (hm : m ≤ ps.length) : cu R size (ps.take m) (cs.take (m * size)) := by
  refine ⟨by rw [List.length_take, List.length_take, h.1, Nat.min_eq_left hm, Nat.min_eq_left (Nat.mul_le_mul_right _ hm)], fun j p hj => ?_⟩
  rw [List.getElem?_take] at hj
  split at hj
  · rename_i hjm
    have := h.2 j p hj
    have hle : j * size + size ≤ m * size := by rw [← Nat.succ_mul]; exact Nat.mul_le_mul_right _ hjm
    rw [List.drop_take, List.take_take, Nat.min_eq_left (by omega)]
    exact this
  · cases hj
theorem vQ {α : Type} {d : Kd α} {e m n c : Nat} {w : World} {base : Nat} {ok : Nat → Prop} {A : Option Addr} {xs : List α} (h : d.R e w base ok (.slice A n c) xs) (hm : m ≤ xs.length) : d.R e w base ok (.slice A m c) (xs.take m) := by
  obtain ⟨h0, inner, ho, hr⟩ := h
  have hn : n = xs.length := by
    obtain ⟨A', c', he⟩ := uG ho
    injection he
  subst hn
  have hb : ∀ x y : Nat, (Value.slice A x c).ownBlock = (Value.slice A y c).ownBlock := by
    intro x y
    cases A <;> rfl
  refine ⟨fun k hk => h0 k (by rw [hb _ m]; exact hk), inner.take (m * d.sz), ?_, ?_⟩
  · rw [List.length_take, Nat.min_eq_left hm]
    exact vO ho hm
  · rw [hb m xs.length]
    exact uK hr hm
def Q {α : Type} (d : Kd α) (e : Nat) (w : World) (base : Nat) (ok : Nat → Prop) (v : Value) (xs : List α) : Prop :=
  (∀ k, v.ownBlock = some k → ok k) ∧ ∃ inner, BJ w base e d.sz v xs.length inner ∧ cu (d.M w base (fun k => ok k ∧ some k ≠ v.ownBlock)) d.sz xs inner
section
variable {α : Type} {d : Kd α} {e : Nat} {w w1 W : World} {base : Nat} {ok ok' : Nat → Prop} {v : Value} {xs : List α}
end
section
variable {P : Program} {ops : Array Oper} {rest : List Oper} {o : Oper} {a : Act} {Q' : Exit → Act → World → Prop} {Kc : Act → World → Prop} {α : Type}
end
end Kd
namespace Kd
section
variable {α : Type} {d : Kd α} {e e' : Nat} {w w1 W : World} {base : Nat} {ok : Nat → Prop} {u v : Value} {xs : List α}
theorem uq (h : d.R e w base ok v xs) : ∀ k, v.ownBlock = some k → ∃ cells, w.heap[k]? = some (.cells cells e (0, 0)) := by
  obtain ⟨inner, ho⟩ := rF h
  exact fun k hk => nN ho k hk
theorem ut (h : d.R e W base ok u xs) (hty : ∀ k, v.ownBlock = some k → ∃ cells, W.heap[k]? = some (.cells cells e' (0, 0))) (ht : ∀ q, q ∈ e :: d.E → q ≠ e') (hg : W.grownBy w1 v.ownBlock) : d.R e w1 base ok u xs := by
  refine gu (nO (iR h) (fun k hk => hg.block k hk.2.2.1 (fun he => ?_))) (fun _ hk => hk.1)
  obtain ⟨_, _, _, q, hq, cells, hc⟩ := hk
  obtain ⟨cells', hc'⟩ := hty k he.symm
  rw [hc] at hc'
  injection hc' with hc'
  injection hc' with _ hc'
  exact ht q hq hc'
theorem gB (hu : d.R e W base ok u xs) (hbase : ∀ k, v.ownBlock = some k → W.heap.size ≤ k) (hb : Below W.heap.size W w1) : d.R e w1 base (fun k => ok k ∧ some k ≠ v.ownBlock) u xs :=
  gu (nO (iR hu) (fun k hk => hb.block k hk.2.2.1)) (fun k hk => ⟨hk.1, fun he => by have := hbase k he.symm; have := hk.2.2.1; omega⟩)
theorem iM (h : d.R e w1 W.heap.size ok v xs) (hlt : ∀ k, u.ownBlock = some k → k < W.heap.size) : d.R e w1 W.heap.size (fun k => ok k ∧ some k ≠ u.ownBlock) v xs :=
  gu (iR h) (fun k hk => ⟨hk.1, fun he => by have := hlt k he.symm; have := hk.2.1; omega⟩)
theorem fresh' (hlt : ∀ k, u.ownBlock = some k → k < W.heap.size) : ∀ k, W.heap.size ≤ k → some k ≠ u.ownBlock := fun k hk he => by have := hlt k he.symm; omega
end
end Kd
namespace Kd
section
variable {α : Type} {d : Kd α} {e base g n cap : Nat} {ok okp : Nat → Prop} {W : World} {xs : List α}
end
end Kd
namespace Kd
section
variable {α : Type} {F : Kd α → Kd α} {sz : Nat} {E : List Nat} {hs : ∀ n, (upto F sz E n).sz = sz} {hE : ∀ n q, q ∈ (upto F sz E n).E → q ∈ E}
end
end Kd
namespace Kd
theorem rH {α : Type} {R : α → List Value → Prop} {size : Nat} {ps qs : List α} {cs ds : List Value} (h : cu R size ps cs) (h' : cu R size qs ds) : cu R size (ps ++ qs) (cs ++ ds) := by
  refine ⟨by rw [List.length_append, List.length_append, h.1, h'.1, Nat.add_mul], fun j p hj => ?_⟩
  rcases Nat.lt_or_ge j ps.length with hlt | hge
  · rw [List.getElem?_append_left hlt] at hj
    have hle : j * size + size ≤ cs.length := by rw [h.1, ← Nat.succ_mul]; exact Nat.mul_le_mul_right _ hlt
    rw [List.drop_append_of_le_length (by omega), List.take_append_of_le_length (by rw [List.length_drop]; omega)]
    exact h.2 j p hj
  · rw [List.getElem?_append_right hge] at hj
    have h2 := h'.2 (j - ps.length) p hj
    have hle : ps.length * size ≤ j * size := Nat.mul_le_mul_right _ hge
    rw [List.drop_append, List.drop_eq_nil_of_le (by rw [h.1]; exact hle), List.nil_append, h.1, ← Nat.sub_mul]
    exact h2
section
variable {P : Program} {ops : Array Oper} {rest : List Oper} {o : Oper} {a : Act} {Q : Exit → Act → World → Prop} {α : Type}
theorem iY (d : Kd α) {Rr : α → List Value → Prop} {w0 W : World} (base : Nat) (hgd : o.guard = none) (s x : Operand) (t e : TypeId) (z : Value) (bytes : Nat)
    (ho : o.op = .call { callee := .builtin .append, args := #[s, x], argTypes := #[t, t] })
    (ht : P.underlying t = some (.slice e)) (hinfo : (P.info? e).map (fun i => (i.zero, i.size, i.bytes)) = some (some z, d.sz, bytes)) (hz : z.cells.size = d.sz) (hs0 : 0 < d.sz) (hb0 : 0 < bytes)
    (v : Value) (xs ys : List α) (A : Option Addr) (m c : Nat) (ok okp : Nat → Prop) (hs : a.eval s = v) (hx : a.eval x = .slice A m c)
    (HO : d.R e W base ok v xs) (HR : iH Rr d.sz W A m ys) (hKM : ∀ x cs, Rr x cs → d.M W base okp x cs) (hokp : ∀ k, okp k → ok k ∧ some k ≠ v.ownBlock) (hfresh : ∀ k, W.heap.size ≤ k → ok k)
    (HB : Below base w0 W) (hbase : base ≤ W.heap.size) (hl : (xs.length + m) * bytes ≤ 140737488355328)
    (h : ∀ v1 w1, d.R e w1 base ok v1 (xs ++ ys) → Below base w0 w1 → W.grownBy w1 v.ownBlock → (v1.ownBlock = v.ownBlock ∨ ∃ b, v1.ownBlock = some b ∧ W.heap.size ≤ b) → wpList P ops Q rest (a.put o.dst v1) w1) :
    wpList P ops Q (o :: rest) a W := by
  obtain ⟨i0, hi, hzz⟩ := Option.map_eq_some_iff.1 hinfo
  simp only [Prod.mk.injEq] at hzz
  obtain ⟨hz0, hz1, hz2⟩ := hzz
  have hm : ys.length = m := HR.1
  have hlen : xs.length + m ≤ 140737488355328 := Nat.le_trans (Nat.le_mul_of_pos_right _ hb0) hl
  obtain ⟨hok, inner, hown, hr⟩ := HO
  have hrun : ∃ v1 w1, (Builtin.append_ #[t, t] o.type #[v, .slice A m c]).run P W = .ok v1 w1 ∧ d.R e w1 base ok v1 (xs ++ ys) ∧ W.grownBy w1 v.ownBlock ∧ (v1.ownBlock = v.ownBlock ∨ ∃ b, v1.ownBlock = some b ∧ W.heap.size ≤ b) := by
    rcases A with _ | ad
    · have h0 : m = 0 := by
        rcases Nat.eq_zero_or_pos m with h0 | h0
        · exact h0
        · obtain ⟨ad, h, _⟩ := HR.2.2 h0
          cases h
      subst h0
      obtain rfl : ys = [] := List.eq_nil_of_length_eq_zero hm
      refine ⟨v, W, ?_, by rw [List.append_nil]; exact ⟨hok, inner, hown, hr⟩, World.grownBy.refl W _, .inl rfl⟩
      rcases hown.2 with ⟨rfl, hn⟩ | ⟨g, cap, cur, rfl, _, _, hnc, _⟩
      · simp [Builtin.append_, run_underlying ht, sizeOf, typeInfo, hi, Builtin.lenOf, Builtin.firstCells]
      · simp [Builtin.append_, run_underlying ht, sizeOf, typeInfo, hi, Builtin.lenOf, Builtin.firstCells, hnc, storeCells]
    · obtain ⟨news, hnr, hnc⟩ := iH.za HR
      have hnM : cu (d.M W base okp) d.sz ys news := hnr.mH (fun p c hp => hKM p c hp)
      have hone : ∀ u ∈ news, u.oneCell' = true := by
        intro u hu
        obtain ⟨q, hq, rfl⟩ := List.mem_iff_getElem.1 hu
        have hql : q / d.sz < ys.length := by
          rw [Nat.div_lt_iff_lt_mul hs0]
          rw [← hnM.1]
          exact hq
        have hc := hnM.2 (q / d.sz) _ (List.getElem?_eq_getElem hql)
        refine d.K_one (d.K_of_M hc) _ ?_
        rw [List.mem_iff_getElem?]
        refine ⟨q % d.sz, ?_⟩
        rw [List.getElem?_take, if_pos (Nat.mod_lt _ hs0), List.getElem?_drop, Nat.mul_comm, Nat.div_add_mod, List.getElem?_eq_getElem hq]
      obtain ⟨v1, w1, hrun, h2, hg, _, hat⟩ := run_append_own_at (P := P) W base t o.type e i0 z d.sz bytes ht hi hz0 hz1 hz2 hz hs0 v xs.length inner hown ad m c news (by rw [hnM.1, hm]) hnc hone (by simp only [maxLen]; omega) hl hbase
      have hat' : v1.ownBlock = v.ownBlock ∨ ∃ b, v1.ownBlock = some b ∧ W.heap.size ≤ b := by
        rcases hat with hat | hat
        · exact .inl hat
        · exact .inr ⟨_, hat, Nat.le_refl _⟩
      have hne : ∀ k, some k ≠ v.ownBlock → k < W.heap.size → some k ≠ v1.ownBlock := by
        intro k hk hlt
        rcases hat' with hat | ⟨b, hb, hle⟩
        · rw [hat]; exact hk
        · rw [hb]
          intro he
          injection he with he
          omega
      have step : ∀ {q : α} {c : List Value} {o : Nat → Prop}, d.M W base o q c → (∀ k, o k → ok k ∧ some k ≠ v.ownBlock) → d.M w1 base (fun k => ok k ∧ some k ≠ v1.ownBlock) q c := by
        intro q c o hq ho
        have h1 := d.M_move (w1 := w1) (fun k hk => hg.block k hk.2.2.1 (ho k hk.1).2) (d.M_bound hq)
        exact d.M_mono (fun k hk => ⟨(ho k hk.1).1, hne k (ho k hk.1).2 hk.2.2.1⟩) h1
      refine ⟨v1, w1, hrun, ⟨fun k hk => ?_, inner ++ news, by rw [List.length_append, hm]; exact h2, rH (hr.mH (fun _ _ hq => step hq (fun _ hk => hk))) (hnM.mH (fun _ _ hq => step hq hokp))⟩, hg, hat'⟩
      rcases hat' with hat | ⟨b, hb, hle⟩
      · exact hok k (hat ▸ hk)
      · rw [hb] at hk
        injection hk with hk
        exact hfresh k (by omega)
  obtain ⟨v1, w1, hr1, h1, hg, hat⟩ := hrun
  refine wpList_plain hgd fun K hK => ?_
  unfold Oper.wp execOp
  simp only [ho, resolve, invoke, builtin, Sem.run_bind, Sem.run_pure, Result.andThen_ok, List.map_toArray, List.map_cons, List.map_nil, hs, hx, hr1]
  exact hK _ _ (h v1 w1 h1 (HB.grown hg hbase (lh hown)) hg hat)
end
end Kd
namespace Kd
section
variable {P : Program} {ops : Array Oper} {rest : List Oper} {o : Oper} {a : Act} {Q : Exit → Act → World → Prop} {α : Type}
end
end Kd
namespace Kd
section
variable {α : Type} {k : Kd α} {w : World} {A : Option Addr} {xs : List α} {m c : Nat}
end
end Kd
section
variable {P : Program}
end
theorem bi {w W : World} (h : Below w.heap.size w W) : w.heap.size ≤ W.heap.size := h.size
theorem aj {w W w2 : World} (h : Below w.heap.size w W) (k : Below W.heap.size W w2) : Below w.heap.size w w2 := sJ h h.size k
theorem bn {w W : World} {g j : Nat} {v : Value} (h : Below w.heap.size w W) (hg : w.heap.size ≤ g) : Below w.heap.size w (W.setCell ⟨g, j, none⟩ v) := h.setCell hg _
theorem dL {w : World} {g : Nat} {t : TypeId} {cs cs' : Array Value} (h : w.heap[g]? = some (.cells cs t (0, 0))) (i : Nat) (u : Value) (e : cs.setIfInBounds i u = cs') : (w.setCell ⟨g, i, none⟩ u).heap[g]? = some (.cells cs' t (0, 0)) := e ▸ xI h i u
theorem ak {base : Nat} {w W : World} (h : Below base w W) : Below base w W.drew := h.drew
namespace Kd
section
variable {α β : Type} {d : Kd α} {d' : Kd β} {e e' base base' n : Nat} {ok ok' : Nat → Prop} {w W w1 W1 : World} {v u : Value} {xs : List α} {ys : List β} {A : Option Addr} {c : Nat}
end
section
variable {α : Type} {enc : α → Value} {h1 : ∀ x, (enc x).oneCell' = true} {w W : World} {A : Option Addr} {n g : Nat} {xs : List α}
end
end Kd
namespace Kd
section
variable {α : Type} {d : Kd α} {e base g : Nat} {ok : Nat → Prop} {w w1 : World} {v : Value} {xs : List α} {o : Obj}
end
end Kd
section
variable {P : Program} {ops : Array Oper} {rest : List Oper} {o : Oper} {a : Act} {Q : Exit → Act → World → Prop}
theorem bE {W : World} (hgd : o.guard = none) {N : Tmp} (_hd : o.dst = some N) {cs : Array Value} {t : TypeId}
    (hrun : (execOp a.eval o).run P W = .ok (.value (.pointer (some ⟨W.heap.size, 0, none⟩))) (W.alloc (.cells cs t (0, 0))))
    (h : ∀ g, g = W.heap.size → ∀ w1, w1.heap[g]? = some (.cells cs t (0, 0)) → Below W.heap.size W w1 → wpList P ops Q rest (a.put o.dst (.pointer (some ⟨g, 0, none⟩))) w1) : wpList P ops Q (o :: rest) a W :=
  Kd.mq hgd hrun (h _ rfl _ (xJ W _) (au (Below.refl _ _) _))
end
namespace Kd
section
variable {α : Type} {enc : α → Value} {h1 : ∀ x, (enc x).oneCell' = true} {e base g n cap : Nat} {ok : Nat → Prop} {W : World} {xs : List α}
theorem ib (d : α) (h : (scalar enc h1).R e W base ok (.slice (some ⟨g, 0, none⟩) n cap) xs) (i : Int) (h0 : 0 ≤ i) (hi : i < n) : W.cell? ⟨g, i.toNat, none⟩ = some (enc (ol d xs i)) ∧ W.frozen? ⟨g, i.toNat, none⟩ = false := by
  obtain ⟨rfl, _⟩ := aV h
  exact ze d h i h0 hi
end
end Kd
section
variable {P : Program} {ops : Array Oper} {rest : List Oper} {o : Oper} {a : Act} {Q : Exit → Act → World → Prop}
theorem ic {W w1 : World} (hgd : o.guard = none) {t : TypeId} {p : Tmp} {v : Operand} (_ho : o.op = .store t (.tmp p) v) (hN : o.dst = none)
    (hrun : (execOp a.eval o).run P W = .ok .skip w1) (h : ∀ w', w' = w1 → wpList P ops Q rest a w') : wpList P ops Q (o :: rest) a W := by
  refine wpList_plain hgd fun K hK => ?_
  unfold Oper.wp
  rw [hrun]
  show K (a.put o.dst undef) w1
  rw [hN]
  exact hK _ _ (h _ rfl)
end
namespace Kd
section
variable {α : Type} {enc : α → Value} {h1 : ∀ x, (enc x).oneCell' = true} {e base g n cap : Nat} {ok : Nat → Prop} {W : World} {xs : List α}
theorem kD (h : (scalar enc h1).R e W base ok (.slice (some ⟨g, 0, none⟩) n cap) xs) (i : Int) (x : α) : (scalar enc h1).R e (W.setCell ⟨g, i.toNat, none⟩ (enc x)) base ok (.slice (some ⟨g, 0, none⟩) n cap) (xs.set i.toNat x) ∧ W.grownBy (W.setCell ⟨g, i.toNat, none⟩ (enc x)) (some g) := by
  obtain ⟨rfl, _⟩ := aV h
  exact zL h i x
end
end Kd
section
variable {P : Program} {ops : Array Oper} {rest : List Oper} {o : Oper} {a : Act} {Q : Exit → Act → World → Prop} {W : World}
theorem bg {N : Tmp} (_hN : o.dst = some N) (h : wpList P ops Q (o :: rest) a W) : wpList P ops Q (o :: rest) a W := h
theorem iD {t : TypeId} {p : Tmp} {v : Operand} (_ho : o.op = .store t (.tmp p) v) (h : wpList P ops Q (o :: rest) a W) : wpList P ops Q (o :: rest) a W := h
end
section
variable {P : Program} {ops : Array Oper} {o : Oper} {a : Act} {Q : Exit → Act → World → Prop} {Kc : Act → World → Prop}
theorem sP {W w1 : World} {v : Value} (hw : Region.wanted o (yielded ops a.tmps) = true) (hrun : (execOp a.eval o).run P W = .ok (.value v) w1) (h : Kc (a.put o.dst v) w1) : if Region.wanted o (yielded ops a.tmps) = true then Oper.wp P o a W Kc Q else Kc (a.put o.dst undef) W := by
  rw [if_pos hw]
  unfold Oper.wp
  rw [hrun]
  exact h
namespace Kd
variable {α : Type}
theorem jR (d : Kd α) {w0 W : World} (base e : Nat) (hw : Region.wanted o (yielded ops a.tmps) = true) {N : Tmp} (_hd : o.dst = some N) {xs : List α} {inner : List Value} {ok okp : Nat → Prop}
    (hrun : (execOp a.eval o).run P W = .ok (.value (.slice (some ⟨W.heap.size, 0, none⟩) xs.length xs.length)) (W.alloc (.cells inner.toArray e)))
    (hrep : cu (d.M W base okp) d.sz xs inner) (hok : ∀ k, okp k → ok k) (hfresh : ok W.heap.size) (HB : Below base w0 W) (hbase : base ≤ W.heap.size) (hm : xs.length ≤ 9223372036854775807)
    (h : ∀ v1 w1, d.R e w1 base ok v1 xs → Below base w0 w1 → W.grownBy w1 none → (∃ b, v1.ownBlock = some b ∧ W.heap.size ≤ b) → Kc (a.put o.dst v1) w1) : if Region.wanted o (yielded ops a.tmps) = true then Oper.wp P o a W Kc Q else Kc (a.put o.dst undef) W := by
  refine sP hw hrun (h _ _ ⟨fun k hk => ?_, inner, ?_, ?_⟩ (HB.alloc hbase _) (World.grownBy_alloc W _ none) ⟨W.heap.size, by simp [Value.ownBlock], Nat.le_refl _⟩)
  · have : W.heap.size = k := by simpa [Value.ownBlock] using hk
    subst this
    exact hfresh
  · have h2 := World.ownsRow_lit (base := base) (e := e) (size := d.sz) W inner.toArray xs.length hbase (by simpa [maxLen] using hm) (by simpa using hrep.1)
    simpa using h2
  · refine hrep.mH (fun p c hp => d.M_mono (fun k hk => ⟨hok k hk.1, fun he => ?_⟩) (uo (d.M_bound hp) (au (Below.refl _ _) _)))
    have h3 : k = W.heap.size := by simpa [Value.ownBlock] using he
    have := hk.2.2.1
    omega
end Kd
end
section
variable {P : Program} {tmps : Array Value} {w : World}
end
namespace Kd
section
variable {P : Program} {α : Type}
end
section
variable {P : Program} {ops : Array Oper} {rest : List Oper} {o : Oper} {a : Act} {Q : Exit → Act → World → Prop} {Kc : Act → World → Prop} {α : Type}
end
end Kd
end Go.Proofs.YteidaijpaijgpaaGreatDoorW.ay
end
section
namespace Go.Proofs.YteidaijpaijgpaaGreatDoorW.aQ
section
variable {P : Program} {ops : Array Oper} {Q : Exit → Act → World → Prop} {md : Region.Mode} {S : World → Prop} {ds : List Nat}
def Region.ko (md : Region.Mode) (ops : Array Oper) (i : Nat) : Nat → Nat → Bool
  | 0, _ => false
  | fuel + 1, d => match ops[d]? with
    | some o => o.after.any fun e => Region.binds md e && (e.on == i || Region.ko md ops i fuel e.on)
    | none => false
def Region.nk (md : Region.Mode) (ops : Array Oper) (listed : Array Bool) : Bool :=
  (List.range ops.size).all fun j => !listed.getD j false || match ops[j]? with
    | some o => o.after.all fun e => !Region.binds md e || listed.getD e.on false
    | none => true
def Region.lastB (md : Region.Mode) (ops : Array Oper) (listed : Array Bool) (ds : List Nat) (i : Nat) : Bool :=
  ds.all fun d => listed.getD d true || Region.ko md ops i ops.size d
def iU (md : Region.Mode) (ops : Array Oper) (listed : Array Bool) : Prop :=
  ∀ j oj, ops[j]? = some oj → listed.getD j false = true → ∀ e ∈ oj.after, Region.binds md e = true → listed.getD e.on false = true
theorem Region.qG {listed : Array Bool} (h : Region.nk md ops listed = true) : iU md ops listed := by
  intro j oj hj hl e he hb
  have hlt : j < ops.size := (Array.getElem?_eq_some_iff.1 hj).1
  have h1 := List.all_eq_true.1 h j (List.mem_range.2 hlt)
  simp only [hl, hj, Bool.not_true, Bool.false_or] at h1
  have h2 := Array.all_eq_true_iff_forall_mem.1 h1 e he
  simpa [hb] using h2
theorem iU.set {listed : Array Bool} {i : Nat} (h : iU md ops listed) (hi : i ∈ Region.ready md ops listed) : iU md ops (listed.setIfInBounds i true) := by
  obtain ⟨_, oi, hoi, hall⟩ := mem_ready.1 hi
  intro j oj hj hl e he hb
  by_cases hij : i = j
  · subst hij
    have : oj = oi := Option.some.inj (hj.symm.trans hoi)
    subst this
    exact getD_set_true (hall e he hb)
  · rw [getD_set_ne false hij] at hl
    exact getD_set_true (h j oj hj hl e he hb)
theorem Region.nu {listed : Array Bool} {i : Nat} (hc : iU md ops listed) : ∀ (fuel d : Nat), Region.ko md ops i fuel d = true → listed.getD d false = true → listed.getD i false = true
  | 0, _, h, _ => by simp [Region.ko] at h
  | fuel + 1, d, h, hl => by
    unfold Region.ko at h
    cases ho : ops[d]? with
    | none => rw [ho] at h; simp at h
    | some o =>
      rw [ho] at h
      obtain ⟨e, he, h1⟩ := Array.any_eq_true'.1 h
      simp only [Bool.and_eq_true, Bool.or_eq_true, beq_iff_eq] at h1
      have hle := hc d o ho hl e he h1.1
      rcases h1.2 with h2 | h2
      · rw [← h2]; exact hle
      · exact Region.nu hc fuel e.on h2 hle
theorem Region.om {listed : Array Bool} {i d fuel : Nat} (hc : iU md ops listed) (hr : Region.ko md ops i fuel d = true) (hun : listed.getD i true = false) : d ∉ Region.ready md ops listed := by
  intro hd
  obtain ⟨_, o, ho, hall⟩ := mem_ready.1 hd
  have hi : listed.getD i false = true := by
    cases fuel with
    | zero => simp [Region.ko] at hr
    | succ n =>
      unfold Region.ko at hr
      rw [ho] at hr
      obtain ⟨e, he, h1⟩ := Array.any_eq_true'.1 hr
      simp only [Bool.and_eq_true, Bool.or_eq_true, beq_iff_eq] at h1
      have hle := hall e he h1.1
      rcases h1.2 with h2 | h2
      · rw [← h2]; exact hle
      · exact Region.nu hc n e.on h2 hle
  rcases Nat.lt_or_ge i listed.size with h' | h'
  · simp [h'] at hun hi
    rw [hun] at hi
    cases hi
  · simp [Array.getElem?_eq_none h'] at hun
def dD (P : Program) (md : Region.Mode) (ops : Array Oper) (Q : Exit → Act → World → Prop) (S : World → Prop) (ds : List Nat) : Nat → Array Bool → Act → World → Prop
  | 0, listed, a, w => Region.ready md ops listed = [] ∧ Q .normal a w
  | fuel + 1, listed, a, w =>
    (Region.ready md ops listed = [] → Q .normal a w) ∧
    ∀ i ∈ Region.ready md ops listed, wpOp P ops Q i (fun a' w' => (i ∉ ds → S w → S w') ∧ dD P md ops Q S ds fuel (listed.setIfInBounds i true) a' w') a w
theorem mJ : ∀ (fuel : Nat) (listed : Array Bool) (a : Act) (w : World), dD P md ops Q S ds fuel listed a w → wpAny P md ops Q fuel listed a w
  | 0, _, _, _, h => h
  | fuel + 1, _, _, _, h => ⟨h.1, fun i hi => wpOp_mono (fun a' w' h' => mJ fuel _ a' w' h'.2) (h.2 i hi)⟩
theorem oo {i : Nat} {oi : Oper} {v : Value} (hi : ops[i]? = some oi) (hsel : ∀ (j : Nat) (o : Oper) cs b, ops[j]? = some o → o.op ≠ .select cs b)
    (hQ : ∀ c a w, Q (.panic c) (a.put oi.dst v) w → Q (.panic c) a w) (n : Nat) :
    ∀ (fuel : Nat) (listed : Array Bool) (a : Act) (w : World),
      (∀ j oj, ops[j]? = some oj → j ≠ i → listed.getD j true = false → (∀ e ∈ oj.after, Region.binds md e = true → e.on ≠ i) → oi.apart ops oj = true) →
      iU md ops listed → (∀ d ∈ ds, listed.getD d true = false → Region.ko md ops i n d = true) →
      i ∈ Region.ready md ops listed → YieldsIf P ops S oi v a → S w →
      dD P md ops Q S ds fuel (listed.setIfInBounds i true) (a.put oi.dst v) w → dD P md ops Q S ds (fuel + 1) listed a w := by
  intro fuel
  induction fuel with
  | zero =>
    intro listed a w _ _ _ hr hy hS H
    refine ⟨fun h => (by rw [h] at hr; cases hr), fun j hj => ?_⟩
    by_cases hji : j = i
    · subst hji; exact hy.wpOp hi hS ⟨fun _ h => h, H⟩
    · have := ready_mono hj hji
      rw [H.1] at this
      cases this
  | succ fuel ih =>
    intro listed a w hfree hc hd hr hy hS H
    refine ⟨fun h => (by rw [h] at hr; cases hr), fun j hj => ?_⟩
    by_cases hji : j = i
    · subst hji; exact hy.wpOp hi hS ⟨fun _ h => h, H⟩
    · have h1 := H.2 j (ready_mono hj hji)
      obtain ⟨hjun, oj, hoj, hall⟩ := mem_ready.1 hj
      have hiun := (mem_ready.1 hr).1
      have hnot : ∀ e ∈ oj.after, Region.binds md e = true → e.on ≠ i := fun e he hb heq => by
        have h1 := hall e he hb
        rw [heq] at h1
        rcases Nat.lt_or_ge i listed.size with h' | h'
        · simp [h'] at hiun h1; rw [hiun] at h1; cases h1
        · simp [Array.getElem?_eq_none h'] at h1
      have hjd : j ∉ ds := fun hm => Region.om hc (hd j hm hjun) hiun hj
      have h2 := wpOp_putIf hoj (hfree j oj hoj hji hjun hnot) (fun cs b => hsel i oi cs b hi) (fun cs b => hsel j oj cs b hoj) hQ hy h1
      have hfree' : ∀ k ok, ops[k]? = some ok → k ≠ i → (listed.setIfInBounds j true).getD k true = false →
          (∀ e ∈ ok.after, Region.binds md e = true → e.on ≠ i) → oi.apart ops ok = true := fun k ok hk hki hun hno => by
        refine hfree k ok hk hki ?_ hno
        by_cases hjk : j = k
        · subst hjk; exact hjun
        · rw [getD_set_ne true hjk] at hun; exact hun
      have hd' : ∀ d ∈ ds, (listed.setIfInBounds j true).getD d true = false → Region.ko md ops i n d = true := fun d hm hun => by
        refine hd d hm ?_
        by_cases hjk : j = d
        · subst hjk; exact hjun
        · rw [getD_set_ne true hjk] at hun; exact hun
      refine wpOp_mono (fun a' w' h3 => ⟨h3.2.1, ih (listed.setIfInBounds j true) a' w' hfree' (hc.set hj) hd' (ready_mono hr (Ne.symm hji)) h3.1 (h3.2.1 hjd hS) ?_⟩) h2
      rw [Array.setIfInBounds_comm _ _ hji]
      exact h3.2.2
theorem qd {i : Nat} {oi : Oper} {v : Value} (hi : ops[i]? = some oi) (hsel : ∀ (j : Nat) (o : Oper) cs b, ops[j]? = some o → o.op ≠ .select cs b)
    (hQ : ∀ c a w, Q (.panic c) (a.put oi.dst v) w → Q (.panic c) a w) :
    ∀ (fuel : Nat) (listed : Array Bool) (a : Act) (w : World),
      (∀ j oj, ops[j]? = some oj → j ≠ i → listed.getD j true = false → (∀ e ∈ oj.after, Region.binds md e = true → e.on ≠ i) → oi.apart ops oj = true) →
      i ∈ Region.ready md ops listed → Yields P ops oi v a →
      dD P md ops Q S ds fuel (listed.setIfInBounds i true) (a.put oi.dst v) w → dD P md ops Q S ds (fuel + 1) listed a w := by
  intro fuel
  induction fuel with
  | zero =>
    intro listed a w _ hr hy H
    refine ⟨fun h => (by rw [h] at hr; cases hr), fun j hj => ?_⟩
    by_cases hji : j = i
    · subst hji; exact (hy.yieldsIf (S := fun _ => True)).wpOp hi trivial ⟨fun _ h => h, H⟩
    · have := ready_mono hj hji
      rw [H.1] at this
      cases this
  | succ fuel ih =>
    intro listed a w hfree hr hy H
    refine ⟨fun h => (by rw [h] at hr; cases hr), fun j hj => ?_⟩
    by_cases hji : j = i
    · subst hji; exact (hy.yieldsIf (S := fun _ => True)).wpOp hi trivial ⟨fun _ h => h, H⟩
    · have h1 := H.2 j (ready_mono hj hji)
      obtain ⟨hjun, oj, hoj, hall⟩ := mem_ready.1 hj
      have hiun := (mem_ready.1 hr).1
      have hnot : ∀ e ∈ oj.after, Region.binds md e = true → e.on ≠ i := fun e he hb heq => by
        have h1 := hall e he hb
        rw [heq] at h1
        rcases Nat.lt_or_ge i listed.size with h' | h'
        · simp [h'] at hiun h1; rw [hiun] at h1; cases h1
        · simp [Array.getElem?_eq_none h'] at h1
      have h2 := wpOp_put hoj (hfree j oj hoj hji hjun hnot) (fun cs b => hsel i oi cs b hi) (fun cs b => hsel j oj cs b hoj) hQ hy h1
      have hfree' : ∀ k ok, ops[k]? = some ok → k ≠ i → (listed.setIfInBounds j true).getD k true = false →
          (∀ e ∈ ok.after, Region.binds md e = true → e.on ≠ i) → oi.apart ops ok = true := fun k ok hk hki hun hno => by
        refine hfree k ok hk hki ?_ hno
        by_cases hjk : j = k
        · subst hjk; exact hjun
        · rw [getD_set_ne true hjk] at hun; exact hun
      refine wpOp_mono (fun a' w' h3 => ⟨h3.2.1, ih (listed.setIfInBounds j true) a' w' hfree' (ready_mono hr (Ne.symm hji)) h3.1 ?_⟩) h2
      rw [Array.setIfInBounds_comm _ _ hji]
      exact h3.2.2
theorem oQ {i : Nat} {oi : Oper} {v : Value} {fuel : Nat} {listed : Array Bool} {a : Act} {w : World} (hi : ops[i]? = some oi)
    (hs : Region.noSelect ops = true) (hf : Region.free md ops listed i = true) (hr : (Region.ready md ops listed).contains i = true)
    (hc : Region.nk md ops listed = true) (hl : Region.lastB md ops listed ds i = true)
    (hQ : ∀ c a w, Q (.panic c) (a.put oi.dst v) w → Q (.panic c) a w) (hy : YieldsIf P ops S oi v a) (hS : S w)
    (h : dD P md ops Q S ds fuel (listed.setIfInBounds i true) (a.put oi.dst v) w) : dD P md ops Q S ds (fuel + 1) listed a w :=
  oo hi (Region.noSelect_spec hs) hQ ops.size fuel listed a w (Region.free_spec hi hf) (Region.qG hc)
    (fun d hm hun => by have := List.all_eq_true.1 hl d hm; rw [hun] at this; simpa using this) (by simpa using hr) hy hS h
theorem qf {rs : List Nat} {fuel : Nat} {listed : Array Bool} {a : Act} {w : World} (hr : Region.ready md ops listed = rs) (hne : rs ≠ [])
    (h : ∀ i ∈ rs, wpOp P ops Q i (fun a' w' => (i ∉ ds → S w → S w') ∧ dD P md ops Q S ds fuel (listed.setIfInBounds i true) a' w') a w) : dD P md ops Q S ds (fuel + 1) listed a w :=
  ⟨fun h0 => absurd (hr ▸ h0) hne, hr ▸ h⟩
theorem oU {listed : Array Bool} {a : Act} {w : World} (hr : Region.ready md ops listed = []) (h : Q .normal a w) :
    ∀ fuel, dD P md ops Q S ds fuel listed a w
  | 0 => ⟨hr, h⟩
  | _ + 1 => ⟨fun _ => h, by rw [hr]; simp⟩
theorem oV {id : Nat} {a : Act} {w : World} (hm : P.follows .mixedOrders = true)
    (h : dD P .any ops Q S ds ops.size (Array.replicate ops.size false) a { w with drawn := w.drawn + 1 }) : (Code.region id ops true).wp P Q a w :=
  wp_region_any hm (mJ _ _ _ _ h)
end
section
variable {P : Program} {ops : Array Oper} {Q : Exit → Act → World → Prop} {md : Region.Mode} {S : World → Prop} {ds : List Nat}
def iB (P : Program) (md : Region.Mode) (ops : Array Oper) (Q : Exit → Act → World → Prop) (S : World → Prop) (ds : List Nat) (fuel : Nat) (listed : Array Bool) (a : Act) (w : World) (rs : List Nat) : Prop :=
  ∀ i ∈ rs, wpOp P ops Q i (fun a' w' => (i ∉ ds → S w → S w') ∧ dD P md ops Q S ds fuel (listed.setIfInBounds i true) a' w') a w
theorem iB.nil {fuel : Nat} {listed : Array Bool} {a : Act} {w : World} : iB P md ops Q S ds fuel listed a w [] := fun _ h => by cases h
theorem iB.cons {fuel : Nat} {listed : Array Bool} {a : Act} {w : World} {i : Nat} {o : Oper} {rs : List Nat} (ho : ops[i]? = some o) (hd : i ∉ ds)
    (h : ∀ K' : Act → World → Prop, Shut (∀ a w, S w → (S w → dD P md ops Q S ds fuel (listed.setIfInBounds i true) a w) → K' a w) → if Region.wanted o (yielded ops a.tmps) = true then Oper.wp P o a w K' Q else K' (a.put o.dst undef) w)
    (hs : iB P md ops Q S ds fuel listed a w rs) : iB P md ops Q S ds fuel listed a w (i :: rs) := fun j hj => by
  rcases List.mem_cons.1 hj with rfl | hj
  · exact wpOp_step ho (fun K' hK => h K' (fun a w hS hW => hK a w ⟨fun _ _ => hS, hW hS⟩))
  · exact hs j hj
theorem iB.uL {fuel : Nat} {listed : Array Bool} {a : Act} {w : World} {i : Nat} {o : Oper} {rs : List Nat} (ho : ops[i]? = some o) (hd : i ∈ ds)
    (h : ∀ K' : Act → World → Prop, Shut (∀ a w, dD P md ops Q S ds fuel (listed.setIfInBounds i true) a w → K' a w) → if Region.wanted o (yielded ops a.tmps) = true then Oper.wp P o a w K' Q else K' (a.put o.dst undef) w)
    (hs : iB P md ops Q S ds fuel listed a w rs) : iB P md ops Q S ds fuel listed a w (i :: rs) := fun j hj => by
  rcases List.mem_cons.1 hj with rfl | hj
  · exact wpOp_step ho (fun K' hK => h K' (fun a w hW => hK a w ⟨fun hn => absurd hd hn, hW⟩))
  · exact hs j hj
theorem lL {rs : List Nat} {fuel : Nat} {listed : Array Bool} {a : Act} {w : World} (hr : Region.ready md ops listed = rs) (hne : rs ≠ [])
    (h : iB P md ops Q S ds fuel listed a w rs) : dD P md ops Q S ds (fuel + 1) listed a w := qf hr hne h
theorem iP {id n : Nat} {a : Act} {w : World} (l : Array Bool) (hm : P.follows .mixedOrders = true) (hn : ops.size = n) (hl : Array.replicate n false = l) (hS : S w.drew)
    (h : S w.drew → dD P .any ops Q S ds n l a w.drew) : (Code.region id ops true).wp P Q a w := by
  subst hn
  subst hl
  exact oV hm (h hS)
def takeB (md : Region.Mode) (ops : Array Oper) (ds : List Nat) (l l' : Array Bool) (i : Nat) : Bool :=
  Region.noSelect ops && Region.free md ops l i && (Region.ready md ops l).contains i && Region.nk md ops l && Region.lastB md ops l ds i && (l.setIfInBounds i true == l')
theorem rE {i : Nat} {N : Option Tmp} {oi : Oper} {v : Value} {fuel : Nat} {l : Array Bool} {a : Act} {w : World} (l' : Array Bool) (hi : ops[i]? = some oi) (hN : oi.dst = N) (hc : takeB md ops ds l l' i = true)
    (hQ : ∀ c a w, Q (.panic c) (a.put oi.dst v) w → Q (.panic c) a w) (hy : YieldsIf P ops S oi v a) (hS : S w) {a' : Act} (ha : a.put N v = a')
    (h : dD P md ops Q S ds fuel l' a' w) : dD P md ops Q S ds (fuel + 1) l a w := by
  subst ha
  subst hN
  simp only [takeB, Bool.and_eq_true, beq_iff_eq] at hc
  obtain ⟨⟨⟨⟨⟨h1, h2⟩, h3⟩, h4⟩, h5⟩, h6⟩ := hc
  subst h6
  exact oQ hi h1 h2 h3 h4 h5 hQ hy hS h
def xK (md : Region.Mode) (ops : Array Oper) (l l' : Array Bool) (i : Nat) : Bool :=
  Region.noSelect ops && Region.free md ops l i && (Region.ready md ops l).contains i && (l.setIfInBounds i true == l')
theorem qm {i : Nat} {N : Option Tmp} {oi : Oper} {v : Value} {fuel : Nat} {l : Array Bool} {a : Act} {w : World} (l' : Array Bool) (hi : ops[i]? = some oi) (hN : oi.dst = N) (hc : xK md ops l l' i = true)
    (hQ : ∀ c a w, Q (.panic c) (a.put oi.dst v) w → Q (.panic c) a w) (hy : Yields P ops oi v a) {a' : Act} (ha : a.put N v = a')
    (h : dD P md ops Q S ds fuel l' a' w) : dD P md ops Q S ds (fuel + 1) l a w := by
  subst ha
  subst hN
  simp only [xK, Bool.and_eq_true, beq_iff_eq] at hc
  obtain ⟨⟨⟨h1, h2⟩, h3⟩, h6⟩ := hc
  subst h6
  exact qd hi (Region.noSelect_spec h1) hQ fuel l a w (Region.free_spec hi h2) (by simpa using h3) hy h
def nP (md : Region.Mode) (ops : Array Oper) (l l' : Array Bool) (i : Nat) : Bool := (Region.ready md ops l == [i]) && (l.setIfInBounds i true == l')
theorem vR {i : Nat} {N : Option Tmp} {oi : Oper} {fuel : Nat} {l : Array Bool} {a : Act} {w : World} (l' : Array Bool) (hi : ops[i]? = some oi) (hN : oi.dst = N) (hc : nP md ops l l' i = true) (hd : i ∉ ds)
    (h : ∀ K : Act → World → Prop, Shut (∀ a' w', S w' → (S w' → dD P md ops Q S ds fuel l' a' w') → K a' w') → if Region.wanted oi (yielded ops a.tmps) = true then Oper.wp P oi a w K Q else K (a.put N undef) w) :
    dD P md ops Q S ds (fuel + 1) l a w := by
  subst hN
  simp only [nP, Bool.and_eq_true, beq_iff_eq] at hc
  obtain ⟨h1, h2⟩ := hc
  subst h2
  exact lL h1 (by simp) (iB.cons hi hd (fun K hK => h K hK) iB.nil)
theorem ny {i : Nat} {N : Option Tmp} {oi : Oper} {fuel : Nat} {l : Array Bool} {a : Act} {w : World} (l' : Array Bool) (hi : ops[i]? = some oi) (hN : oi.dst = N) (hc : nP md ops l l' i = true) (hd : i ∈ ds)
    (h : ∀ K : Act → World → Prop, Shut (∀ a' w', dD P md ops Q S ds fuel l' a' w' → K a' w') → if Region.wanted oi (yielded ops a.tmps) = true then Oper.wp P oi a w K Q else K (a.put N undef) w) :
    dD P md ops Q S ds (fuel + 1) l a w := by
  subst hN
  simp only [nP, Bool.and_eq_true, beq_iff_eq] at hc
  obtain ⟨h1, h2⟩ := hc
  subst h2
  exact lL h1 (by simp) (iB.uL hi hd (fun K hK => h K hK) iB.nil)
theorem vS {l : Array Bool} {a : Act} {w : World} {n : Nat} (hr : (Region.ready md ops l == []) = true) (h : Q .normal a w) : dD P md ops Q S ds n l a w := oU (by simpa using hr) h n
theorem zM {fuel : Nat} {l : Array Bool} {a a' : Act} {w : World} (ha : a = a') (h : dD P md ops Q S ds fuel l a' w) : dD P md ops Q S ds fuel l a w := by
  subst ha
  exact h
theorem call_ {oi : Oper} {N : Option Tmp} {a : Act} {w : World} {K : Act → World → Prop} (f : FuncId) (args : Array Value) (hw : Region.wanted oi (yielded ops a.tmps) = true) (hN : oi.dst = N) (hrun : (execOp a.eval oi).run P w = .ok (.enter f args) w)
    (h : Calls P f args w fun e w' => ∃ v, e = .returned v ∧ K (a.put N v) w') : if Region.wanted oi (yielded ops a.tmps) = true then Oper.wp P oi a w K Q else K (a.put N undef) w := by
  rw [if_pos hw]
  subst hN
  unfold Oper.wp
  rw [hrun, Oper.upon_enter]
  refine h.mono fun e w'' hh => ?_
  obtain ⟨v, rfl, hk⟩ := hh
  exact hk
theorem qH {f : FuncId} {fn : Func} (hf : P.funcs[f]? = some fn) (hname : (fn.name == "runtime.NumGoroutine") = false) (hb : fn.body.isSome = true) (args : Array Value) (w : World) : (callFunc f args).run P w = .ok (.enter f args) w := by
  have h1 : fn.name ≠ "runtime.NumGoroutine" := by simpa using hname
  obtain ⟨c, hc⟩ := Option.isSome_iff_exists.1 hb
  simp [callFunc, hf, h1, hc]
theorem zN {oi : Oper} {N : Option Tmp} {a : Act} {w : World} {K : Act → World → Prop} {f : FuncId} {fn : Func} {aa : Array Operand} {ts : Array TypeId} (hf : P.funcs[f]? = some fn) (hname : (fn.name == "runtime.NumGoroutine") = false) (hb : fn.body.isSome = true) (args : Array Value)
    (hw : Region.wanted oi (yielded ops a.tmps) = true) (hN : oi.dst = N) (hop : oi.op = .call { callee := .value (.func f), args := aa, argTypes := ts }) (hargs : aa.map a.eval = args)
    (h : Calls P f args w fun e w' => ∃ v, e = .returned v ∧ K (a.put N v) w') : if Region.wanted oi (yielded ops a.tmps) = true then Oper.wp P oi a w K Q else K (a.put N undef) w := by
  refine call_ f args hw hN ?_ h
  have he := qH hf hname hb args w
  unfold execOp
  simp [hop, resolve, Deferred.ofValue, invoke, Act.eval, hargs, he]
theorem bN {rest : List Oper} {oi : Oper} {a : Act} {w : World} (N : Option Tmp) (hd : oi.dst = N) (hg : oi.guard = none) {f : FuncId} {fn : Func} {aa : Array Operand} {ts : Array TypeId} (hf : P.funcs[f]? = some fn) (hname : (fn.name == "runtime.NumGoroutine") = false) (hb : fn.body.isSome = true) (args : Array Value)
    (hop : oi.op = .call { callee := .value (.func f), args := aa, argTypes := ts }) (hargs : aa.map a.eval = args)
    (h : Calls P f args w fun e w' => ∃ v, e = .returned v ∧ wpList P ops Q rest (a.put N v) w') : wpList P ops Q (oi :: rest) a w := by
  refine wpList_plain hg fun K hK => ?_
  have he := qH hf hname hb args w
  have hrun : (execOp a.eval oi).run P w = .ok (.enter f args) w := by
    unfold execOp
    simp [hop, resolve, Deferred.ofValue, invoke, Act.eval, hargs, he]
  unfold Oper.wp
  rw [hrun, Oper.upon_enter]
  refine h.mono fun e w'' hh => ?_
  obtain ⟨v, rfl, hk⟩ := hh
  subst hd
  exact hK _ _ hk
theorem nz {oi : Oper} {a : Act} {w w1 : World} {K : Act → World → Prop} (hw : Region.wanted oi (yielded ops a.tmps) = true) (hN : oi.dst = none) (hrun : (execOp a.eval oi).run P w = .ok .skip w1)
    (h : K a w1) : if Region.wanted oi (yielded ops a.tmps) = true then Oper.wp P oi a w K Q else K (a.put none undef) w := by
  rw [if_pos hw]
  unfold Oper.wp
  rw [hrun]
  show K (a.put oi.dst undef) w1
  rw [hN]
  exact h
theorem jD (n : Int) : IntKind.i64.wrap n = Go.RowKit.wrap64 n := by unfold Go.RowKit.wrap64; exact IntKind.wrap_i64 n
theorem nA (n : Int) : IntKind.i32.wrap n = Go.RowKit.wrap32 n := by unfold Go.RowKit.wrap32; exact IntKind.wrap_i32 n
end
end Go.Proofs.YteidaijpaijgpaaGreatDoorW.aQ
end
section
namespace Go.Proofs.YteidaijpaijgpaaGreatDoorW.ay
open Go.RowKit
namespace Kd
def tag {α : Type} (f : Nat → Nat) (d : Kd α) : Kd (α × Nat) where
  sz := d.sz
  E := d.E
  K := fun w x cs => d.K w x.1 cs
  M := fun w base ok x cs => d.M w base (fun k => ok k ∧ f k = x.2) x.1 cs
  K_len := fun h => d.K_len h
  K_one := fun h => d.K_one h
  K_below := fun hb h => d.K_below hb h
  K_of_M := fun h => d.K_of_M h
  M_mono := fun hok h => d.M_mono (fun k hk => ⟨hok k hk.1, hk.2⟩) h
  M_bound := fun h => d.M_mono (fun _ hk => ⟨⟨hk.1.1, hk.2⟩, hk.1.2⟩) (d.M_bound h)
  M_move := fun hm h => d.M_move (fun k hk => hm k hk.1) h
  M_lower := fun hb h => d.M_lower hb h
def raw (sz : Nat) : Kd (List Value) where
  sz := sz
  E := []
  K := fun _ x cs => cs = x ∧ cs.length = sz ∧ ∀ u ∈ cs, u.oneCell' = true
  M := fun _ _ _ x cs => cs = x ∧ cs.length = sz ∧ ∀ u ∈ cs, u.oneCell' = true
  K_len := fun h => h.2.1
  K_one := fun h => h.2.2
  K_below := fun _ h => h
  K_of_M := fun h => h
  M_mono := fun _ h => h
  M_bound := fun h => h
  M_move := fun _ h => h
  M_lower := fun _ h => h
def S {α : Type} (d : Kd α) (e : Nat) (w : World) (base : Nat) (ok : Nat → Prop) (v : Value) (xs : List α) : Prop := ∃ f, (tag f d).R e w base ok v xs.zipIdx
section
variable {α β : Type} {d : Kd α} {d' : Kd β} {e e' : Nat} {w w1 W : World} {base b : Nat} {ok ok' okv oku : Nat → Prop} {u v : Value} {xs : List α} {ys : List β}
theorem qI (hE : d.E = []) (h : d.R e w base ok v xs) : d.R e w base (fun k => some k = v.ownBlock) v xs := by
  obtain ⟨h0, inner, ho, hr⟩ := h
  refine ⟨fun k hk => hk.symm, inner, ho, hr.mH (fun p c hp => d.M_mono (fun k hk => ?_) (d.M_bound hp))⟩
  obtain ⟨_, _, _, q, hq, _⟩ := hk
  rw [hE] at hq
  cases hq
end
section
variable {α β : Type} {d : Kd α} {d' : Kd β} {e e' g : Nat} {w w1 W : World} {base b : Nat} {ok ok' okv oku : Nat → Prop} {u v : Value} {xs : List α} {ys : List β}
end
section
variable {P : Program} {ops : Array Oper} {rest : List Oper} {o : Oper} {a : Act} {Q : Exit → Act → World → Prop} {Kc : Act → World → Prop} {α : Type}
end
def gap {α : Type} (f : Nat → Nat) (d : Kd α) (i : Nat) (c : List Value) : Kd (α × Nat) where
  sz := d.sz
  E := d.E
  K := fun w x cs => (x.2 = i → cs = c ∧ cs.length = d.sz ∧ ∀ u ∈ cs, u.oneCell' = true) ∧ (x.2 ≠ i → d.K w x.1 cs)
  M := fun w base ok x cs => (x.2 = i → cs = c ∧ cs.length = d.sz ∧ ∀ u ∈ cs, u.oneCell' = true) ∧ (x.2 ≠ i → d.M w base (fun k => ok k ∧ f k = x.2) x.1 cs)
  K_len := fun {w x cs} h => by
    by_cases hx : x.2 = i
    · exact (h.1 hx).2.1
    · exact d.K_len (h.2 hx)
  K_one := fun {w x cs} h => by
    by_cases hx : x.2 = i
    · exact (h.1 hx).2.2
    · exact d.K_one (h.2 hx)
  K_below := fun hb h => ⟨h.1, fun hx => d.K_below hb (h.2 hx)⟩
  K_of_M := fun h => ⟨h.1, fun hx => d.K_of_M (h.2 hx)⟩
  M_mono := fun hok h => ⟨h.1, fun hx => d.M_mono (fun k hk => ⟨hok k hk.1, hk.2⟩) (h.2 hx)⟩
  M_bound := fun h => ⟨h.1, fun hx => d.M_mono (fun _ hk => ⟨⟨hk.1.1, hk.2⟩, hk.1.2⟩) (d.M_bound (h.2 hx))⟩
  M_move := fun hm h => ⟨h.1, fun hx => d.M_move (fun k hk => hm k hk.1) (h.2 hx)⟩
  M_lower := fun hb h => ⟨h.1, fun hx => d.M_lower hb (h.2 hx)⟩
def H {α : Type} (d : Kd α) (e : Nat) (w : World) (base : Nat) (ok : Nat → Prop) (v : Value) (xs : List α) (i : Int) (oki : Nat → Prop) (c : List Value) : Prop :=
  (∀ k, oki k → ok k) ∧ ∃ f, (gap f d i.toNat c).R e w base (fun k => ok k ∧ ¬ oki k) v xs.zipIdx
section
variable {α β : Type} {d : Kd α} {e e' g n cap : Nat} {w w1 W : World} {base : Nat} {ok ok' oki okp : Nat → Prop} {u v : Value} {xs : List α} {i : Int} {c : List Value}
end
section
variable {P : Program} {ops : Array Oper} {rest : List Oper} {o : Oper} {a : Act} {Q : Exit → Act → World → Prop} {α : Type}
end
end Kd
end Go.Proofs.YteidaijpaijgpaaGreatDoorW.ay
end
section
namespace Go.Proofs.YteidaijpaijgpaaGreatDoorW.ay
open Go.RowKit
def Kept (w W : World) (S : Nat → Prop) : Prop := w.heap.size ≤ W.heap.size ∧ ∀ i, i < w.heap.size → ¬ S i → W.heap[i]? = w.heap[i]?
section
variable {w W W2 : World} {S S2 S' : Nat → Prop}
theorem Kept.refl (w : World) (S : Nat → Prop) : Kept w w S := ⟨Nat.le_refl _, fun _ _ _ => rfl⟩
end
namespace Kd
section
variable {α : Type} {d : Kd α} {e base n c : Nat} {ok oki S S2 : Nat → Prop} {w w0 W W1 W2 : World} {v : Value} {A : Option Addr} {xs : List α} {i : Int} {cs : List Value}
end
end Kd
end Go.Proofs.YteidaijpaijgpaaGreatDoorW.ay
end
section
namespace Go.Proofs.YteidaijpaijgpaaGreatDoorW.ay
open Go.RowKit
def mW (P : World → Prop) (W : World) (ok : Nat → Prop) : Prop := ∀ W' : World, (∀ k, ok k → k < W.heap.size → W'.heap[k]? = W.heap[k]?) → P W'
theorem xL {W W1 : World} {k : Nat} (h : W1.heap[k]? = W.heap[k]?) (hlt : k < W.heap.size) : k < W1.heap.size := by
  rw [Array.getElem?_eq_getElem hlt] at h
  exact (Array.getElem?_eq_some_iff.1 h).1
namespace mW
variable {P Q : World → Prop} {W W1 : World} {ok ok' : Nat → Prop}
theorem now (h : mW P W ok) : P W := h W (fun _ _ _ => rfl)
theorem mono (h : mW P W ok) (hok : ∀ k, ok k → ok' k) : mW P W ok' := fun W' hW => h W' (fun k hk hlt => hW k (hok k hk) hlt)
theorem bound (h : mW P W ok) : mW P W (fun k => ok k ∧ k < W.heap.size) := fun W' hW => h W' (fun k hk hlt => hW k ⟨hk, hlt⟩ hlt)
theorem step (h : mW P W ok) (hm : ∀ k, ok k → k < W.heap.size → W1.heap[k]? = W.heap[k]?) : mW P W1 ok := fun W' hW => h W' (fun k hk hlt => (hW k hk (xL (hm k hk hlt) hlt)).trans (hm k hk hlt))
end mW
namespace Kd
def F {α : Type} (d : Kd α) (W : World) (ok : Nat → Prop) (A : Option Addr) (n : Nat) (xs : List α) : Prop := mW (fun W => d.C W A n xs) W ok
def FK {α : Type} (d : Kd α) (W : World) (ok : Nat → Prop) (x : α) (c : List Value) : Prop := mW (fun W => d.K W x c) W ok
section
variable {α β : Type} {d : Kd α} {e base n n' cc g N : Nat} {ok ok' okp S : Nat → Prop} {w w0 w1 W W1 : World} {A A' : Option Addr} {u v v1 : Value} {xs : List α} {xs' : List β} {d' : Kd β} {x : α} {c : List Value}
theorem R_F (h : d.R e W base ok (.slice A n cc) xs) : F d W ok A n xs := fun W' hW => by
  have h2 := aV (oM h hW)
  rw [h2.1]
  exact h2.2.2
theorem sQ (h : FK d W ok x c) : d.K W x c := mW.now h
theorem uu (h : FK d W ok x c) (hok : ∀ k, ok k → ok' k) : FK d W ok' x c := mW.mono h hok
theorem vT (h : FK d W ok x c) : FK d W (fun k => ok k ∧ k < W.heap.size) x c := mW.bound h
theorem xM (h : FK d W ok x c) (hm : ∀ k, ok k → k < W.heap.size → W1.heap[k]? = W.heap[k]?) : FK d W1 ok x c := mW.step h hm
end
end Kd
end Go.Proofs.YteidaijpaijgpaaGreatDoorW.ay
end
section
namespace Go.Proofs.YteidaijpaijgpaaGreatDoorW.ay
open Go.RowKit
namespace Kd
def chunks (sz : Nat) (n : Nat) (inner : List Value) : List (List Value) := (List.range n).map fun j => (inner.drop (j * sz)).take sz
theorem iZ (sz n : Nat) (inner : List Value) : (chunks sz n inner).length = n := by simp [chunks]
theorem uM {sz n : Nat} {inner : List Value} {j : Nat} (hj : j < n) : (chunks sz n inner)[j]? = some ((inner.drop (j * sz)).take sz) := by simp [chunks, hj]
theorem oW {sz n : Nat} {inner : List Value} {j : Nat} {c : List Value} (h : (chunks sz n inner)[j]? = some c) : c = (inner.drop (j * sz)).take sz := by
  have hj : j < n := by have := (List.getElem?_eq_some_iff.1 h).1; rwa [iZ] at this
  rw [uM hj] at h
  injection h with h
  exact h.symm
theorem vU {α : Type} {Rr : α → List Value → Prop} {sz : Nat} {xs : List α} {inner : List Value} (h : cu Rr sz xs inner) (hR : ∀ x c, Rr x c → c.length = sz ∧ ∀ u ∈ c, u.oneCell' = true) : cu (fun x cs => cs = x ∧ cs.length = sz ∧ ∀ u ∈ cs, u.oneCell' = true) sz (chunks sz xs.length inner) inner := by
  refine ⟨by rw [iZ]; exact h.1, fun j p hj => ?_⟩
  have hjl : j < xs.length := by have := (List.getElem?_eq_some_iff.1 hj).1; rwa [iZ] at this
  have hp := oW hj
  exact ⟨hp.symm, hR _ _ (h.2 j _ (List.getElem?_eq_getElem hjl))⟩
section
variable {α : Type} {d : Kd α} {e base n cc g : Nat} {ok ok' okp S : Nat → Prop} {w w1 W W1 : World} {A : Option Addr} {u v v1 : Value} {xs : List α} {x : α} {c : List Value}
def N {α : Type} (d : Kd α) (e : Nat) (w : World) (base : Nat) (ok : Nat → Prop) (v : Value) (xs : List α) : Prop :=
  (∀ k, v.ownBlock = some k → ok k) ∧ ∃ rows : List (List Value), rows.length = xs.length ∧ (raw d.sz).R e w base (fun k => some k = v.ownBlock) v rows ∧ ∀ (j : Nat) (x : α) (c : List Value), xs[j]? = some x → rows[j]? = some c → FK d w (fun k => ok k ∧ some k ≠ v.ownBlock) x c
theorem uN {sz : Nat} {rows : List (List Value)} (h : (raw sz).R e w base ok v rows) : (raw sz).R e w base (fun k => some k = v.ownBlock) v rows := qI rfl h
theorem zf (h : N d e w base ok v xs) (hok : ∀ k, ok k → ok' k) : N d e w base ok' v xs := by
  obtain ⟨h0, rows, hl, hR, hf⟩ := h
  exact ⟨fun k hk => hok k (h0 k hk), rows, hl, hR, fun j x c hx hc => uu (hf j x c hx hc) (fun k hk => ⟨hok k hk.1, hk.2⟩)⟩
theorem xN {base' : Nat} (h : N d e w base ok v xs) (hb : base' ≤ base) : N d e w base' ok v xs := by
  obtain ⟨h0, rows, hl, hR, hf⟩ := h
  exact ⟨h0, rows, hl, dI hR hb, hf⟩
theorem xO (h : N d e w base ok v xs) : ∃ A c, v = .slice A xs.length c := by
  obtain ⟨_, rows, hl, hR, _⟩ := h
  obtain ⟨A, c, he⟩ := dM hR
  exact ⟨A, c, by rw [he, hl]⟩
end
end Kd
end Go.Proofs.YteidaijpaijgpaaGreatDoorW.ay
end
section
namespace Go.Proofs.YteidaijpaijgpaaGreatDoorW.ay
open Go.RowKit
namespace Kd
section
variable {α : Type} {d : Kd α} {e base n cap g : Nat} {ok ok' okp : Nat → Prop} {w w1 W : World} {v v1 : Value} {xs ys : List α}
theorem zg {rows : List (List Value)} (hR : (raw d.sz).R e w1 base (fun k => k = W.heap.size) v1 rows) (hg : W.grownBy w1 none) (hat : ∃ b, v1.ownBlock = some b ∧ W.heap.size ≤ b) (hl : rows.length = xs.length) (hf : ∀ (j : Nat) (x : α) (c : List Value), xs[j]? = some x → rows[j]? = some c → FK d W okp x c)
    (hok : ∀ k, okp k → ok k) (hfresh : ok W.heap.size) : N d e w1 base ok v1 xs := by
  obtain ⟨b, hb, hle⟩ := hat
  refine ⟨fun k hk => by rw [hR.1 k hk]; exact hfresh, rows, hl, uN hR, fun j x c hx hc => ?_⟩
  refine uu (xM (vT (hf j x c hx hc)) (fun k hk hlt => hg.block k hlt (by simp))) (fun k hk => ⟨hok k hk.1, fun he => ?_⟩)
  rw [hb] at he
  injection he with he
  have := hk.2
  omega
end
section
variable {P : Program} {ops : Array Oper} {rest : List Oper} {o : Oper} {a : Act} {Q : Exit → Act → World → Prop} {Kc : Act → World → Prop} {α : Type}
theorem sS (d : Kd α) {w0 W : World} (base e : Nat) (hw : Region.wanted o (yielded ops a.tmps) = true) {N' : Tmp} (_hd : o.dst = some N') {xs : List α} {inner : List Value} {ok okp : Nat → Prop}
    (hrun : (execOp a.eval o).run P W = .ok (.value (.slice (some ⟨W.heap.size, 0, none⟩) xs.length xs.length)) (W.alloc (.cells inner.toArray e)))
    (hrep : cu (FK d W okp) d.sz xs inner) (hok : ∀ k, okp k → ok k) (hfresh : ok W.heap.size) (HB : Below base w0 W) (hbase : base ≤ W.heap.size) (hm : xs.length ≤ 9223372036854775807)
    (h : ∀ v1 w1, N d e w1 base ok v1 xs → Below base w0 w1 → W.grownBy w1 none → (∃ b, v1.ownBlock = some b ∧ W.heap.size ≤ b) → Kc (a.put o.dst v1) w1) :
    if Region.wanted o (yielded ops a.tmps) = true then Oper.wp P o a W Kc Q else Kc (a.put o.dst undef) W := by
  refine jR (raw d.sz) base e hw _hd (xs := chunks d.sz xs.length inner) (inner := inner) (ok := fun k => k = W.heap.size) (okp := fun _ => False) (by rw [iZ]; exact hrun) (vU hrep (fun y c hk => ⟨d.K_len (sQ hk), d.K_one (sQ hk)⟩)) (fun _ hk => hk.elim) rfl HB hbase (by rw [iZ]; exact hm) ?_
  intro v1 w1 hr hb hg hat
  exact h v1 w1 (zg hr hg hat (iZ _ _ _) (fun j y c hy hc => by rw [oW hc]; exact hrep.2 j y hy) hok hfresh) hb hg hat
end
end Kd
end Go.Proofs.YteidaijpaijgpaaGreatDoorW.ay
end
section
namespace Go.Proofs.YteidaijpaijgpaaGreatDoorW.aZ
open Go.RowKit Go.Proofs.YteidaijpaijgpaaGreatDoorW.ay
namespace Kd
open Go.Proofs.YteidaijpaijgpaaGreatDoorW.ay.Kd
end Kd
namespace Kd
open Go.Proofs.YteidaijpaijgpaaGreatDoorW.ay.Kd
section
variable {α : Type} {d : Kd α} {e base g N : Nat} {ok : Nat → Prop} {W w1 : World} {u v : Value} {xs : List α}
end
end Kd
theorem bz (k k' : IntKind) (x y : Int) : Builtin.max2 (.int k x) (.int k' y) = pure (.int k (if x < y then y else x)) := by simp only [Builtin.max2, gt_iff_lt]
theorem bA (k k' : IntKind) (x y : Int) : Builtin.min2 (.int k x) (.int k' y) = pure (.int k (if y < x then y else x)) := by simp only [Builtin.min2]
theorem bP (ats : Array TypeId) (ty : TypeId) (a b : Value) : Builtin.max_ ats ty #[a, b] = (Builtin.max2 a b >>= fun s => pure s) := by simp only [Builtin.max_, List.foldlM_cons, List.foldlM_nil]
theorem bQ (ats : Array TypeId) (ty : TypeId) (a b : Value) : Builtin.min_ ats ty #[a, b] = (Builtin.min2 a b >>= fun s => pure s) := by simp only [Builtin.min_, List.foldlM_cons, List.foldlM_nil]
theorem bq (ats : Array TypeId) (ty : TypeId) (a b c : Value) : Builtin.max_ ats ty #[a, b, c] = (Builtin.max2 a b >>= fun s => Builtin.max2 s c >>= fun s => pure s) := by simp only [Builtin.max_, List.foldlM_cons, List.foldlM_nil]
theorem bu (ats : Array TypeId) (ty : TypeId) (a b c : Value) : Builtin.min_ ats ty #[a, b, c] = (Builtin.min2 a b >>= fun s => Builtin.min2 s c >>= fun s => pure s) := by simp only [Builtin.min_, List.foldlM_cons, List.foldlM_nil]
theorem bB (ats : Array TypeId) (ty : TypeId) (a b c d : Value) : Builtin.max_ ats ty #[a, b, c, d] = (Builtin.max2 a b >>= fun s => Builtin.max2 s c >>= fun s => Builtin.max2 s d >>= fun s => pure s) := by simp only [Builtin.max_, List.foldlM_cons, List.foldlM_nil]
theorem bC (ats : Array TypeId) (ty : TypeId) (a b c d : Value) : Builtin.min_ ats ty #[a, b, c, d] = (Builtin.min2 a b >>= fun s => Builtin.min2 s c >>= fun s => Builtin.min2 s d >>= fun s => pure s) := by simp only [Builtin.min_, List.foldlM_cons, List.foldlM_nil]
end Go.Proofs.YteidaijpaijgpaaGreatDoorW.aZ
namespace Go.Proofs.YteidaijpaijgpaaGreatDoorW.ay
open Go.RowKit
section
variable {P : Program} {ops : Array Oper} {rest : List Oper} {o : Oper} {a : Act} {Q : Exit → Act → World → Prop} {W : World}
theorem aH {f : FuncId} {aa : Array Operand} {ts : Array TypeId} (_ho : o.op = .call { callee := .value (.func f), args := aa, argTypes := ts }) (h : wpList P ops Q (o :: rest) a W) : wpList P ops Q (o :: rest) a W := h
theorem gG {b : Builtin} {xs : Array Operand} {ts : Array TypeId} (_ho : o.op = .call { callee := .builtin b, args := xs, argTypes := ts }) (h : wpList P ops Q (o :: rest) a W) : wpList P ops Q (o :: rest) a W := h
end
def mx (a b : Int) : Int := if a < b then b else a
def mn (a b : Int) : Int := if b < a then b else a
def shl (k : IntKind) (x y : Int) : Int := k.wrap (x * 2 ^ min y.toNat k.bits)
def shr (k : IntKind) (x y : Int) : Int := x / 2 ^ min y.toNat k.bits
theorem zG {k : IntKind} {x y j : Int} (h : shl k x y = j) (hy : y ≤ k.bits) : k.wrap (x * 2 ^ y.toNat) = j := by rw [← h]; unfold shl; rw [Nat.min_eq_left (by omega)]
theorem uO {k : IntKind} {x y j : Int} (h : shr k x y = j) (hy : y ≤ k.bits) : x / 2 ^ y.toNat = j := by rw [← h]; unfold shr; rw [Nat.min_eq_left (by omega)]
theorem sU (w : World) (n : Nat) : w.drewN n = w.drewN n := rfl
namespace Kd
section
variable {α : Type} {d : Kd α} {e base : Nat} {ok : Nat → Prop} {W w1 : World} {v : Value} {xs : List α}
end
section
variable {α : Type} {d : Kd α} {e base g n cap : Nat} {ok oki okp : Nat → Prop} {W : World} {xs : List α} {i : Int} {c : List Value}
end
section
variable {α : Type} {d : Kd α} {e base b b' g N : Nat} {ok ok1 : Nat → Prop} {W W2 w1 : World} {u v : Value} {xs ys : List α} {S : Nat → Prop}
end
end Kd
end Go.Proofs.YteidaijpaijgpaaGreatDoorW.ay
namespace Go.Proofs.YteidaijpaijgpaaGreatDoorW.ay
open Go.RowKit
namespace Kd
section
variable {α β : Type} {d : Kd α} {e base base' n m c g N' lo hi : Nat} {ok ok' S : Nat → Prop} {w W w1 : World} {A : Option Addr} {ad : Addr} {u v v1 : Value} {xs : List α}
theorem lY {l : List α} (hl : l.length ≤ c) (hf : F d W ok A l.length l) : FK (Kd.slice e d) W ok l [.slice A l.length c] := fun W' hW => ⟨A, c, rfl, hl, hf W' hW⟩
end
end Kd
end Go.Proofs.YteidaijpaijgpaaGreatDoorW.ay
end
section
namespace Go.Proofs.YteidaijpaijgpaaGreatDoorW.aQ
open Go.Proofs.YteidaijpaijgpaaGreatDoorW.ay (ae)
def mr (md : Region.Mode) (o : Oper) : List Nat := (o.after.toList.filter (fun e => Region.binds md e)).map (fun e => e.on)
def qJ (md : Region.Mode) (ops : Array Oper) (i : Nat) (oi : Oper) : List Nat := (List.range ops.size).filter fun j => !(j == i) && match ops[j]? with
  | some oj => !(oj.after.any (fun e => Region.binds md e && e.on == i) || oi.apart ops oj)
  | none => false
def iV (md : Region.Mode) (ops : Array Oper) : Bool × List (List Nat × List Nat) := (Region.noSelect ops, (List.range ops.size).map fun i => match ops[i]? with
  | some o => (mr md o, qJ md ops i o)
  | none => ([], []))
def kN (T : List (List Nat × List Nat)) (l : List Bool) (i : Nat) : Bool := !l.getD i true && match T[i]? with
  | some r => r.1.all (fun j => l.getD j false)
  | none => false
def mX (T : List (List Nat × List Nat)) (l : List Bool) : List Nat := (List.range T.length).filter (kN T l)
def rJ (T : List (List Nat × List Nat)) (l : List Bool) (i : Nat) : Bool := match T[i]? with
  | some r => r.2.all (fun j => l.getD j true)
  | none => false
def oJ (T : List (List Nat × List Nat)) (l : List Bool) : Bool := (List.range T.length).all fun j => !l.getD j false || match T[j]? with
  | some r => r.1.all (fun k => l.getD k false)
  | none => true
def nQ (T : List (List Nat × List Nat)) (i : Nat) : Nat → Nat → Bool
  | 0, _ => false
  | fuel + 1, d => match T[d]? with
    | some r => r.1.any fun j => j == i || nQ T i fuel j
    | none => false
def lastT (T : List (List Nat × List Nat)) (l : List Bool) (ds : List Nat) (i : Nat) : Bool := ds.all fun d => l.getD d true || nQ T i T.length d
section
variable {md : Region.Mode} {ops : Array Oper} {T : Bool × List (List Nat × List Nat)} {l l' li lj lk : Array Bool} {ds : List Nat} {i j k : Nat}
theorem gd (l : Array Bool) (j : Nat) (b : Bool) : l.getD j b = l.toList.getD j b := by simp [Array.getD_eq_getD_getElem?, List.getD_eq_getElem?_getD]
theorem qo (o : Oper) (p : Nat → Bool) : o.after.all (fun e => !Region.binds md e || p e.on) = (mr md o).all p := by
  unfold mr
  rw [← Array.all_toList]
  induction o.after.toList with
  | nil => rfl
  | cons e r ih =>
    rw [List.all_cons, ih, List.filter_cons]
    cases h : Region.binds md e <;> simp
theorem uP (o : Oper) (p : Nat → Bool) : o.after.any (fun e => Region.binds md e && p e.on) = (mr md o).any p := by
  unfold mr
  rw [← Array.any_toList]
  induction o.after.toList with
  | nil => rfl
  | cons e r ih =>
    rw [List.any_cons, ih, List.filter_cons]
    cases h : Region.binds md e <;> simp
theorem kP : (iV md ops).2.length = ops.size := by simp [iV]
theorem mD {o : Oper} (h : ops[i]? = some o) : (iV md ops).2[i]? = some (mr md o, qJ md ops i o) := by
  have hi := (Array.getElem?_eq_some_iff.1 h).1
  unfold iV
  rw [List.getElem?_map, List.getElem?_range hi, Option.map_some, h]
theorem mE (h : ops[i]? = none) : (iV md ops).2[i]? = none := by
  have hi : ops.size ≤ i := Array.getElem?_eq_none_iff.1 h
  exact List.getElem?_eq_none (by rw [kP]; exact hi)
theorem sV : kN (iV md ops).2 l.toList i = (!l.getD i true && ((ops[i]?).map (·.after.all fun e => !Region.binds md e || l.getD e.on false)).getD false) := by
  unfold kN
  rw [gd]
  cases h : ops[i]? with
  | none => rw [mE h]; rfl
  | some o =>
    rw [mD h]
    simp only [Option.map_some, Option.getD_some]
    rw [← qo]
    simp only [gd]
theorem ready_eq : Region.ready md ops l = mX (iV md ops).2 l.toList := by
  unfold Region.ready mX
  rw [kP]
  refine List.filter_congr (fun i _ => ?_)
  rw [sV]
theorem free_eq : Region.free md ops l i = rJ (iV md ops).2 l.toList i := by
  unfold Region.free rJ
  cases h : ops[i]? with
  | none => rw [mE h]
  | some oi =>
    rw [mD h]
    simp only [qJ]
    rw [List.all_filter]
    congr 1
    funext j
    rw [gd]
    cases hj : ops[j]? with
    | none => cases (j == i) <;> cases (l.toList.getD j true) <;> simp
    | some oj =>
      cases (j == i) <;> cases (l.toList.getD j true) <;> cases (oj.after.any (fun e => Region.binds md e && e.on == i) || oi.apart ops oj) <;> simp_all
theorem uQ : Region.nk md ops l = oJ (iV md ops).2 l.toList := by
  unfold Region.nk oJ
  rw [kP]
  congr 1
  funext j
  rw [gd]
  cases h : ops[j]? with
  | none => rw [mE h]
  | some o =>
    rw [mD h]
    simp only
    rw [← qo]
    simp only [gd]
theorem rM : ∀ (fuel d : Nat), Region.ko md ops i fuel d = nQ (iV md ops).2 i fuel d
  | 0, _ => rfl
  | fuel + 1, d => by
    unfold Region.ko nQ
    cases h : ops[d]? with
    | none => rw [mE h]
    | some o =>
      rw [mD h]
      simp only
      rw [← uP]
      congr 1
      funext e
      rw [rM fuel]
theorem xP : Region.lastB md ops l ds i = lastT (iV md ops).2 l.toList ds i := by
  unfold Region.lastB lastT
  rw [kP]
  congr 1
  funext d
  rw [gd, rM]
theorem nW (h : kN T.2 l.toList i = true) (hT : iV md ops = T) : (Region.ready md ops l).contains i = true := by
  subst hT
  rw [ready_eq]
  unfold mX
  rw [List.contains_iff_mem, List.mem_filter, List.mem_range]
  refine ⟨?_, h⟩
  unfold kN at h
  rw [Bool.and_eq_true] at h
  cases hq : (iV md ops).2[i]? with
  | none => rw [hq] at h; simp at h
  | some r => exact (List.getElem?_eq_some_iff.1 hq).1
theorem sW (h : (l.toList.set i true == l'.toList) = true) : (l.setIfInBounds i true == l') = true := by
  rw [beq_iff_eq] at h ⊢
  apply Array.ext'
  rw [Array.toList_setIfInBounds]
  exact h
def xQ (T : Bool × List (List Nat × List Nat)) (l l' : List Bool) (i : Nat) : Bool := T.1 && rJ T.2 l i && kN T.2 l i && (l.set i true == l')
theorem vV (hT : iV md ops = T) (h : xQ T l.toList l'.toList i = true) : xK md ops l l' i = true := by
  simp only [xQ, Bool.and_eq_true] at h
  obtain ⟨⟨⟨h1, h2⟩, h3⟩, h4⟩ := h
  have h5 := nW h3 hT
  have h6 := sW h4
  subst hT
  simp only [xK, Bool.and_eq_true]
  exact ⟨⟨⟨h1, by rw [free_eq]; exact h2⟩, h5⟩, h6⟩
def vW (T : Bool × List (List Nat × List Nat)) (ds : List Nat) (l l' : List Bool) (i : Nat) : Bool := T.1 && rJ T.2 l i && kN T.2 l i && oJ T.2 l && lastT T.2 l ds i && (l.set i true == l')
theorem xR (hT : iV md ops = T) (h : vW T ds l.toList l'.toList i = true) : takeB md ops ds l l' i = true := by
  simp only [vW, Bool.and_eq_true] at h
  obtain ⟨⟨⟨⟨⟨h1, h2⟩, h3⟩, h4⟩, h5⟩, h6⟩ := h
  have h7 := nW h3 hT
  have h8 := sW h6
  subst hT
  simp only [takeB, Bool.and_eq_true]
  exact ⟨⟨⟨⟨⟨h1, by rw [free_eq]; exact h2⟩, h7⟩, by rw [uQ]; exact h4⟩, by rw [xP]; exact h5⟩, h8⟩
theorem kV (hT : iV md ops = T) (h : (mX T.2 l.toList == [i] && l.toList.set i true == l'.toList) = true) : nP md ops l l' i = true := by
  simp only [Bool.and_eq_true] at h
  obtain ⟨h1, h2⟩ := h
  subst hT
  simp only [nP, Bool.and_eq_true]
  exact ⟨by rw [ready_eq]; exact h1, sW h2⟩
theorem xS (hT : iV md ops = T) (h : (mX T.2 l.toList == []) = true) : (Region.ready md ops l == []) = true := by
  subst hT
  rw [ready_eq]
  exact h
def upM (B : List Nat) (d : Nat) : List Nat → Nat
  | [] => 0
  | n :: r => (2 ^ n ||| (if n < d then B.getD n 0 else 0)) ||| upM B d r
def iA (T : List (List Nat × List Nat)) (B : List Nat) : Bool := (List.range T.length).all fun d => match T[d]? with
  | some r => (B.getD d 0 ||| upM B d r.1) == upM B d r.1
  | none => false
theorem uw {B : List Nat} {d i : Nat} : ∀ {ns : List Nat}, (upM B d ns).testBit i = true → ∃ n ∈ ns, n = i ∨ (n < d ∧ (B.getD n 0).testBit i = true)
  | [], h => by simp [upM] at h
  | n :: r, h => by
    unfold upM at h
    rw [Nat.testBit_or, Nat.testBit_or, Bool.or_eq_true, Bool.or_eq_true] at h
    rcases h with (h | h) | h
    · rw [Nat.testBit_two_pow] at h
      exact ⟨n, List.mem_cons_self, .inl (by simpa using h)⟩
    · by_cases hn : n < d
      · rw [if_pos hn] at h
        exact ⟨n, List.mem_cons_self, .inr ⟨hn, h⟩⟩
      · rw [if_neg hn] at h
        simp at h
    · obtain ⟨m, hm, h2⟩ := uw h
      exact ⟨m, List.mem_cons_of_mem _ hm, h2⟩
theorem qp {T : List (List Nat × List Nat)} {B : List Nat} (hB : iA T B = true) : ∀ (fuel d : Nat), d < fuel → d < T.length → (B.getD d 0).testBit i = true → nQ T i fuel d = true
  | 0, d, h, _, _ => by omega
  | fuel + 1, d, h, hd, hb => by
    have h1 := List.all_eq_true.1 hB d (List.mem_range.2 hd)
    cases hr : T[d]? with
    | none => rw [hr] at h1; simp at h1
    | some r =>
      rw [hr] at h1
      simp only [beq_iff_eq] at h1
      have h2 : (upM B d r.1).testBit i = true := by rw [← h1, Nat.testBit_or, hb, Bool.true_or]
      obtain ⟨n, hn, h3⟩ := uw h2
      unfold nQ
      rw [hr]
      simp only
      rw [List.any_eq_true]
      refine ⟨n, hn, ?_⟩
      rcases h3 with rfl | ⟨h4, h5⟩
      · simp
      · rw [qp hB fuel n (by omega) (by omega) h5, Bool.or_true]
def yL (T : List (List Nat × List Nat)) (B : List Nat) (l : List Bool) (ds : List Nat) (i : Nat) : Bool := ds.all fun d => l.getD d true || (decide (d < T.length) && (B.getD d 0).testBit i)
def vX (T : Bool × List (List Nat × List Nat)) (B : List Nat) (ds : List Nat) (l l' : List Bool) (i : Nat) : Bool := T.1 && rJ T.2 l i && kN T.2 l i && oJ T.2 l && yL T.2 B l ds i && (l.set i true == l')
theorem vY {B : List Nat} (hT : iV md ops = T) (hB : iA T.2 B = true) (h : vX T B ds l.toList l'.toList i = true) : takeB md ops ds l l' i = true := by
  refine xR hT ?_
  simp only [vX, vW, Bool.and_eq_true] at h ⊢
  obtain ⟨⟨⟨⟨⟨h1, h2⟩, h3⟩, h4⟩, h5⟩, h6⟩ := h
  refine ⟨⟨⟨⟨⟨h1, h2⟩, h3⟩, h4⟩, ?_⟩, h6⟩
  unfold yL at h5
  unfold lastT
  rw [List.all_eq_true] at h5 ⊢
  intro d hd
  have h7 := h5 d hd
  rw [Bool.or_eq_true, Bool.and_eq_true, decide_eq_true_eq] at h7
  rcases h7 with h7 | ⟨h8, h9⟩
  · rw [h7, Bool.true_or]
  · rw [qp hB _ d h8 h8 h9, Bool.or_true]
theorem fV {P : Program} {Q : Exit → Act → World → Prop} {S : World → Prop} {n : Nat} {a : Act} {w : World} {B : List Nat} (hT : iV md ops = T) (hB : iA T.2 B = true) (h : ae (iV md ops = T) → ae (iA T.2 B = true) → dD P md ops Q S ds n l a w) : dD P md ops Q S ds n l a w := h ⟨hT⟩ ⟨hB⟩
end
def mK : Code → Nat → Option (Array Oper)
  | .region id ops _, k => if id == k then some ops else none
  | .seq a b, k => match mK a k with
    | some o => some o
    | none => mK b k
  | .cond _ a b, k => match mK a k with
    | some o => some o
    | none => mK b k
  | .block _ c, k => mK c k
  | .loop c, k => mK c k
  | .scope c, k => mK c k
  | .rangeFunc _ _ a b, k => match mK a k with
    | some o => some o
    | none => mK b k
  | _, _ => none
def opsOf (f : Func) (k : Nat) : Array Oper := ((f.body.bind fun c => mK c k)).getD #[]
end Go.Proofs.YteidaijpaijgpaaGreatDoorW.aQ
end
section
namespace Go.Proofs.YteidaijpaijgpaaGreatDoorW.aQ
open Go.RowKit Go.Proofs.YteidaijpaijgpaaGreatDoorW.ay
section
variable {P : Program} {ops : Array Oper} {Q : Exit → Act → World → Prop} {md : Region.Mode} {S : World → Prop} {ds : List Nat} {T : Bool × List (List Nat × List Nat)} {B : List Nat} {oi : Oper} {v : Value} {fuel : Nat} {l : Array Bool} {a a' : Act} {w : World}
theorem fI (i : Nat) (N : Option Tmp) (HT : ae (iV md ops = T)) (HW : ae (iA T.2 B = true)) (hS : S w)
    (h : dD P md ops Q S ds fuel (l.setIfInBounds i true) a' w) (hi : ops[i]? = some oi := by exact rfl) (hN : oi.dst = N := by exact rfl)
    (hc : vX T B ds l.toList (l.setIfInBounds i true).toList i = true := by kernel_rfl) (hQ : ∀ c a w, Q (.panic c) (a.put oi.dst v) w → Q (.panic c) a w := by exact fun _ _ _ h => h)
    (hw : Region.wanted oi (yielded ops a.tmps) = true := by exact rfl) (hv : ∀ w', S w' → (execOp a.eval oi).run P w' = .ok (.value v) w' := by (intro w' s_; (repeat (obtain ⟨_, s_⟩ := s_)); go_simp; with_reducible rfl))
    (ha : a.put N v = a' := by (simp only [Act.put, List.setIfInBounds_toArray, List.set_cons_zero, List.set_cons_succ, jD, nA]; rfl)) : dD P md ops Q S ds (fuel + 1) l a w :=
  rE (l.setIfInBounds i true) hi hN (vY HT.out HW.out hc) hQ (.inl ⟨hw, hv⟩) hS ha h
theorem bL (i : Nat) (N : Option Tmp) (HT : ae (iV md ops = T))
    (h : dD P md ops Q S ds fuel (l.setIfInBounds i true) a' w) (hi : ops[i]? = some oi := by exact rfl) (hN : oi.dst = N := by exact rfl)
    (hc : xQ T l.toList (l.setIfInBounds i true).toList i = true := by kernel_rfl) (hQ : ∀ c a w, Q (.panic c) (a.put oi.dst v) w → Q (.panic c) a w := by exact fun _ _ _ h => h)
    (hw : Region.wanted oi (yielded ops a.tmps) = true := by exact rfl) (hv : ∀ w', (execOp a.eval oi).run P w' = .ok (.value v) w' := by (intro w'; go_simp; with_reducible rfl))
    (ha : a.put N v = a' := by (simp only [Act.put, List.setIfInBounds_toArray, List.set_cons_zero, List.set_cons_succ, jD, nA]; rfl)) : dD P md ops Q S ds (fuel + 1) l a w :=
  qm (l.setIfInBounds i true) hi hN (vV HT.out hc) hQ (.inl ⟨hw, hv⟩) ha h
theorem jf (i : Nat) (N : Option Tmp) (HT : ae (iV md ops = T))
    (h : dD P md ops Q S ds fuel (l.setIfInBounds i true) a' w) (hi : ops[i]? = some oi := by exact rfl) (hN : oi.dst = N := by exact rfl)
    (hc : xQ T l.toList (l.setIfInBounds i true).toList i = true := by kernel_rfl) (hQ : ∀ c a w, Q (.panic c) (a.put oi.dst undef) w → Q (.panic c) a w := by exact fun _ _ _ h => h)
    (hw : Region.wanted oi (yielded ops a.tmps) = false := by exact rfl)
    (ha : a.put N undef = a' := by (simp only [Act.put, List.setIfInBounds_toArray, List.set_cons_zero, List.set_cons_succ, jD, nA]; rfl)) : dD P md ops Q S ds (fuel + 1) l a w :=
  qm (l.setIfInBounds i true) hi hN (vV HT.out hc) hQ (.inr ⟨hw, rfl⟩) ha h
theorem iW (i : Nat) (N : Option Tmp) (HT : ae (iV md ops = T))
    (h : ∀ K : Act → World → Prop, Shut (∀ a' w', S w' → (S w' → dD P md ops Q S ds fuel (l.setIfInBounds i true) a' w') → K a' w') → if Region.wanted oi (yielded ops a.tmps) = true then Oper.wp P oi a w K Q else K (a.put N undef) w)
    (hi : ops[i]? = some oi := by exact rfl) (hN : oi.dst = N := by exact rfl) (hc : (mX T.2 l.toList == [i] && l.toList.set i true == (l.setIfInBounds i true).toList) = true := by kernel_rfl) (hd : i ∉ ds := by decide) :
    dD P md ops Q S ds (fuel + 1) l a w := vR (l.setIfInBounds i true) hi hN (kV HT.out hc) hd h
theorem jI {n : Nat} (HT : ae (iV md ops = T)) (h : Q .normal a w) (hc : (mX T.2 l.toList == []) = true := by kernel_rfl) : dD P md ops Q S ds n l a w := vS (xS HT.out hc) h
theorem gD (N : Option Tmp) {b : Act} {u : Value} (h : dD P md ops Q S ds fuel l a' w) (ha : Act.put b N u = a' := by (simp only [Act.put, List.setIfInBounds_toArray, List.set_cons_zero, List.set_cons_succ, jD, nA]; rfl)) : dD P md ops Q S ds fuel l (Act.put b N u) w := zM ha h
end
theorem qt {p : Prop} (h : p := by ((try simp only [List.map_toArray, List.map_cons, List.map_nil]); first | done | rfl | (simp only [List.length_drop, List.length_take]; rfl))) : p := h
theorem qa {p : Prop} (h : p := by first | (with_reducible assumption) | assumption) : p := h
theorem uR {α : Type} {x y : α} (h : x = y := by (simp only [Act.put, List.setIfInBounds_toArray, List.set_cons_zero, List.set_cons_succ, jD, nA]; rfl)) : x = y := h
theorem qr {p q : Prop} (h : ae p) (k : p → q := by (intro h_; (with_reducible repeat (first | apply Kd.di | apply Kd.dm | apply Kd.dR)); exact h_)) : q := k h.out
theorem qb {p q : Prop} (h : ae p) (k : p → q := by (intro h_; (with_reducible repeat (first | refine gz ?_ _ | refine dQ ?_ | refine gy ?_ _)); exact h_)) : q := k h.out
theorem qw {p q : Prop} (h : ae p) (k : p → q := by (intro h_; repeat (first | (with_reducible first | exact h_ | apply au | apply ai | apply ak | refine bn ?_ (ae.out (by assumption))) | exact h_))) : q := k h.out
theorem qs {p q : Prop} (h : p) (k : p → q := by (intro h_; repeat (first | exact h_ | (with_reducible refine Kd.oH ?_ _) | (with_reducible refine Kd.oI ?_ _) | (with_reducible refine Kd.qF ?_)))) : q := k h
theorem qbb {w W w1 : World} {g : Nat} {o : Obj} (h : ae (w.heap[g]? = some o)) (hb : Below W.heap.size W w1) (k : w.heap[g]? = some o → W.heap[g]? = some o := by (intro h_; (with_reducible repeat (first | refine gz ?_ _ | refine dQ ?_ | refine gy ?_ _)); exact h_)) : ae (w1.heap[g]? = some o) := ⟨ji (k h.out) hb⟩
theorem qge {w W W1 : World} {B g : Nat} (h : ae (Below B w W)) (hg : g = W1.heap.size) (k : Below B w W → Below w.heap.size w W1 := by (intro h_; repeat (first | (with_reducible first | exact h_ | apply au | apply ai | apply ak | refine bn ?_ (ae.out (by assumption))) | exact h_))) : ae (w.heap.size ≤ g) := ⟨by rw [hg]; exact bi (k h.out)⟩
theorem qnl {w W : World} {g gb : Nat} {o : Obj} (h : ae (w.heap[g]? = some o)) (hg : gb = W.heap.size) (k : w.heap[g]? = some o → W.heap[g]? = some o := by (intro h_; (with_reducible repeat (first | refine gz ?_ _ | refine dQ ?_ | refine gy ?_ _)); exact h_)) : ae (g ≠ gb) := ⟨by rw [hg]; exact Nat.ne_of_lt (ky (k h.out))⟩
theorem qng {w W : World} {g gb : Nat} {o : Obj} (h : ae (w.heap[g]? = some o)) (hg : gb = W.heap.size) (k : w.heap[g]? = some o → W.heap[g]? = some o := by (intro h_; (with_reducible repeat (first | refine gz ?_ _ | refine dQ ?_ | refine gy ?_ _)); exact h_)) : ae (gb ≠ g) := ⟨by rw [hg]; exact Nat.ne_of_gt (ky (k h.out))⟩
abbrev bT : Bool := true
abbrev bF : Bool := false
section
variable {P : Program} {Q : Exit → Act → World → Prop} {oi : Oper} {N : Option Tmp} {a : Act} {w : World} {K : Act → World → Prop} {f : FuncId} {fn : Func} {aa : Array Operand} {ts : Array TypeId} {ops : Array Oper}
theorem gX (hf : P.funcs[f]? = some fn) (args : Array Value) (h : Calls P f args w fun e w' => ∃ v, e = .returned v ∧ K (a.put N v) w')
    (hw : Region.wanted oi (yielded ops a.tmps) = true := by exact rfl) (hN : oi.dst = N := by exact rfl) (hop : oi.op = .call { callee := .value (.func f), args := aa, argTypes := ts } := by exact rfl)
    (hname : (fn.name == "runtime.NumGoroutine") = false := by kernel_rfl) (hb : fn.body.isSome = true := by exact rfl)
    (hargs : aa.map a.eval = args := by ((try simp only [List.map_toArray, List.map_cons, List.map_nil]); first | done | rfl | (simp only [List.length_drop, List.length_take]; rfl))) : if Region.wanted oi (yielded ops a.tmps) = true then Oper.wp P oi a w K Q else K (a.put N undef) w :=
  zN hf hname hb args hw hN hop hargs h
end
end Go.Proofs.YteidaijpaijgpaaGreatDoorW.aQ
end
section
set_option linter.unusedVariables false
set_option linter.unusedSimpArgs false
namespace Go.Proofs.YteidaijpaijgpaaGreatDoorV
open Go.RowKit Go.Proofs.YteidaijpaijgpaaGreatDoorW.ay Go.Proofs.YteidaijpaijgpaaGreatDoorW.aQ Go.Proofs.YteidaijpaijgpaaGreatDoorW.aZ
section
variable {P : Program} {ops : Array Oper} {rest : List Oper} {o : Oper} {a : Act} {Q : Exit → Act → World → Prop} {α : Type}
theorem xU (d : Kd α) {w0 W : World} (base e : Nat) (hgd : o.guard = none) {N : Tmp} (hd : o.dst = some N) (t : TypeId) (x y : Operand) (ho : o.op = .makeSlice t x y) (n : Int) (hx : a.eval x = .int .i64 0) (hy : a.eval y = .int .i64 n)
    (ht : P.underlying t = some (.slice e)) (z : Value) (bytes : Nat) (hinfo : (P.info? e).map (fun i => (i.zero, i.size, i.bytes)) = some (some z, d.sz, bytes)) (hz : z.cells.size = d.sz) (hs0 : 0 < d.sz) (hb0 : 0 < bytes)
    {ok okp : Nat → Prop} (hfresh : ok W.heap.size) (h0 : 0 ≤ n) (hl : n.toNat * bytes ≤ 281474976710656) (HB : Below base w0 W) (hbase : base ≤ W.heap.size)
    (h : ∀ v1 w1, d.R e w1 base ok v1 [] → Below base w0 w1 → W.grownBy w1 none → (∃ b, v1.ownBlock = some b ∧ W.heap.size ≤ b) → wpList P ops Q rest (a.put o.dst v1) w1) : wpList P ops Q (o :: rest) a W := by
  obtain ⟨m, rfl⟩ := Int.eq_ofNat_of_zero_le h0
  simp only [Int.toNat_natCast] at hl h
  obtain ⟨i0, hi, hzz⟩ := Option.map_eq_some_iff.1 hinfo
  simp only [Prod.mk.injEq] at hzz
  obtain ⟨hz0, hz1, hz2⟩ := hzz
  have hm : m ≤ 281474976710656 := Nat.le_trans (Nat.le_mul_of_pos_right _ hb0) hl
  have hr := run_make (P := P) W t e i0 z ht hi hz0 .i64 .i64 (0 : Int) (m : Int) (by omega) (by omega)
    (by
      have h3 : ((i0.bytes * m : Nat) : Int) ≤ 281474976710656 := by rw [hz2, Nat.mul_comm]; omega
      rwa [Int.natCast_mul] at h3) (by omega)
  simp only [Int.toNat_natCast] at hr
  rw [hz1] at hr
  refine Kd.mq hgd (v := .slice (some ⟨W.heap.size, 0, none⟩) 0 m) (w1 := W.alloc (.cells (madeCells z.cells (m * d.sz)) e)) (by simp [execOp, ho, hx, hy, hr]) (h _ _ ⟨fun k hk => ?_, [], ?_, ?_⟩ (HB.alloc hbase _) (World.grownBy_alloc W _ none) ⟨W.heap.size, by simp [Value.ownBlock], Nat.le_refl _⟩)
  · have : W.heap.size = k := by simpa [Value.ownBlock] using hk
    subst this
    exact hfresh
  · have h2 := World.ownsRow_made (base := base) (e := e) (size := d.sz) W (madeCells z.cells (m * d.sz)) m hbase (by simp only [maxLen]; omega) (by simp [size_madeCells])
    simpa using h2
  · exact cu.none _ _
end
theorem nX (W : World) (T e : TypeId) : Lib.IsBuilder T e W.heap.size W.heap.size [] (W.alloc (.cells #[.pointer none, .slice none 0 0] T)) :=
  .inl ⟨Nat.le_refl _, .slice none 0 0, by simpa using heap_alloc_new W _, um _ _ _ _, by simp [Value.ownBlock]⟩
section
variable {P : Program} {ops : Array Oper} {Q : Exit → Act → World → Prop} {oi : Oper} {a : Act} {w : World} {f : FuncId} {fn : Func} {az : Array Operand} {ts : Array TypeId} {x : Operand}
theorem eG {rest : List Oper} {s : Tmp} (_ho : oi.op = .call { callee := .value (.tmp s), args := az, argTypes := ts }) (h : wpList P ops Q (oi :: rest) a w) : wpList P ops Q (oi :: rest) a w := h
theorem gW {rest : List Oper} (N : Option Tmp) (hd : oi.dst = N) (hg : oi.guard = none) (hf : P.funcs[f]? = some fn) (hname : (fn.name == "runtime.NumGoroutine") = false) (hb : fn.body.isSome = true) (args : Array Value)
    (hop : oi.op = .call { callee := .value x, args := az, argTypes := ts }) (hargs : az.map a.eval = args)
    (h : Calls P f args w fun e w' => ∃ v, e = .returned v ∧ wpList P ops Q rest (a.put N v) w') (hx : a.eval x = .func (.func f) #[] #[] := by first | rfl | (go_simp; rfl)) : wpList P ops Q (oi :: rest) a w := by
  refine wpList_plain hg fun K hK => ?_
  have he := qH hf hname hb args w
  have hrun : (execOp a.eval oi).run P w = .ok (.enter f args) w := by
    unfold execOp
    simp [hop, resolve, Deferred.ofValue, invoke, hargs, hx, he]
  unfold Oper.wp
  rw [hrun, Oper.upon_enter]
  refine h.mono ?_
  rintro e w' ⟨v, rfl, hk⟩
  subst hd
  exact hK _ _ hk
end
def GT (w : World) : Prop := Lib.TabIs Tryz.prog w "internal/strconv.uint64pow10" .u64 Lib.pow10Tab
theorem GT.below {w W : World} (h : ae (GT w)) (hb : Below w.heap.size w W) : ae (GT W) := by
  have h := h.out
  unfold GT Lib.TabIs World.var? at h
  have hg : Tryz.prog.globalNamed "internal/strconv.uint64pow10" = some 1 := by kernel_rfl
  rw [hg, Option.bind_some] at h
  refine ⟨?_⟩
  unfold GT Lib.TabIs World.var?
  rw [hg, Option.bind_some]
  cases hh : w.heap[1]? with
  | none => rw [hh] at h; cases h
  | some o =>
    rw [(hb.block 1 (Array.getElem?_eq_some_iff.1 hh).1).trans hh]
    rw [hh] at h
    exact h
theorem oZ {w w1 : World} (hb : Below w.heap.size w w1) : w.grownBy w1 none := ⟨hb.os, hb.tape, hb.output, hb.size, fun k hk _ => hb.block k hk⟩
theorem nR {T e : TypeId} {B b : Nat} {bs : List Value} {w w1 : World} (h : Lib.IsBuilderF T e B b bs w) (hb : Below w.heap.size w w1) : Lib.IsBuilderF T e B b bs w1 := by
  have g := oZ hb
  have hn : ∀ v : Value, v.ownBlock = none ∨ v.ownBlock ≠ none := fun v => by cases v.ownBlock <;> simp
  rcases h with ⟨hB, v, hc, ho, hne⟩ | ⟨hB, v, hc, ho, hne⟩
  · exact .inl ⟨hB, v, (hb.block b (ky hc)).trans hc, ho.kept g (hn v), hne⟩
  · exact .inr ⟨hB, v, (hb.block b (ky hc)).trans hc, ho.kept g (hn v), hne⟩
theorem mF {T e : TypeId} {B b : Nat} {bs : List Value} {w : World} (h : Lib.IsBuilderF T e B b bs w) : ∃ cs, w.heap[b]? = some (.cells cs T (0, 0)) := by
  rcases h with ⟨_, v, hc, _⟩ | ⟨_, v, hc, _⟩ <;> exact ⟨_, hc⟩
theorem vZ {α : Type} {d : Kd α} {e base b : Nat} {ok : Nat → Prop} {w w1 : World} {v : Value} {xs : List α} {te T : TypeId} {cs : Array Value} (h : d.R e w base ok v xs) (hk : Lib.OthersKept te (some b) w w1) (hb : w.heap[b]? = some (.cells cs T (0, 0)))
    (hE : ∀ q, q ∈ e :: d.E → q ≠ te ∧ q ≠ T) : d.R e w1 base ok v xs :=
  Kd.gu (Kd.oM (Kd.iR h) (fun k hk' _ => by
    obtain ⟨_, _, _, q, hq, cells, hc⟩ := hk'
    have hne := hE q hq
    rw [hc]
    refine hk k _ hc (fun e_ => ?_) (fun c fz e_ => ?_)
    · injection e_ with e_
      subst e_
      rw [hc] at hb
      injection hb with hb
      injection hb with _ hb
      exact hne.2 hb
    · injection e_ with _ e_
      exact hne.1 e_)) (fun _ h => h.1)
def TY (W : World) (k : Nat) : Prop := ∃ cells t, W.heap[k]? = some (.cells cells t (0, 0)) ∧ t ≠ 5 ∧ t ≠ 100
def KEEP (W w : World) : Prop := ∀ k, TY W k → w.heap[k]? = W.heap[k]?
theorem KEEP.refl (W : World) : KEEP W W := fun _ _ => rfl
theorem KEEP.others {W w w1 : World} {b : Nat} {cs : Array Value} (h : KEEP W w) (hk : Lib.OthersKept 5 (some b) w w1) (hb : w.heap[b]? = some (.cells cs 100 (0, 0))) : KEEP W w1 := by
  intro k hk'
  have h1 := h k hk'
  obtain ⟨cells, t, hc, n1, n2⟩ := hk'
  rw [hc] at h1 ⊢
  refine hk k _ h1 (fun e_ => ?_) (fun c fz e_ => ?_)
  · injection e_ with e_
    subst e_
    rw [h1] at hb
    injection hb with hb
    injection hb with _ hb
    exact n2 hb
  · injection e_ with _ e_
    exact n1 e_
theorem xV {α : Type} {d : Kd α} {e base : Nat} {ok : Nat → Prop} {w : World} {v : Value} {xs : List α} (h : Kd.N d e w base ok v xs) : ∀ k, v.ownBlock = some k → ∃ cells, w.heap[k]? = some (.cells cells e (0, 0)) := by
  obtain ⟨_, rows, _, hR, _⟩ := h
  intro k hk
  obtain ⟨h0, _⟩ := Kd.iR hR
  obtain ⟨_, _, _, q, hq, cells, hc⟩ := h0 k hk
  have : q = e := by simpa [Kd.raw] using hq
  subst this
  exact ⟨cells, hc⟩
section
variable {P : Program} {ops : Array Oper} {rest : List Oper} {o : Oper} {a : Act} {Q : Exit → Act → World → Prop}
theorem qg {W : World} (hgd : o.guard = none) {N : Tmp} (_hd : o.dst = some N) {T e : TypeId}
    (hrun : (execOp a.eval o).run P W = .ok (.value (.pointer (some ⟨W.heap.size, 0, none⟩))) (W.alloc (.cells #[.pointer none, .slice none 0 0] T (0, 0))))
    (h : ∀ g, g = W.heap.size → ∀ w1, Lib.IsBuilderF T e g g [] w1 → Below W.heap.size W w1 → wpList P ops Q rest (a.put o.dst (.pointer (some ⟨g, 0, none⟩))) w1) : wpList P ops Q (o :: rest) a W :=
  Kd.mq hgd hrun (h _ rfl _ ((nX W T e).imp Lib.BuilderAtF.of Lib.BuilderAtF.of) (au (Below.refl _ _) _))
end
theorem qx {E : List Nat} {base k : Nat} {p : Prop} {W : World} (h : p ∧ base ≤ k ∧ k < W.heap.size ∧ ∃ q, q ∈ E ∧ ∃ cells, W.heap[k]? = some (.cells cells q (0, 0))) (hE : ∀ q, q ∈ E → q ≠ 5 ∧ q ≠ 100) : TY W k := by
  obtain ⟨_, _, _, q, hq, cells, hc⟩ := h
  exact ⟨cells, q, hc, (hE q hq).1, (hE q hq).2⟩
theorem rO {α : Type} {d : Kd α} {e base : Nat} {W w1 : World} {v : Value} {xs : List α} (h : Kd.N d e w1 base (fun k => TY W k ∨ k = W.heap.size) v xs) (hb : Below W.heap.size W w1) (hn : ∃ b, v.ownBlock = some b ∧ W.heap.size ≤ b)
    (he : e ≠ 5 ∧ e ≠ 100) : Kd.N d e w1 base (TY w1) v xs := by
  obtain ⟨b, hv, hle⟩ := hn
  have hb0 := h.1 b hv
  obtain ⟨cells, hc⟩ := xV h b hv
  have hbs : b = W.heap.size := by
    rcases hb0 with ⟨_, _, h1, _⟩ | h1
    · have := ky h1; omega
    · exact h1
  refine Kd.zf h fun k hk => ?_
  rcases hk with ⟨cs, t, h1, h2⟩ | rfl
  · exact ⟨cs, t, ji h1 hb, h2⟩
  · rw [hbs] at hc
    exact ⟨cells, e, hc, he.1, he.2⟩
theorem zh {α : Type} {d : Kd α} {e e2 base n c : Nat} {A : Option Addr} {W : World} {xs : List (List α)} (h : Kd.N (Kd.slice e d) e2 W base (TY W) (.slice A n c) xs) {i : Nat} {x : List α} (hi : xs[i]? = some x) :
    ∃ ad A' c', A = some ad ∧ x.length ≤ c' ∧ ∀ w, KEEP W w → w.cell? (ad.add i) = some (.slice A' x.length c') ∧ d.C w A' x.length x := by
  obtain ⟨h0, rows, hl, hR, hf⟩ := h
  have hlt : i < xs.length := (List.getElem?_eq_some_iff.1 hi).1
  obtain ⟨cs, hcs⟩ : ∃ cs, rows[i]? = some cs := ⟨rows[i]'(by omega), List.getElem?_eq_getElem (by omega)⟩
  have hF := hf i x cs hi hcs
  obtain ⟨A', c', rfl, hle, hC⟩ := Kd.sQ hF
  have hlen : 0 < rows.length := by omega
  obtain ⟨ad, hA, _⟩ := (Kd.aV hR).2.2.2.2 hlen
  refine ⟨ad, A', c', hA, hle, fun w hw => ?_⟩
  have hR' := Kd.oM (w1 := w) hR (fun k hk _ => hw k (h0 k hk.symm))
  have hC' := (Kd.aV hR').2.2
  obtain ⟨ad2, hA2, hcell⟩ := hC'.2.2 hlen
  have : ad2 = ad := Option.some.inj (hA2.symm.trans hA)
  subst this
  obtain ⟨c2, h1, h2, h3⟩ := hcell i _ hcs
  obtain ⟨rfl, _⟩ : c2 = _ ∧ _ := h2
  refine ⟨by simpa [Kd.raw, Kd.slice] using h3 0 _ rfl, ?_⟩
  obtain ⟨A2, c3, he, _, hC2⟩ := hF w (fun k hk _ => hw k hk.1)
  injection he with he _
  injection he with he
  subst he
  exact hC2
end Go.Proofs.YteidaijpaijgpaaGreatDoorV
end
section
namespace Go.Proofs.YteidaijpaijgpaaGreatDoor.pg
open Go.RowKit Go.Lib Go.Proofs.YteidaijpaijgpaaGreatDoorW.ay
def cellsOf (d : DataW Unit) : Array Value := match d with
  | .agg l => (l.flatMap fun x => match x with
    | .lit (.int k n) => [Value.int k n]
    | .agg l2 => l2.flatMap fun y => match y with
      | .lit (.int k n) => [Value.int k n]
      | _ => []
    | _ => []).toArray
  | _ => #[]
def put (h : Array Obj) (g : Nat) (cs : Array Value) : Array Obj := h.modify g fun
    | .cells _ t frozen => .cells cs t frozen
    | o => o
noncomputable def world (os : Os) : World :=
  let w0 := World.holding Tryz.prog os ⟨#[], #[], []⟩
  let h1 := put w0.heap 2 (cellsOf Rows.laid_math_bits_deBruijn32tab)
  let h2 := put h1 3 (cellsOf Rows.laid_math_bits_deBruijn64tab)
  let h3 := put h2 1 (cellsOf Rows.laid_internal_strconv_uint64pow10)
  let h4 := put h3 5 (cellsOf Rows.laid_unicode_utf8_acceptRanges)
  let h5 := put h4 4 (cellsOf Rows.laid_unicode_utf8_first)
  { w0 with heap := h5 }
abbrev l5 : List (String × DataW Unit) := [("math/bits.deBruijn32tab", Rows.laid_math_bits_deBruijn32tab), ("math/bits.deBruijn64tab", Rows.laid_math_bits_deBruijn64tab), ("internal/strconv.uint64pow10", Rows.laid_internal_strconv_uint64pow10), ("unicode/utf8.acceptRanges", Rows.laid_unicode_utf8_acceptRanges), ("unicode/utf8.first", Rows.laid_unicode_utf8_first)]
theorem BK (os : Os) (args : Array Value) : laidMetH Tryz.prog l5 ((world os).forCall (fun _ _ => 0) ⟨#[], args, []⟩).memory :=
  laidMetH_of_parts3 (fuel := 8) (laidMet_of_run' 8 (by kernel_rfl) (by kernel_rfl)) (by kernel_rfl) (by kernel_rfl)
theorem zi : (Rows.laid_internal_strconv_uint64pow10 : DataW Unit) = tabData .u64 pow10Tab := by kernel_rfl
theorem gt5 {W : World} (h : laidMetH Tryz.prog l5 W) : ae (Go.Proofs.YteidaijpaijgpaaGreatDoorV.GT W) := by
  rw [MakeChecks.laidMetH_plain _ _ _ (by kernel_rfl)] at h
  have h := h.tail.tail
  rw [zi] at h
  exact ⟨tabIs_of_head (g := 1) (t := 193) (e := 96) (n := 20) (by kernel_rfl) (by kernel_rfl) (by kernel_rfl) (by kernel_rfl) (by kernel_rfl) (by kernel_rfl) h⟩
end Go.Proofs.YteidaijpaijgpaaGreatDoor.pg
end
section
namespace Go.Proofs.YteidaijpaijgpaaGreatDoorW.ay
theorem cu.one {α : Type} {R : α → List Value → Prop} {ps : List α} {cs : List Value} {p : α} {v : Value} (hp : R p [v]) (h : cu R 1 ps cs) : cu R 1 (p :: ps) (v :: cs) := by
  refine ⟨by simp [h.1], fun j q hq => ?_⟩
  cases j with
  | zero =>
    simp only [List.getElem?_cons_zero, Option.some.injEq] at hq
    subst hq
    simpa using hp
  | succ j =>
    simp only [List.getElem?_cons_succ] at hq
    have h1 := h.2 j q hq
    simpa [Nat.mul_one] using h1
theorem cu.front {α : Type} {R : α → List Value → Prop} {size : Nat} {ps : List α} {cs c all : List Value} {p : α} (hp : R p c) (hc : c.length = size) (h : cu R size ps cs) (ha : c ++ cs = all) : cu R size (p :: ps) all := by
  subst ha
  refine ⟨by rw [List.length_append, hc, h.1, List.length_cons, Nat.succ_mul, Nat.add_comm], fun j q hq => ?_⟩
  cases j with
  | zero =>
    simp only [List.getElem?_cons_zero, Option.some.injEq] at hq
    subst hq
    rw [Nat.zero_mul, List.drop_zero, List.take_append_of_le_length (by omega), List.take_of_length_le (by omega)]
    exact hp
  | succ j =>
    simp only [List.getElem?_cons_succ] at hq
    have h1 := h.2 j q hq
    rw [Nat.succ_mul, List.drop_append, List.drop_of_length_le (by rw [hc]; exact Nat.le_add_left _ _), List.nil_append, hc, Nat.add_sub_cancel]
    exact h1
theorem cu.c2 {α : Type} {R : α → List Value → Prop} {ps : List α} {cs : List Value} {p : α} {va vb : Value} (hp : R p [va, vb]) (h : cu R 2 ps cs) : cu R 2 (p :: ps) (va :: vb :: cs) := cu.front hp rfl h rfl
theorem cu.c3 {α : Type} {R : α → List Value → Prop} {ps : List α} {cs : List Value} {p : α} {va vb vc : Value} (hp : R p [va, vb, vc]) (h : cu R 3 ps cs) : cu R 3 (p :: ps) (va :: vb :: vc :: cs) := cu.front hp rfl h rfl
theorem cu.c4 {α : Type} {R : α → List Value → Prop} {ps : List α} {cs : List Value} {p : α} {va vb vc vd : Value} (hp : R p [va, vb, vc, vd]) (h : cu R 4 ps cs) : cu R 4 (p :: ps) (va :: vb :: vc :: vd :: cs) := cu.front hp rfl h rfl
theorem cu.c5 {α : Type} {R : α → List Value → Prop} {ps : List α} {cs : List Value} {p : α} {va vb vc vd ve : Value} (hp : R p [va, vb, vc, vd, ve]) (h : cu R 5 ps cs) : cu R 5 (p :: ps) (va :: vb :: vc :: vd :: ve :: cs) := cu.front hp rfl h rfl
theorem cu.c6 {α : Type} {R : α → List Value → Prop} {ps : List α} {cs : List Value} {p : α} {va vb vc vd ve vf : Value} (hp : R p [va, vb, vc, vd, ve, vf]) (h : cu R 6 ps cs) : cu R 6 (p :: ps) (va :: vb :: vc :: vd :: ve :: vf :: cs) := cu.front hp rfl h rfl
theorem cu.c7 {α : Type} {R : α → List Value → Prop} {ps : List α} {cs : List Value} {p : α} {va vb vc vd ve vf vg : Value} (hp : R p [va, vb, vc, vd, ve, vf, vg]) (h : cu R 7 ps cs) : cu R 7 (p :: ps) (va :: vb :: vc :: vd :: ve :: vf :: vg :: cs) := cu.front hp rfl h rfl
theorem cu.c8 {α : Type} {R : α → List Value → Prop} {ps : List α} {cs : List Value} {p : α} {va vb vc vd ve vf vg vh : Value} (hp : R p [va, vb, vc, vd, ve, vf, vg, vh]) (h : cu R 8 ps cs) : cu R 8 (p :: ps) (va :: vb :: vc :: vd :: ve :: vf :: vg :: vh :: cs) := cu.front hp rfl h rfl
theorem cu.c9 {α : Type} {R : α → List Value → Prop} {ps : List α} {cs : List Value} {p : α} {va vb vc vd ve vf vg vh vi : Value} (hp : R p [va, vb, vc, vd, ve, vf, vg, vh, vi]) (h : cu R 9 ps cs) : cu R 9 (p :: ps) (va :: vb :: vc :: vd :: ve :: vf :: vg :: vh :: vi :: cs) := cu.front hp rfl h rfl
theorem cu.c10 {α : Type} {R : α → List Value → Prop} {ps : List α} {cs : List Value} {p : α} {va vb vc vd ve vf vg vh vi vj : Value} (hp : R p [va, vb, vc, vd, ve, vf, vg, vh, vi, vj]) (h : cu R 10 ps cs) : cu R 10 (p :: ps) (va :: vb :: vc :: vd :: ve :: vf :: vg :: vh :: vi :: vj :: cs) := cu.front hp rfl h rfl
end Go.Proofs.YteidaijpaijgpaaGreatDoorW.ay
end
section
namespace Go.Proofs.YteidaijpaijgpaaGreatDoorW.ay
open Go.RowKit
section
variable {P : Program} {ops : Array Oper} {rest : List Oper} {o : Oper} {a : Act} {Q : Exit → Act → World → Prop} {W : World}
theorem eY (hw : Region.wanted o (yielded ops a.tmps) = true) (h : wpList P ops Q ({ o with guard := none } :: rest) a W) : wpList P ops Q (o :: rest) a W := by
  have h1 : Region.wanted { o with guard := none } (yielded ops a.tmps) = true := rfl
  unfold wpList at h ⊢
  rw [if_pos h1] at h
  rw [if_pos hw]
  exact h
end
end Go.Proofs.YteidaijpaijgpaaGreatDoorW.ay
end
section
namespace Go.Proofs.YteidaijpaijgpaaGreatDoor.P
open Go.RowKit Go.Proofs.YteidaijpaijgpaaGreatDoorW.ay Go.Proofs.YteidaijpaijgpaaGreatDoorW.aQ Go.Proofs.YteidaijpaijgpaaGreatDoorW.aZ
attribute [local go_sem] bz bA bP bQ bq bu bB bC
set_option linter.unusedVariables false
set_option linter.unusedSimpArgs false
theorem info5 : (Tryz.prog.info? 5).map (fun i => (i.zero, i.size, i.bytes)) = some (some (.int .u8 0), 1, 1) := by kernel_rfl
theorem nC : (Tryz.prog.info? 9).map (fun i => (i.zero, i.size, i.bytes)) = some (some (.string ⟨#[]⟩), 1, 16) := by kernel_rfl
theorem lZ : (Tryz.prog.info? 45).map (fun i => (i.zero, i.size, i.bytes)) = some (some (.agg #[(.int .i64 0), (.string ⟨#[]⟩), (.string ⟨#[]⟩), (.string ⟨#[]⟩), (.int .u32 0), (.int .u32 0), (.int .i64 0), (.int .i64 0)]), 8, 88) := by kernel_rfl
theorem wh : (Tryz.prog.info? 62).map (fun i => (i.zero, i.size, i.bytes)) = some (some (.agg #[(.string ⟨#[]⟩), (.slice none 0 0), (.slice none 0 0), (.slice none 0 0)]), 4, 88) := by kernel_rfl
theorem pq : (Tryz.prog.info? 96).map (fun i => (i.zero, i.size, i.bytes)) = some (some (.int .u64 0), 1, 8) := by kernel_rfl
structure S55 where
 f0 : ByteArray
 f1 : Int
def z55 : S55 := ⟨(⟨#[]⟩ : ByteArray), (0 : Int)⟩
def k55 : Kd S55 := Kd.iso (Kd.pair Kd.string (Kd.int .i64)) (fun x : S55 => (x.f0, x.f1))
theorem wm {w : World} {x : S55} {cs : List Value} (h : k55.K w x cs) : cs = [.string x.f0, .int .i64 x.f1] := by
 obtain ⟨_, _, rfl, rfl, rfl⟩ := h
 exact rfl
def iq (xs : List S55) (i : Int) : S55 := xs.getD i.toNat z55
theorem sZ {w : World} {A : Option Addr} {n : Nat} {xs : List S55} (h : Kd.C k55 w A n xs) (i : Int) (h0 : 0 ≤ i) (h1 : i < n) : ∃ ad , A = some ad ∧ w.cell? (ad.add (i.toNat * 2)) = some (.string (iq xs i).f0) ∧ w.cell? ⟨(ad.add (i.toNat * 2)).block, (ad.add (i.toNat * 2)).off + 1, none⟩ = some (.int .i64 (iq xs i).f1) := by
 obtain ⟨ad, c, e, _, hK, hc0⟩ := Kd.nV h z55 i h0 h1
 have hc : ∀ j u, c[j]? = some u → w.cell? (ad.add (i.toNat * 2 + j)) = some u := hc0
 obtain rfl := wm hK
 exact ⟨ad, e, hc 0 _ rfl, by rw [← fK _ _ 1 (by omega)]; exact hc 1 _ rfl⟩
def lM (xs : List (List S55)) (i : Int) : (List S55) := xs.getD i.toNat ([] : List S55)
theorem wu {w : World} {A : Option Addr} {n : Nat} {xs : List (List S55)} (h : Kd.C (Kd.slice 55 k55) w A n xs) (i : Int) (h0 : 0 ≤ i) (h1 : i < n) : ∃ ad A0 c0, A = some ad ∧ w.cell? (ad.add i.toNat) = some (.slice A0 (lM xs i).length c0) ∧ (lM xs i).length ≤ c0 ∧ k55.C w A0 (lM xs i).length (lM xs i) := by
 obtain ⟨ad, c, e, _, hK, hc0⟩ := Kd.nV h ([] : List S55) i h0 h1
 have hc : ∀ j u, c[j]? = some u → w.cell? (ad.add (i.toNat * 1 + j)) = some u := hc0
 obtain ⟨A0, c0, rfl, l0, g0⟩ := hK
 exact ⟨ad, A0, c0, e, by have hq := hc 0 _ rfl; rwa [Nat.mul_one, Nat.add_zero] at hq, l0, g0⟩
structure S25 where
 f0 : Int
 f1 : Int
def z25 : S25 := ⟨(0 : Int), (0 : Int)⟩
def k25 : Kd S25 := Kd.iso (Kd.pair (Kd.int .u32) (Kd.int .i64)) (fun x : S25 => (x.f0, x.f1))
theorem nD {w : World} {x : S25} {cs : List Value} (h : k25.K w x cs) : cs = [.int .u32 x.f0, .int .i64 x.f1] := by
 obtain ⟨_, _, rfl, rfl, rfl⟩ := h
 exact rfl
theorem ww (w : World) (x : S25)  : k25.K w x [.int .u32 x.f0, .int .i64 x.f1] := ⟨[.int .u32 x.f0], [.int .i64 x.f1], rfl, rfl, rfl⟩
theorem xW (w : World) (base : Nat) (ok : Nat → Prop) (x : S25)  : k25.M w base ok x [.int .u32 x.f0, .int .i64 x.f1] := ⟨[.int .u32 x.f0], [.int .i64 x.f1], rfl, rfl, rfl⟩
def jB (xs : List S25) (i : Int) : S25 := xs.getD i.toNat z25
theorem zk {w : World} {A : Option Addr} {n : Nat} {xs : List S25} (h : Kd.C k25 w A n xs) (i : Int) (h0 : 0 ≤ i) (h1 : i < n) : ∃ ad , A = some ad ∧ w.cell? (ad.add (i.toNat * 2)) = some (.int .u32 (jB xs i).f0) ∧ w.cell? ⟨(ad.add (i.toNat * 2)).block, (ad.add (i.toNat * 2)).off + 1, none⟩ = some (.int .i64 (jB xs i).f1) := by
 obtain ⟨ad, c, e, _, hK, hc0⟩ := Kd.nV h z25 i h0 h1
 have hc : ∀ j u, c[j]? = some u → w.cell? (ad.add (i.toNat * 2 + j)) = some u := hc0
 obtain rfl := nD hK
 exact ⟨ad, e, hc 0 _ rfl, by rw [← fK _ _ 1 (by omega)]; exact hc 1 _ rfl⟩
structure S66 where
 f0 : ByteArray
 f1 : (List S25)
def z66 : S66 := ⟨(⟨#[]⟩ : ByteArray), ([] : List S25)⟩
def k66 : Kd S66 := Kd.iso (Kd.pair Kd.string (Kd.slice 25 k25)) (fun x : S66 => (x.f0, x.f1))
theorem wy {w : World} {x : S66} {cs : List Value} (h : k66.K w x cs) : ∃ A1 c1, cs = [.string x.f0, .slice A1 x.f1.length c1] ∧ x.f1.length ≤ c1 ∧ k25.C w A1 x.f1.length x.f1 := by
 obtain ⟨_, _, rfl, rfl, ⟨A1, c1, rfl, l1, g1⟩⟩ := h
 exact ⟨A1, c1, rfl, l1, g1⟩
def gU (xs : List S66) (i : Int) : S66 := xs.getD i.toNat z66
theorem tq {w : World} {A : Option Addr} {n : Nat} {xs : List S66} (h : Kd.C k66 w A n xs) (i : Int) (h0 : 0 ≤ i) (h1 : i < n) : ∃ ad A1 c1, A = some ad ∧ w.cell? (ad.add (i.toNat * 2)) = some (.string (gU xs i).f0) ∧ w.cell? ⟨(ad.add (i.toNat * 2)).block, (ad.add (i.toNat * 2)).off + 1, none⟩ = some (.slice A1 (gU xs i).f1.length c1) ∧ (gU xs i).f1.length ≤ c1 ∧ k25.C w A1 (gU xs i).f1.length (gU xs i).f1 := by
 obtain ⟨ad, c, e, _, hK, hc0⟩ := Kd.nV h z66 i h0 h1
 have hc : ∀ j u, c[j]? = some u → w.cell? (ad.add (i.toNat * 2 + j)) = some u := hc0
 obtain ⟨A1, c1, rfl, l1, g1⟩ := wy hK
 exact ⟨ad, A1, c1, e, hc 0 _ rfl, by rw [← fK _ _ 1 (by omega)]; exact hc 1 _ rfl, l1, g1⟩
structure S70 where
 f0 : Bool
 f1 : (List Int)
def z70 : S70 := ⟨false, ([] : List Int)⟩
def k70 : Kd S70 := Kd.iso (Kd.pair Kd.bool (Kd.slice 96 (Kd.int .u64))) (fun x : S70 => (x.f0, x.f1))
theorem wz {w : World} {x : S70} {cs : List Value} (h : k70.K w x cs) : ∃ A1 c1, cs = [.bool x.f0, .slice A1 x.f1.length c1] ∧ x.f1.length ≤ c1 ∧ (Kd.int .u64).C w A1 x.f1.length x.f1 := by
 obtain ⟨_, _, rfl, rfl, ⟨A1, c1, rfl, l1, g1⟩⟩ := h
 exact ⟨A1, c1, rfl, l1, g1⟩
structure S72 where
 f0 : S70
 f1 : (List Int)
def z72 : S72 := ⟨z70, ([] : List Int)⟩
def k72 : Kd S72 := Kd.iso (Kd.pair k70 (Kd.slice 96 (Kd.int .u64))) (fun x : S72 => (x.f0, x.f1))
theorem wC {w : World} {x : S72} {cs : List Value} (h : k72.K w x cs) : ∃ A1 c1 A2 c2, cs = [.bool x.f0.f0, .slice A1 x.f0.f1.length c1, .slice A2 x.f1.length c2] ∧ x.f0.f1.length ≤ c1 ∧ (Kd.int .u64).C w A1 x.f0.f1.length x.f0.f1 ∧ x.f1.length ≤ c2 ∧ (Kd.int .u64).C w A2 x.f1.length x.f1 := by
 obtain ⟨_, _, rfl, s0, ⟨A2, c2, rfl, l2, g2⟩⟩ := h
 obtain ⟨A1, c1, rfl, l1, g1⟩ := wz s0
 exact ⟨A1, c1, A2, c2, rfl, l1, g1, l2, g2⟩
structure S74 where
 f0 : ByteArray
 f1 : ByteArray
 f2 : ByteArray
 f3 : S72
def z74 : S74 := ⟨(⟨#[]⟩ : ByteArray), (⟨#[]⟩ : ByteArray), (⟨#[]⟩ : ByteArray), z72⟩
def k74 : Kd S74 := Kd.iso (Kd.pair Kd.string (Kd.pair Kd.string (Kd.pair Kd.string k72))) (fun x : S74 => (x.f0, x.f1, x.f2, x.f3))
theorem wD {w : World} {x : S74} {cs : List Value} (h : k74.K w x cs) : ∃ A4 c4 A5 c5, cs = [.string x.f0, .string x.f1, .string x.f2, .bool x.f3.f0.f0, .slice A4 x.f3.f0.f1.length c4, .slice A5 x.f3.f1.length c5] ∧ x.f3.f0.f1.length ≤ c4 ∧ (Kd.int .u64).C w A4 x.f3.f0.f1.length x.f3.f0.f1 ∧ x.f3.f1.length ≤ c5 ∧ (Kd.int .u64).C w A5 x.f3.f1.length x.f3.f1 := by
 obtain ⟨_, _, rfl, rfl, ⟨_, _, rfl, rfl, ⟨_, _, rfl, rfl, s3⟩⟩⟩ := h
 obtain ⟨A4, c4, A5, c5, rfl, l4, g4, l5, g5⟩ := wC s3
 exact ⟨A4, c4, A5, c5, rfl, l4, g4, l5, g5⟩
def bS (xs : List S74) (i : Int) : S74 := xs.getD i.toNat z74
theorem tu {w : World} {A : Option Addr} {n : Nat} {xs : List S74} (h : Kd.C k74 w A n xs) (i : Int) (h0 : 0 ≤ i) (h1 : i < n) : ∃ ad A4 c4 A5 c5, A = some ad ∧ w.cell? (ad.add (i.toNat * 6)) = some (.string (bS xs i).f0) ∧ w.cell? ⟨(ad.add (i.toNat * 6)).block, (ad.add (i.toNat * 6)).off + 1, none⟩ = some (.string (bS xs i).f1) ∧ w.cell? ⟨(ad.add (i.toNat * 6)).block, (ad.add (i.toNat * 6)).off + 2, none⟩ = some (.string (bS xs i).f2) ∧ w.cell? ⟨(ad.add (i.toNat * 6)).block, (ad.add (i.toNat * 6)).off + 3, none⟩ = some (.bool (bS xs i).f3.f0.f0) ∧ w.cell? ⟨(ad.add (i.toNat * 6)).block, (ad.add (i.toNat * 6)).off + 4, none⟩ = some (.slice A4 (bS xs i).f3.f0.f1.length c4) ∧ w.cell? ⟨(ad.add (i.toNat * 6)).block, (ad.add (i.toNat * 6)).off + 5, none⟩ = some (.slice A5 (bS xs i).f3.f1.length c5) ∧ (bS xs i).f3.f0.f1.length ≤ c4 ∧ (Kd.int .u64).C w A4 (bS xs i).f3.f0.f1.length (bS xs i).f3.f0.f1 ∧ (bS xs i).f3.f1.length ≤ c5 ∧ (Kd.int .u64).C w A5 (bS xs i).f3.f1.length (bS xs i).f3.f1 := by
 obtain ⟨ad, c, e, _, hK, hc0⟩ := Kd.nV h z74 i h0 h1
 have hc : ∀ j u, c[j]? = some u → w.cell? (ad.add (i.toNat * 6 + j)) = some u := hc0
 obtain ⟨A4, c4, A5, c5, rfl, l4, g4, l5, g5⟩ := wD hK
 exact ⟨ad, A4, c4, A5, c5, e, hc 0 _ rfl, by rw [← fK _ _ 1 (by omega)]; exact hc 1 _ rfl, by rw [← fK _ _ 2 (by omega)]; exact hc 2 _ rfl, by rw [← fK _ _ 3 (by omega)]; exact hc 3 _ rfl, by rw [← fK _ _ 4 (by omega)]; exact hc 4 _ rfl, by rw [← fK _ _ 5 (by omega)]; exact hc 5 _ rfl, l4, g4, l5, g5⟩
structure S28 where
 f0 : ByteArray
 f1 : S25
 f2 : Bool
 f3 : (List (List S55))
def z28 : S28 := ⟨(⟨#[]⟩ : ByteArray), z25, false, ([] : List (List S55))⟩
def k28 : Kd S28 := Kd.iso (Kd.pair Kd.string (Kd.pair k25 (Kd.pair Kd.bool (Kd.slice 53 (Kd.slice 55 k55))))) (fun x : S28 => (x.f0, x.f1, x.f2, x.f3))
theorem wE {w : World} {x : S28} {cs : List Value} (h : k28.K w x cs) : ∃ A4 c4, cs = [.string x.f0, .int .u32 x.f1.f0, .int .i64 x.f1.f1, .bool x.f2, .slice A4 x.f3.length c4] ∧ x.f3.length ≤ c4 ∧ (Kd.slice 55 k55).C w A4 x.f3.length x.f3 := by
 obtain ⟨_, _, rfl, rfl, ⟨_, _, rfl, s1, ⟨_, _, rfl, rfl, ⟨A4, c4, rfl, l4, g4⟩⟩⟩⟩ := h
 obtain rfl := nD s1
 exact ⟨A4, c4, rfl, l4, g4⟩
def dB (xs : List S28) (i : Int) : S28 := xs.getD i.toNat z28
theorem tC {w : World} {A : Option Addr} {n : Nat} {xs : List S28} (h : Kd.C k28 w A n xs) (i : Int) (h0 : 0 ≤ i) (h1 : i < n) : ∃ ad A4 c4, A = some ad ∧ w.cell? (ad.add (i.toNat * 5)) = some (.string (dB xs i).f0) ∧ w.cell? ⟨(ad.add (i.toNat * 5)).block, (ad.add (i.toNat * 5)).off + 1, none⟩ = some (.int .u32 (dB xs i).f1.f0) ∧ w.cell? ⟨(ad.add (i.toNat * 5)).block, (ad.add (i.toNat * 5)).off + 2, none⟩ = some (.int .i64 (dB xs i).f1.f1) ∧ w.cell? ⟨(ad.add (i.toNat * 5)).block, (ad.add (i.toNat * 5)).off + 3, none⟩ = some (.bool (dB xs i).f2) ∧ w.cell? ⟨(ad.add (i.toNat * 5)).block, (ad.add (i.toNat * 5)).off + 4, none⟩ = some (.slice A4 (dB xs i).f3.length c4) ∧ (dB xs i).f3.length ≤ c4 ∧ (Kd.slice 55 k55).C w A4 (dB xs i).f3.length (dB xs i).f3 := by
 obtain ⟨ad, c, e, _, hK, hc0⟩ := Kd.nV h z28 i h0 h1
 have hc : ∀ j u, c[j]? = some u → w.cell? (ad.add (i.toNat * 5 + j)) = some u := hc0
 obtain ⟨A4, c4, rfl, l4, g4⟩ := wE hK
 exact ⟨ad, A4, c4, e, hc 0 _ rfl, by rw [← fK _ _ 1 (by omega)]; exact hc 1 _ rfl, by rw [← fK _ _ 2 (by omega)]; exact hc 2 _ rfl, by rw [← fK _ _ 3 (by omega)]; exact hc 3 _ rfl, by rw [← fK _ _ 4 (by omega)]; exact hc 4 _ rfl, l4, g4⟩
structure S62 where
 f0 : ByteArray
 f1 : (List S66)
 f2 : (List S74)
 f3 : (List S28)
def z62 : S62 := ⟨(⟨#[]⟩ : ByteArray), ([] : List S66), ([] : List S74), ([] : List S28)⟩
def k62 : Kd S62 := Kd.iso (Kd.pair Kd.string (Kd.pair (Kd.slice 66 k66) (Kd.pair (Kd.slice 74 k74) (Kd.slice 28 k28)))) (fun x : S62 => (x.f0, x.f1, x.f2, x.f3))
theorem wF {w : World} {x : S62} {cs : List Value} (h : k62.K w x cs) : ∃ A1 c1 A2 c2 A3 c3, cs = [.string x.f0, .slice A1 x.f1.length c1, .slice A2 x.f2.length c2, .slice A3 x.f3.length c3] ∧ x.f1.length ≤ c1 ∧ k66.C w A1 x.f1.length x.f1 ∧ x.f2.length ≤ c2 ∧ k74.C w A2 x.f2.length x.f2 ∧ x.f3.length ≤ c3 ∧ k28.C w A3 x.f3.length x.f3 := by
 obtain ⟨_, _, rfl, rfl, ⟨_, _, rfl, ⟨A1, c1, rfl, l1, g1⟩, ⟨_, _, rfl, ⟨A2, c2, rfl, l2, g2⟩, ⟨A3, c3, rfl, l3, g3⟩⟩⟩⟩ := h
 exact ⟨A1, c1, A2, c2, A3, c3, rfl, l1, g1, l2, g2, l3, g3⟩
theorem jc (w : World) (base : Nat) (ok : Nat → Prop) (x : S62) {v1 : Value} (g1 : k66.R 66 w base ok v1 x.f1) {v2 : Value} (g2 : k74.R 74 w base ok v2 x.f2) {v3 : Value} (g3 : k28.R 28 w base ok v3 x.f3) : k62.M w base ok x [.string x.f0, v1, v2, v3] := ⟨[.string x.f0], [v1, v2, v3], rfl, rfl, ⟨[v1], [v2, v3], rfl, ⟨v1, rfl, g1⟩, ⟨[v2], [v3], rfl, ⟨v2, rfl, g2⟩, ⟨v3, rfl, g3⟩⟩⟩⟩
def dS (xs : List S62) (i : Int) : S62 := xs.getD i.toNat z62
theorem tF {w : World} {A : Option Addr} {n : Nat} {xs : List S62} (h : Kd.C k62 w A n xs) (i : Int) (h0 : 0 ≤ i) (h1 : i < n) : ∃ ad A1 c1 A2 c2 A3 c3, A = some ad ∧ w.cell? (ad.add (i.toNat * 4)) = some (.string (dS xs i).f0) ∧ w.cell? ⟨(ad.add (i.toNat * 4)).block, (ad.add (i.toNat * 4)).off + 1, none⟩ = some (.slice A1 (dS xs i).f1.length c1) ∧ w.cell? ⟨(ad.add (i.toNat * 4)).block, (ad.add (i.toNat * 4)).off + 2, none⟩ = some (.slice A2 (dS xs i).f2.length c2) ∧ w.cell? ⟨(ad.add (i.toNat * 4)).block, (ad.add (i.toNat * 4)).off + 3, none⟩ = some (.slice A3 (dS xs i).f3.length c3) ∧ (dS xs i).f1.length ≤ c1 ∧ k66.C w A1 (dS xs i).f1.length (dS xs i).f1 ∧ (dS xs i).f2.length ≤ c2 ∧ k74.C w A2 (dS xs i).f2.length (dS xs i).f2 ∧ (dS xs i).f3.length ≤ c3 ∧ k28.C w A3 (dS xs i).f3.length (dS xs i).f3 := by
 obtain ⟨ad, c, e, _, hK, hc0⟩ := Kd.nV h z62 i h0 h1
 have hc : ∀ j u, c[j]? = some u → w.cell? (ad.add (i.toNat * 4 + j)) = some u := hc0
 obtain ⟨A1, c1, A2, c2, A3, c3, rfl, l1, g1, l2, g2, l3, g3⟩ := wF hK
 exact ⟨ad, A1, c1, A2, c2, A3, c3, e, hc 0 _ rfl, by rw [← fK _ _ 1 (by omega)]; exact hc 1 _ rfl, by rw [← fK _ _ 2 (by omega)]; exact hc 2 _ rfl, by rw [← fK _ _ 3 (by omega)]; exact hc 3 _ rfl, l1, g1, l2, g2, l3, g3⟩
structure S45 where
 f0 : Int
 f1 : ByteArray
 f2 : ByteArray
 f3 : ByteArray
 f4 : Int
 f5 : S25
 f6 : Int
def z45 : S45 := ⟨(0 : Int), (⟨#[]⟩ : ByteArray), (⟨#[]⟩ : ByteArray), (⟨#[]⟩ : ByteArray), (0 : Int), z25, (0 : Int)⟩
def k45 : Kd S45 := Kd.iso (Kd.pair (Kd.int .i64) (Kd.pair Kd.string (Kd.pair Kd.string (Kd.pair Kd.string (Kd.pair (Kd.int .u32) (Kd.pair k25 (Kd.int .i64))))))) (fun x : S45 => (x.f0, x.f1, x.f2, x.f3, x.f4, x.f5, x.f6))
theorem wG {w : World} {x : S45} {cs : List Value} (h : k45.K w x cs) : cs = [.int .i64 x.f0, .string x.f1, .string x.f2, .string x.f3, .int .u32 x.f4, .int .u32 x.f5.f0, .int .i64 x.f5.f1, .int .i64 x.f6] := by
 obtain ⟨_, _, rfl, rfl, ⟨_, _, rfl, rfl, ⟨_, _, rfl, rfl, ⟨_, _, rfl, rfl, ⟨_, _, rfl, rfl, ⟨_, _, rfl, s5, rfl⟩⟩⟩⟩⟩⟩ := h
 obtain rfl := nD s5
 exact rfl
theorem zl (w : World) (x : S45)  : k45.K w x [.int .i64 x.f0, .string x.f1, .string x.f2, .string x.f3, .int .u32 x.f4, .int .u32 x.f5.f0, .int .i64 x.f5.f1, .int .i64 x.f6] := ⟨[.int .i64 x.f0], [.string x.f1, .string x.f2, .string x.f3, .int .u32 x.f4, .int .u32 x.f5.f0, .int .i64 x.f5.f1, .int .i64 x.f6], rfl, rfl, ⟨[.string x.f1], [.string x.f2, .string x.f3, .int .u32 x.f4, .int .u32 x.f5.f0, .int .i64 x.f5.f1, .int .i64 x.f6], rfl, rfl, ⟨[.string x.f2], [.string x.f3, .int .u32 x.f4, .int .u32 x.f5.f0, .int .i64 x.f5.f1, .int .i64 x.f6], rfl, rfl, ⟨[.string x.f3], [.int .u32 x.f4, .int .u32 x.f5.f0, .int .i64 x.f5.f1, .int .i64 x.f6], rfl, rfl, ⟨[.int .u32 x.f4], [.int .u32 x.f5.f0, .int .i64 x.f5.f1, .int .i64 x.f6], rfl, rfl, ⟨[.int .u32 x.f5.f0, .int .i64 x.f5.f1], [.int .i64 x.f6], rfl, (ww w x.f5 ), rfl⟩⟩⟩⟩⟩⟩
theorem uy (w : World) (base : Nat) (ok : Nat → Prop) (x : S45)  : k45.M w base ok x [.int .i64 x.f0, .string x.f1, .string x.f2, .string x.f3, .int .u32 x.f4, .int .u32 x.f5.f0, .int .i64 x.f5.f1, .int .i64 x.f6] := ⟨[.int .i64 x.f0], [.string x.f1, .string x.f2, .string x.f3, .int .u32 x.f4, .int .u32 x.f5.f0, .int .i64 x.f5.f1, .int .i64 x.f6], rfl, rfl, ⟨[.string x.f1], [.string x.f2, .string x.f3, .int .u32 x.f4, .int .u32 x.f5.f0, .int .i64 x.f5.f1, .int .i64 x.f6], rfl, rfl, ⟨[.string x.f2], [.string x.f3, .int .u32 x.f4, .int .u32 x.f5.f0, .int .i64 x.f5.f1, .int .i64 x.f6], rfl, rfl, ⟨[.string x.f3], [.int .u32 x.f4, .int .u32 x.f5.f0, .int .i64 x.f5.f1, .int .i64 x.f6], rfl, rfl, ⟨[.int .u32 x.f4], [.int .u32 x.f5.f0, .int .i64 x.f5.f1, .int .i64 x.f6], rfl, rfl, ⟨[.int .u32 x.f5.f0, .int .i64 x.f5.f1], [.int .i64 x.f6], rfl, (xW w base ok x.f5 ), rfl⟩⟩⟩⟩⟩⟩
def aI (xs : List S45) (i : Int) : S45 := xs.getD i.toNat z45
theorem ma {w : World} {A : Option Addr} {n : Nat} {xs : List S45} (h : Kd.C k45 w A n xs) (i : Int) (h0 : 0 ≤ i) (h1 : i < n) : ∃ ad , A = some ad ∧ w.cell? (ad.add (i.toNat * 8)) = some (.int .i64 (aI xs i).f0) ∧ w.cell? ⟨(ad.add (i.toNat * 8)).block, (ad.add (i.toNat * 8)).off + 1, none⟩ = some (.string (aI xs i).f1) ∧ w.cell? ⟨(ad.add (i.toNat * 8)).block, (ad.add (i.toNat * 8)).off + 2, none⟩ = some (.string (aI xs i).f2) ∧ w.cell? ⟨(ad.add (i.toNat * 8)).block, (ad.add (i.toNat * 8)).off + 3, none⟩ = some (.string (aI xs i).f3) ∧ w.cell? ⟨(ad.add (i.toNat * 8)).block, (ad.add (i.toNat * 8)).off + 4, none⟩ = some (.int .u32 (aI xs i).f4) ∧ w.cell? ⟨(ad.add (i.toNat * 8)).block, (ad.add (i.toNat * 8)).off + 5, none⟩ = some (.int .u32 (aI xs i).f5.f0) ∧ w.cell? ⟨(ad.add (i.toNat * 8)).block, (ad.add (i.toNat * 8)).off + 6, none⟩ = some (.int .i64 (aI xs i).f5.f1) ∧ w.cell? ⟨(ad.add (i.toNat * 8)).block, (ad.add (i.toNat * 8)).off + 7, none⟩ = some (.int .i64 (aI xs i).f6) := by
 obtain ⟨ad, c, e, _, hK, hc0⟩ := Kd.nV h z45 i h0 h1
 have hc : ∀ j u, c[j]? = some u → w.cell? (ad.add (i.toNat * 8 + j)) = some u := hc0
 obtain rfl := wG hK
 exact ⟨ad, e, hc 0 _ rfl, by rw [← fK _ _ 1 (by omega)]; exact hc 1 _ rfl, by rw [← fK _ _ 2 (by omega)]; exact hc 2 _ rfl, by rw [← fK _ _ 3 (by omega)]; exact hc 3 _ rfl, by rw [← fK _ _ 4 (by omega)]; exact hc 4 _ rfl, by rw [← fK _ _ 5 (by omega)]; exact hc 5 _ rfl, by rw [← fK _ _ 6 (by omega)]; exact hc 6 _ rfl, by rw [← fK _ _ 7 (by omega)]; exact hc 7 _ rfl⟩
abbrev pu : Bool := true
abbrev wH : Bool := true
abbrev rP : Bool := true
abbrev pz : Bool := true
abbrev uz : Bool := true
abbrev rQ : Bool := true
abbrev rR : Bool := true
abbrev qy : Bool := true
abbrev wI : Bool := true
abbrev rT : Bool := true
abbrev qz : Bool := true
abbrev pE : Bool := true
abbrev uA : Bool := true
abbrev qK : Bool := true
abbrev tH : Bool := true
end Go.Proofs.YteidaijpaijgpaaGreatDoor.P
end
section
namespace Go.Proofs.YteidaijpaijgpaaGreatDoor.Open
open Go.ChangeShapes Go.WideShapes Go.RowKit Go.Proofs.YteidaijpaijgpaaGreatDoor.P Go.Proofs.YteidaijpaijgpaaGreatDoorW.ay
set_option linter.unusedVariables false
def pF {α : Type} (d : Kd α) (t : TypeId) (Φ : α → Prop) : Prop :=
  ∀ {H : Type} {enc : TypeId × Value → H} {W : World} {fuel : Nat} {cs : List Value} {y : DataW H × List MemPlace}, DataW.trod enc Tryz.prog W 0 (fun _ => true) true fuel t cs = some y → ∃ x, d.K W x cs ∧ Φ x
theorem lm {k : IntKind} {t : TypeId} (ht : Tryz.prog.underlying t = some (.int k)) : pF (Kd.int k) t (fun x => (Lit.int k x).wf = true) := by
  intro H enc W fuel cs y h
  obtain ⟨n, rfl, _, hw⟩ := DataW.trod_int ht h
  exact ⟨n, rfl, hw⟩
theorem lD {t : TypeId} (ht : Tryz.prog.underlying t = some .string) : pF Kd.string t (fun s => s.size ≤ maxLen) := by
  intro H enc W fuel cs y h
  obtain ⟨s, rfl, _, hs⟩ := DataW.trod_string ht h
  exact ⟨s, rfl, hs⟩
theorem rU {α : Type} {d : Kd α} {t e : TypeId} {Φ : α → Prop} (ht : Tryz.prog.underlying t = some (.slice e)) (hsz : Tryz.prog.cellsOf e = d.sz) (h : pF d e Φ) : pF (Kd.slice e d) t (fun l => ∀ x ∈ l, Φ x) := by
  intro H enc W fuel cs y hy
  rcases DataW.trod_slice ht hy with ⟨rfl, _⟩ | ⟨a, len, cap, elems, rest, n, _, rfl, _, _, hlc, hcm, hel, hE, _, _⟩
  · exact ⟨[], ⟨none, 0, rfl, Nat.le_refl _, rfl, Nat.zero_le _, fun h => by cases h⟩, fun x hx => by cases hx⟩
  · have each : ∀ i : Fin len, ∃ x, ∃ c, c.length = d.sz ∧ d.K W x c ∧ (∀ j u, c[j]? = some u → W.cell? (a.add (i.1 * d.sz + j)) = some u) ∧ Φ x := by
      intro i
      have h1 := hE i.1 i.2
      obtain ⟨z, hz⟩ : ∃ z, elems[i.1]? = some z := ⟨_, List.getElem?_eq_getElem (by rw [hel]; exact i.2)⟩
      rw [hz] at h1
      obtain ⟨c, hc, hd⟩ := Option.bind_eq_some_iff.1 h1
      obtain ⟨x, hK, hΦ⟩ := h hd
      obtain ⟨_, hl, hcell⟩ := World.cells?_some hc
      refine ⟨x, c, by rw [hl, hsz], hK, fun j u hu => ?_, hΦ⟩
      have hj : j < c.length := (List.getElem?_eq_some_iff.1 hu).1
      have := hcell j (by omega)
      rw [hu, hsz, Addr.add_add] at this
      exact this
    obtain ⟨f, hf⟩ := Classical.axiomOfChoice each
    refine ⟨List.ofFn f, ⟨some a, cap, by simp, by simpa using hlc, by simp, ?_, fun _ => ⟨a, rfl, fun j p hp => ?_⟩⟩, fun x hx => ?_⟩
    · simp only [maxLen] at hcm; simp; omega
    · obtain ⟨hj, rfl⟩ := List.getElem?_eq_some_iff.1 hp
      have hj' : j < len := by simpa using hj
      obtain ⟨c, h1, h2, h3, _⟩ := hf ⟨j, hj'⟩
      exact ⟨c, h1, by simpa using h2, fun i u hu => h3 i u hu⟩
    · obtain ⟨i, rfl⟩ := List.mem_ofFn.1 hx
      obtain ⟨_, _, _, _, h4⟩ := hf i
      exact h4
set_option maxRecDepth 100000 in
theorem wf_u32 {x : Int} (h : (Lit.int .u32 x).wf = true) : 0 ≤ x ∧ x < 4294967296 := by
  simp [Lit.wf, IntKind.min, IntKind.max, IntKind.signed, IntKind.bits] at h; omega
set_option maxRecDepth 100000 in
theorem wf_i64 {x : Int} (h : (Lit.int .i64 x).wf = true) : -9223372036854775808 ≤ x ∧ x < 9223372036854775808 := by
  simp [Lit.wf, IntKind.min, IntKind.max, IntKind.signed, IntKind.bits] at h; omega
set_option maxRecDepth 100000 in
theorem uS {α : Type} {d : Kd α} {t e : TypeId} {Φ : α → Prop} (ht : Tryz.prog.underlying t = some (.slice e)) (h : pF (Kd.slice e d) t (fun l => ∀ x ∈ l, Φ x)) {H : Type} {enc : TypeId × Value → H} {W : World} {base : Nat} {v : Value} {dd : DataW H} {p : List MemPlace}
    (hv : Value.okWide Tryz.prog W .any base t v) (hd : DataW.Trod enc Tryz.prog W 0 (fun _ => true) true t v dd p) : ∃ (A : Option Addr) (c : Nat) (l : List α), v = .slice A l.length c ∧ l.length ≤ c ∧ d.C W A l.length l ∧ ∀ x ∈ l, Φ x := by
  obtain ⟨a, len, cap, rfl⟩ := okWide_slice ht hv
  obtain ⟨fuel, hf⟩ := hd
  obtain ⟨l, ⟨A, c, he, hc, hC⟩, hΦ⟩ := h hf
  simp [Value.cells] at he
  obtain ⟨rfl, rfl, rfl⟩ := he
  exact ⟨_, _, l, rfl, hc, hC, hΦ⟩
end Go.Proofs.YteidaijpaijgpaaGreatDoor.Open
end
section
namespace Go.Proofs.YteidaijpaijgpaaGreatDoor.P
open Go.RowKit Go.Proofs.YteidaijpaijgpaaGreatDoorW.ay Go.Proofs.YteidaijpaijgpaaGreatDoorW.aQ Go.Proofs.YteidaijpaijgpaaGreatDoorW.aZ
attribute [local go_sem] bz bA bP bQ bq bu bB bC
set_option linter.unusedVariables false
set_option linter.unusedSimpArgs false
def aM.l0 : Nat → Int → ByteArray → Int → Option (ByteArray)
 | 0, _, _, _ => none
 | k + 1, x0, x3, x4 => if x4 = 0 then (if x0 < 0 then (if 1 + x3.size ≤ 9223372036854775807 then (some ((⟨#[45]⟩ : ByteArray) ++ x3)) else (none)) else (some x3)) else (if (Int.tmod x4 10) < 0 then ((some (([(wrap64 (48 + (wrap64 (-(Int.tmod x4 10))))) % 256] : List Int) : List Int)).bind fun y101 => (if (strOfNums y101).size + x3.size ≤ 9223372036854775807 then (aM.l0 k x0 ((strOfNums y101) ++ x3) (wrap64 (Int.tdiv x4 10))) else (none))) else ((some (([(wrap64 (48 + (Int.tmod x4 10))) % 256] : List Int) : List Int)).bind fun y104 => (if (strOfNums y104).size + x3.size ≤ 9223372036854775807 then (aM.l0 k x0 ((strOfNums y104) ++ x3) (wrap64 (Int.tdiv x4 10))) else (none))))
def aM.f (k : Nat) (a0 : Int) : Option (ByteArray) := if a0 = 0 then (some (⟨#[48]⟩ : ByteArray)) else (aM.l0 k a0 (⟨#[]⟩ : ByteArray) a0)
set_option maxHeartbeats 8000000 in
set_option maxRecDepth 100000 in
theorem aM.calls (k : Nat) (a0 : Int) (r : ByteArray) (w : World) (h : aM.f k a0 = some r) :
  Calls Tryz.prog 37 #[.int .i64 a0] w fun e w' => e = .returned (.string r) ∧ Below w.heap.size w w' := by
 have HB := ae.mk (Below.refl w.heap.size w)
 have H : (if a0 = 0 then (some (⟨#[48]⟩ : ByteArray)) else (aM.l0 k a0 (⟨#[]⟩ : ByteArray) a0)) = some r := h
 clear h
 by_cases c2 : a0 = 0
 ·rw [if_pos c2] at H
  have jF : (a0 == 0) = true := beq_iff_eq.mpr c2
  have mI : (a0 != 0) = false := bne_eq_false_iff_eq.mpr c2
  clear c2
  obtain rfl := Option.some.inj H
  go_enter Tryz.func37, Tryz.ntmps37
  go_wp2
  go_ret
  exact ⟨by first | rfl | (simp [errW_none, errW_some] <;> rfl) | (simp [*, errW_none, errW_some] <;> rfl), by repeat (first | (with_reducible first | exact HB.out | apply au | apply ai | apply ak) | exact HB.out)⟩
 ·rw [if_neg c2] at H
  have jF : (a0 == 0) = false := beq_eq_false_iff_ne.mpr c2
  have mI : (a0 != 0) = true := bne_iff_ne.mpr c2
  have H' := ae.mk H
  clear H
  go_enter Tryz.func37, Tryz.ntmps37
  go_wp2
  go_loopg [3, 4] k (fun kq v3 v4 w' => ∃ (fu : ByteArray) (fH : Int), v3 = .string fu ∧ v4 = .int .i64 fH ∧ ae (aM.l0 kq a0 fu fH = some r) ∧ ae (kq ≤ k) ∧ ae (Below w.heap.size w w'))
  case atStart => exact ⟨((⟨#[]⟩ : ByteArray)), (a0), (by first | rfl | (simp; done) | (simp [*]; done)), (by first | rfl | (simp; done) | (simp [*]; done)), H', ⟨Nat.le_refl _⟩, ⟨by repeat (first | (with_reducible first | exact HB.out | apply au | apply ai | apply ak) | exact HB.out)⟩⟩
  case round =>
   clear H'
   try clear c2
   try clear jF
   try clear mI
   try clear p2
   obtain ⟨fu, fH, rfl, rfl, HA, HK1, HB⟩ := hrel
   cases gk with
   | zero => exact absurd HA.out (by simp [aM.l0])
   | succ k1 =>
    have H := HA.out
    clear HA
    simp only [aM.l0] at H
    by_cases c3 : fH = 0
    ·rw [if_pos c3] at H
     have gN : (fH == 0) = true := beq_iff_eq.mpr c3
     have jk : (fH != 0) = false := bne_eq_false_iff_eq.mpr c3
     clear c3
     by_cases c4 : a0 < 0
     ·rw [if_pos c4] at H
      have iQ : decide (a0 < 0) = true := decide_eq_true c4
      clear c4
      by_cases c5 : 1 + fu.size ≤ 9223372036854775807
      ·rw [if_pos c5] at H
       have jG := eq_true c5
       have lS : decide (1 + fu.size ≤ 9223372036854775807) = true := decide_eq_true c5
       try have tJ : (9223372036854775807 < 1 + fu.size) = False := eq_false (Nat.not_lt.2 c5)
       obtain rfl := Option.some.inj H
       go_wp2
       go_ret
       exact ⟨by first | rfl | (simp [errW_none, errW_some] <;> rfl) | (simp [*, errW_none, errW_some] <;> rfl), by repeat (first | (with_reducible first | exact HB.out | apply au | apply ai | apply ak) | exact HB.out)⟩
      ·rw [if_neg c5] at H
       exact absurd H (by simp)
     ·rw [if_neg c4] at H
      have iQ : decide (a0 < 0) = false := decide_eq_false c4
      clear c4
      obtain rfl := Option.some.inj H
      go_wp2
      go_ret
      exact ⟨by first | rfl | (simp [errW_none, errW_some] <;> rfl) | (simp [*, errW_none, errW_some] <;> rfl), by repeat (first | (with_reducible first | exact HB.out | apply au | apply ai | apply ak) | exact HB.out)⟩
    ·rw [if_neg c3] at H
     have gN : (fH == 0) = false := beq_eq_false_iff_ne.mpr c3
     have jk : (fH != 0) = true := bne_iff_ne.mpr c3
     by_cases c6 : (Int.tmod fH 10) < 0
     ·rw [if_pos c6] at H
      have kE : decide ((Int.tmod fH 10) < 0) = true := decide_eq_true c6
      clear c6
      obtain ⟨y101, hy101⟩ : ∃ y_ : List Int, y_ = (([(wrap64 (48 + (wrap64 (-(Int.tmod fH 10))))) % 256] : List Int)) := ⟨_, rfl⟩
      replace H : (if (strOfNums y101).size + fu.size ≤ 9223372036854775807 then (aM.l0 k1 a0 ((strOfNums y101) ++ fu) (wrap64 (Int.tdiv fH 10))) else (none)) = some r := by first | (rw [hy101]; with_reducible exact H) | (have H2_ := (Option.bind_some _ _).symm.trans H; rw [hy101]; with_reducible exact H2_) | (have H2_ := (Option.bind_some _ _).symm.trans H; with_reducible exact H2_) | with_reducible exact H | (rw [hy101]; exact H) | exact H
      have Ny101 := ae.mk hy101
      clear hy101
      by_cases c7 : (strOfNums y101).size + fu.size ≤ 9223372036854775807
      ·rw [if_pos c7] at H
       have jg := eq_true c7
       have oq : decide ((strOfNums y101).size + fu.size ≤ 9223372036854775807) = true := decide_eq_true c7
       try have xX : (9223372036854775807 < (strOfNums y101).size + fu.size) = False := eq_false (Nat.not_lt.2 c7)
       have H' := ae.mk H
       clear H
       go_wp2_with (first | ((with_reducible refine bg (N := 20) rfl ?_); refine Kd.jm (Kd.int .u8) _ 5 ?hg (N := 20) ?hd (xs := ([(wrap64 (48 + (wrap64 (-(Int.tmod fH 10))))) % 256] : List Int)) (inner := [.int .u8 ((wrap64 (48 + (wrap64 (-(Int.tmod fH 10))))) % 256)]) (ok := fun _ => True) (okp := fun _ => True) ?hr ?hp (fun _ hk => hk) trivial (Below.refl _ _) (Nat.le_refl _) (by simp) ?_; (case hd => rfl); (case hg => rfl); (case hr => first | (go_simp; done) | (go_simp; rfl)); (case hp => exact (cu.one (show Kd.M (Kd.int .u8) _ _ _ ((wrap64 (48 + (wrap64 (-(Int.tmod fH 10))))) % 256) [.int .u8 ((wrap64 (48 + (wrap64 (-(Int.tmod fH 10))))) % 256)] from rfl) (cu.none _ _))); intro v102 w8 ho9 hb hg_ hnew_; clear hg_ hnew_; (first | rw [← Ny101.out] at ho9 | (simp only [Int.reduceToNat] at ho9; rw [← Ny101.out] at ho9)); have eX := ae.mk (Kd.dI ho9 (bi (qw HB))); replace HB := ae.mk (aj (qw HB) hb); clear hb ho9; have hcv10 := mU (P := Tryz.prog) Tryz.underlying98 Tryz.underlying5 Tryz.underlying9 (Kd.lX eX.out)))
       go_roundg k1
       case measure => have := HK1.out; omega
       case rel => exact ⟨((strOfNums y101) ++ fu), (wrap64 (Int.tdiv fH 10)), (by first | rfl | (simp; done) | (simp [*]; done)), (by first | rfl | (simp; done) | (simp [*]; done)), H', ⟨by have := HK1.out; omega⟩, ⟨by repeat (first | (with_reducible first | exact HB.out | apply au | apply ai | apply ak) | exact HB.out)⟩⟩
      ·rw [if_neg c7] at H
       exact absurd H (by simp)
     ·rw [if_neg c6] at H
      have kE : decide ((Int.tmod fH 10) < 0) = false := decide_eq_false c6
      clear c6
      obtain ⟨y104, hy104⟩ : ∃ y_ : List Int, y_ = (([(wrap64 (48 + (Int.tmod fH 10))) % 256] : List Int)) := ⟨_, rfl⟩
      replace H : (if (strOfNums y104).size + fu.size ≤ 9223372036854775807 then (aM.l0 k1 a0 ((strOfNums y104) ++ fu) (wrap64 (Int.tdiv fH 10))) else (none)) = some r := by first | (rw [hy104]; with_reducible exact H) | (have H2_ := (Option.bind_some _ _).symm.trans H; rw [hy104]; with_reducible exact H2_) | (have H2_ := (Option.bind_some _ _).symm.trans H; with_reducible exact H2_) | with_reducible exact H | (rw [hy104]; exact H) | exact H
      have Ny104 := ae.mk hy104
      clear hy104
      by_cases c11 : (strOfNums y104).size + fu.size ≤ 9223372036854775807
      ·rw [if_pos c11] at H
       have lq := eq_true c11
       have wJ : decide ((strOfNums y104).size + fu.size ≤ 9223372036854775807) = true := decide_eq_true c11
       try have zO : (9223372036854775807 < (strOfNums y104).size + fu.size) = False := eq_false (Nat.not_lt.2 c11)
       have H' := ae.mk H
       clear H
       go_wp2_with (first | ((with_reducible refine bg (N := 20) rfl ?_); refine Kd.jm (Kd.int .u8) _ 5 ?hg (N := 20) ?hd (xs := ([(wrap64 (48 + (Int.tmod fH 10))) % 256] : List Int)) (inner := [.int .u8 ((wrap64 (48 + (Int.tmod fH 10))) % 256)]) (ok := fun _ => True) (okp := fun _ => True) ?hr ?hp (fun _ hk => hk) trivial (Below.refl _ _) (Nat.le_refl _) (by simp) ?_; (case hd => rfl); (case hg => rfl); (case hr => first | (go_simp; done) | (go_simp; rfl)); (case hp => exact (cu.one (show Kd.M (Kd.int .u8) _ _ _ ((wrap64 (48 + (Int.tmod fH 10))) % 256) [.int .u8 ((wrap64 (48 + (Int.tmod fH 10))) % 256)] from rfl) (cu.none _ _))); intro v105 w12 wK hb hg_ hnew_; clear hg_ hnew_; (first | rw [← Ny104.out] at wK | (simp only [Int.reduceToNat] at wK; rw [← Ny104.out] at wK)); have wL := ae.mk (Kd.dI wK (bi (qw HB))); replace HB := ae.mk (aj (qw HB) hb); clear hb wK; have hcv14 := mU (P := Tryz.prog) Tryz.underlying98 Tryz.underlying5 Tryz.underlying9 (Kd.lX wL.out)))
       go_roundg k1
       case measure => have := HK1.out; omega
       case rel => exact ⟨((strOfNums y104) ++ fu), (wrap64 (Int.tdiv fH 10)), (by first | rfl | (simp; done) | (simp [*]; done)), (by first | rfl | (simp; done) | (simp [*]; done)), H', ⟨by have := HK1.out; omega⟩, ⟨by repeat (first | (with_reducible first | exact HB.out | apply au | apply ai | apply ak) | exact HB.out)⟩⟩
      ·rw [if_neg c11] at H
       exact absurd H (by simp)
end Go.Proofs.YteidaijpaijgpaaGreatDoor.P
end
section
namespace Go.Proofs.YteidaijpaijgpaaGreatDoor.P
open Go.RowKit Go.Proofs.YteidaijpaijgpaaGreatDoorW.ay Go.Proofs.YteidaijpaijgpaaGreatDoorW.aQ Go.Proofs.YteidaijpaijgpaaGreatDoorW.aZ
attribute [local go_sem] bz bA bP bQ bq bu bB bC
set_option linter.unusedVariables false
set_option linter.unusedSimpArgs false
def dH.l0 : Nat → Int → Int → Option (Int)
 | 0, _, _ => none
 | k + 1, x3, x4 => if x4 < 32 then (dH.l0 k (IntKind.u64.wrap (2 * x3)) (wrap64 (x4 + 1))) else (some x3)
def dH.f (k : Nat) (a0 : Int) : Option (Int) := dH.l0 k 1 a0
set_option maxHeartbeats 8000000 in
set_option maxRecDepth 100000 in
theorem dH.calls (k : Nat) (a0 : Int) (r : Int) (w : World) (h : dH.f k a0 = some r) :
  Calls Tryz.prog 93 #[.int .i64 a0] w fun e w' => e = .returned (.int .u64 r) ∧ eT w w' := by
 have H : (dH.l0 k 1 a0) = some r := h
 clear h
 have H' := ae.mk H
 clear H
 go_enter Tryz.func93, Tryz.ntmps93
 go_wp2
 go_loopg [3, 4] k (fun kq v3 v4 w' => ∃ (fu : Int) (fH : Int), v3 = .int .u64 fu ∧ v4 = .int .i64 fH ∧ ae (dH.l0 kq fu fH = some r) ∧ ae (kq ≤ k) ∧ eT w w')
 case atStart => exact ⟨(1), (a0), (by first | rfl | (simp; done) | (simp [*]; done)), (by first | rfl | (simp; done) | (simp [*]; done)), H', ⟨Nat.le_refl _⟩, by repeat (first | exact eT.refl _ | apply eT.step)⟩
 case round =>
  clear H'
  obtain ⟨fu, fH, rfl, rfl, HA, HK1, ⟨m1, rfl⟩⟩ := hrel
  cases gk with
  | zero => exact absurd HA.out (by simp [dH.l0])
  | succ k1 =>
   have H := HA.out
   clear HA
   simp only [dH.l0] at H
   by_cases c2 : fH < 32
   ·rw [if_pos c2] at H
    have jF : decide (fH < 32) = true := decide_eq_true c2
    clear c2
    have H' := ae.mk H
    clear H
    go_wp2
    go_roundg k1
    case measure => have := HK1.out; omega
    case rel => exact ⟨(IntKind.u64.wrap (2 * fu)), (wrap64 (fH + 1)), (by first | rfl | (simp; done) | (simp [*]; done)), (by first | rfl | (simp; done) | (simp [*]; done)), H', ⟨by have := HK1.out; omega⟩, by repeat (first | exact eT.refl _ | apply eT.step)⟩
   ·rw [if_neg c2] at H
    have jF : decide (fH < 32) = false := decide_eq_false c2
    clear c2
    obtain rfl := Option.some.inj H
    go_wp2
    go_ret
    exact ⟨by first | rfl | (simp; done) | (simp [*]; done), by repeat (first | exact eT.refl _ | apply eT.step)⟩
end Go.Proofs.YteidaijpaijgpaaGreatDoor.P
end
section
namespace Go.Proofs.YteidaijpaijgpaaGreatDoor.P
open Go.RowKit Go.Proofs.YteidaijpaijgpaaGreatDoorW.ay Go.Proofs.YteidaijpaijgpaaGreatDoorW.aQ Go.Proofs.YteidaijpaijgpaaGreatDoorW.aZ
attribute [local go_sem] bz bA bP bQ bq bu bB bC
set_option linter.unusedVariables false
set_option linter.unusedSimpArgs false
def gH.f (k : Nat) (aD : Int) (aA : Int) : Option (Bool) := if aA ≥ 0 then (if aA ≤ 32 then ((dH.f k aA).bind fun aJ => (if aJ = 0 then (none) else (some ((Int.tmod (IntKind.u64.wrap (aD)) aJ) == 0)))) else (some false)) else (some false)
set_option maxHeartbeats 8000000 in
set_option maxRecDepth 100000 in
theorem gH.calls (k : Nat) (aD : Int) (aA : Int) (r : Bool) (w : World) (h : gH.f k aD aA = some r) :
  Calls Tryz.prog 59 #[.agg #[.int .u32 aD, .int .i64 aA]] w fun e w' => e = .returned (.bool r) ∧ Below w.heap.size w w' := by
 have hu25 := Tryz.underlying25
 have HB := ae.mk (Below.refl w.heap.size w)
 have H : (if aA ≥ 0 then (if aA ≤ 32 then ((dH.f k aA).bind fun aJ => (if aJ = 0 then (none) else (some ((Int.tmod (IntKind.u64.wrap (aD)) aJ) == 0)))) else (some false)) else (some false)) = some r := h
 clear h
 by_cases c2 : aA ≥ 0
 ·rw [if_pos c2] at H
  have jF : decide (0 ≤ aA) = true := decide_eq_true c2
  clear c2
  by_cases c3 : aA ≤ 32
  ·rw [if_pos c3] at H
   have gN : decide (aA ≤ 32) = true := decide_eq_true c3
   clear c3
   replace H := Option.bind_eq_some_iff.mp H
   obtain ⟨aJ, A40, H⟩ := H
   replace H : (if aJ = 0 then (none) else (some ((Int.tmod (IntKind.u64.wrap (aD)) aJ) == 0))) = some r := H
   have A4 := ae.mk A40
   clear A40
   by_cases c5 : aJ = 0
   ·rw [if_pos c5] at H
    exact absurd H (by simp)
   ·rw [if_neg c5] at H
    have jG : (aJ == 0) = false := beq_eq_false_iff_ne.mpr c5
    have lS : (aJ != 0) = true := bne_iff_ne.mpr c5
    obtain rfl := Option.some.inj H
    go_enter Tryz.func59, Tryz.ntmps59
    go_wp2_with (first | ((with_reducible refine bg (N := 1) rfl ?_); refine bE ?hg (N := 1) ?hd (cs := #[.int .u32 aD, .int .i64 aA]) (t := 25) ?hr ?_; (case hd => rfl); (case hg => rfl); (case hr => first | (go_simp; done) | (go_simp; rfl)); intro av hg w6 hbox hb; have ag := ae.mk (hbox); have GW101 := qge HB hg; have dh := qge HB hg; replace HB := ae.mk (aj (qw HB) hb); clear hb hbox hg; have hcz7_0 : w6.cell? ⟨av, 0, none⟩ = some (.int .u32 aD) := (af ag.out 0).trans rfl; have hcz7_1 : w6.cell? ⟨av, 1, none⟩ = some (.int .i64 aA) := (af ag.out 1).trans rfl; have hfz7_0 := ah ag.out 0; have hfz7_1 := ah ag.out 1) | (go_at_call 93; (with_reducible refine (dH.calls k aA aJ _ A4.out).mono ?_); rintro e w' ⟨rfl, ⟨nd, rfl⟩⟩; (try first | exact ⟨rfl, _, World.drewN_drewN _ _ _⟩ | exact ⟨rfl, _, Eq.trans (World.drewN_drewN _ _ _) (congrArg (World.drewN _) (Nat.add_assoc _ _ _))⟩)))
    repeat (go_quiet (first | ((with_reducible refine bg (N := 1) rfl ?_); refine bE ?hg (N := 1) ?hd (cs := #[.int .u32 aD, .int .i64 aA]) (t := 25) ?hr ?_; (case hd => rfl); (case hg => rfl); (case hr => first | (go_simp; done) | (go_simp; rfl)); intro av hg w6 hbox hb; have ag := ae.mk (hbox); have GW101 := qge HB hg; have dh := qge HB hg; replace HB := ae.mk (aj (qw HB) hb); clear hb hbox hg; have hcz7_0 : w6.cell? ⟨av, 0, none⟩ = some (.int .u32 aD) := (af ag.out 0).trans rfl; have hcz7_1 : w6.cell? ⟨av, 1, none⟩ = some (.int .i64 aA) := (af ag.out 1).trans rfl; have hfz7_0 := ah ag.out 0; have hfz7_1 := ah ag.out 1) | (go_at_call 93; (with_reducible refine (dH.calls k aA aJ _ A4.out).mono ?_); rintro e w' ⟨rfl, ⟨nd, rfl⟩⟩; (try first | exact ⟨rfl, _, World.drewN_drewN _ _ _⟩ | exact ⟨rfl, _, Eq.trans (World.drewN_drewN _ _ _) (congrArg (World.drewN _) (Nat.add_assoc _ _ _))⟩))); try go_wp2_with (first | ((with_reducible refine bg (N := 1) rfl ?_); refine bE ?hg (N := 1) ?hd (cs := #[.int .u32 aD, .int .i64 aA]) (t := 25) ?hr ?_; (case hd => rfl); (case hg => rfl); (case hr => first | (go_simp; done) | (go_simp; rfl)); intro av hg w6 hbox hb; have ag := ae.mk (hbox); have GW101 := qge HB hg; have dh := qge HB hg; replace HB := ae.mk (aj (qw HB) hb); clear hb hbox hg; have hcz7_0 : w6.cell? ⟨av, 0, none⟩ = some (.int .u32 aD) := (af ag.out 0).trans rfl; have hcz7_1 : w6.cell? ⟨av, 1, none⟩ = some (.int .i64 aA) := (af ag.out 1).trans rfl; have hfz7_0 := ah ag.out 0; have hfz7_1 := ah ag.out 1) | (go_at_call 93; (with_reducible refine (dH.calls k aA aJ _ A4.out).mono ?_); rintro e w' ⟨rfl, ⟨nd, rfl⟩⟩; (try first | exact ⟨rfl, _, World.drewN_drewN _ _ _⟩ | exact ⟨rfl, _, Eq.trans (World.drewN_drewN _ _ _) (congrArg (World.drewN _) (Nat.add_assoc _ _ _))⟩))))
    go_ret
    exact ⟨by first | rfl | (simp [errW_none, errW_some] <;> rfl) | (simp [*, errW_none, errW_some] <;> rfl), by repeat (first | (with_reducible first | exact HB.out | apply au | apply ai | apply ak | refine bn ?_ dh.out) | exact HB.out)⟩
  ·rw [if_neg c3] at H
   have gN : decide (aA ≤ 32) = false := decide_eq_false c3
   clear c3
   obtain rfl := Option.some.inj H
   go_enter Tryz.func59, Tryz.ntmps59
   go_wp2_with (first | ((with_reducible refine bg (N := 1) rfl ?_); refine bE ?hg (N := 1) ?hd (cs := #[.int .u32 aD, .int .i64 aA]) (t := 25) ?hr ?_; (case hd => rfl); (case hg => rfl); (case hr => first | (go_simp; done) | (go_simp; rfl)); intro av hg w8 hbox hb; have ag := ae.mk (hbox); have GW101 := qge HB hg; have dh := qge HB hg; replace HB := ae.mk (aj (qw HB) hb); clear hb hbox hg; have hcz9_0 : w8.cell? ⟨av, 0, none⟩ = some (.int .u32 aD) := (af ag.out 0).trans rfl; have hcz9_1 : w8.cell? ⟨av, 1, none⟩ = some (.int .i64 aA) := (af ag.out 1).trans rfl; have hfz9_0 := ah ag.out 0; have hfz9_1 := ah ag.out 1))
   repeat (go_quiet (first | ((with_reducible refine bg (N := 1) rfl ?_); refine bE ?hg (N := 1) ?hd (cs := #[.int .u32 aD, .int .i64 aA]) (t := 25) ?hr ?_; (case hd => rfl); (case hg => rfl); (case hr => first | (go_simp; done) | (go_simp; rfl)); intro av hg w8 hbox hb; have ag := ae.mk (hbox); have GW101 := qge HB hg; have dh := qge HB hg; replace HB := ae.mk (aj (qw HB) hb); clear hb hbox hg; have hcz9_0 : w8.cell? ⟨av, 0, none⟩ = some (.int .u32 aD) := (af ag.out 0).trans rfl; have hcz9_1 : w8.cell? ⟨av, 1, none⟩ = some (.int .i64 aA) := (af ag.out 1).trans rfl; have hfz9_0 := ah ag.out 0; have hfz9_1 := ah ag.out 1)); try go_wp2_with (first | ((with_reducible refine bg (N := 1) rfl ?_); refine bE ?hg (N := 1) ?hd (cs := #[.int .u32 aD, .int .i64 aA]) (t := 25) ?hr ?_; (case hd => rfl); (case hg => rfl); (case hr => first | (go_simp; done) | (go_simp; rfl)); intro av hg w8 hbox hb; have ag := ae.mk (hbox); have GW101 := qge HB hg; have dh := qge HB hg; replace HB := ae.mk (aj (qw HB) hb); clear hb hbox hg; have hcz9_0 : w8.cell? ⟨av, 0, none⟩ = some (.int .u32 aD) := (af ag.out 0).trans rfl; have hcz9_1 : w8.cell? ⟨av, 1, none⟩ = some (.int .i64 aA) := (af ag.out 1).trans rfl; have hfz9_0 := ah ag.out 0; have hfz9_1 := ah ag.out 1)))
   go_ret
   exact ⟨by first | rfl | (simp [errW_none, errW_some] <;> rfl) | (simp [*, errW_none, errW_some] <;> rfl), by repeat (first | (with_reducible first | exact HB.out | apply au | apply ai | apply ak | refine bn ?_ dh.out) | exact HB.out)⟩
 ·rw [if_neg c2] at H
  have jF : decide (0 ≤ aA) = false := decide_eq_false c2
  clear c2
  obtain rfl := Option.some.inj H
  go_enter Tryz.func59, Tryz.ntmps59
  go_wp2_with (first | ((with_reducible refine bg (N := 1) rfl ?_); refine bE ?hg (N := 1) ?hd (cs := #[.int .u32 aD, .int .i64 aA]) (t := 25) ?hr ?_; (case hd => rfl); (case hg => rfl); (case hr => first | (go_simp; done) | (go_simp; rfl)); intro av hg w10 hbox hb; have ag := ae.mk (hbox); have GW101 := qge HB hg; have dh := qge HB hg; replace HB := ae.mk (aj (qw HB) hb); clear hb hbox hg; have hcz11_0 : w10.cell? ⟨av, 0, none⟩ = some (.int .u32 aD) := (af ag.out 0).trans rfl; have hcz11_1 : w10.cell? ⟨av, 1, none⟩ = some (.int .i64 aA) := (af ag.out 1).trans rfl; have hfz11_0 := ah ag.out 0; have hfz11_1 := ah ag.out 1))
  repeat (go_quiet (first | ((with_reducible refine bg (N := 1) rfl ?_); refine bE ?hg (N := 1) ?hd (cs := #[.int .u32 aD, .int .i64 aA]) (t := 25) ?hr ?_; (case hd => rfl); (case hg => rfl); (case hr => first | (go_simp; done) | (go_simp; rfl)); intro av hg w10 hbox hb; have ag := ae.mk (hbox); have GW101 := qge HB hg; have dh := qge HB hg; replace HB := ae.mk (aj (qw HB) hb); clear hb hbox hg; have hcz11_0 : w10.cell? ⟨av, 0, none⟩ = some (.int .u32 aD) := (af ag.out 0).trans rfl; have hcz11_1 : w10.cell? ⟨av, 1, none⟩ = some (.int .i64 aA) := (af ag.out 1).trans rfl; have hfz11_0 := ah ag.out 0; have hfz11_1 := ah ag.out 1)); try go_wp2_with (first | ((with_reducible refine bg (N := 1) rfl ?_); refine bE ?hg (N := 1) ?hd (cs := #[.int .u32 aD, .int .i64 aA]) (t := 25) ?hr ?_; (case hd => rfl); (case hg => rfl); (case hr => first | (go_simp; done) | (go_simp; rfl)); intro av hg w10 hbox hb; have ag := ae.mk (hbox); have GW101 := qge HB hg; have dh := qge HB hg; replace HB := ae.mk (aj (qw HB) hb); clear hb hbox hg; have hcz11_0 : w10.cell? ⟨av, 0, none⟩ = some (.int .u32 aD) := (af ag.out 0).trans rfl; have hcz11_1 : w10.cell? ⟨av, 1, none⟩ = some (.int .i64 aA) := (af ag.out 1).trans rfl; have hfz11_0 := ah ag.out 0; have hfz11_1 := ah ag.out 1)))
  go_ret
  exact ⟨by first | rfl | (simp [errW_none, errW_some] <;> rfl) | (simp [*, errW_none, errW_some] <;> rfl), by repeat (first | (with_reducible first | exact HB.out | apply au | apply ai | apply ak | refine bn ?_ dh.out) | exact HB.out)⟩
end Go.Proofs.YteidaijpaijgpaaGreatDoor.P
end
section
namespace Go.Proofs.YteidaijpaijgpaaGreatDoor.P
open Go.RowKit Go.Proofs.YteidaijpaijgpaaGreatDoorW.ay Go.Proofs.YteidaijpaijgpaaGreatDoorW.aQ Go.Proofs.YteidaijpaijgpaaGreatDoorW.aZ
attribute [local go_sem] bz bA bP bQ bq bu bB bC
set_option linter.unusedVariables false
set_option linter.unusedSimpArgs false
def dw.f (k : Nat) (a0 : Int) : Option (ByteArray) := (aM.f k ((Int.tdiv a0 16777216) % 4294967296)).bind fun bR => (if bR.size + 1 ≤ 9223372036854775807 then ((aM.f k ((Int.tdiv a0 65536) % 256)).bind fun aJ => (if (bR ++ (⟨#[46]⟩ : ByteArray)).size + aJ.size ≤ 9223372036854775807 then (if ((bR ++ (⟨#[46]⟩ : ByteArray)) ++ aJ).size + 1 ≤ 9223372036854775807 then ((aM.f k ((Int.tdiv a0 256) % 256)).bind fun bJ => (if (((bR ++ (⟨#[46]⟩ : ByteArray)) ++ aJ) ++ (⟨#[46]⟩ : ByteArray)).size + bJ.size ≤ 9223372036854775807 then (if ((((bR ++ (⟨#[46]⟩ : ByteArray)) ++ aJ) ++ (⟨#[46]⟩ : ByteArray)) ++ bJ).size + 1 ≤ 9223372036854775807 then ((aM.f k (wrap64 (Int.tmod a0 256))).bind fun bH => (if (((((bR ++ (⟨#[46]⟩ : ByteArray)) ++ aJ) ++ (⟨#[46]⟩ : ByteArray)) ++ bJ) ++ (⟨#[46]⟩ : ByteArray)).size + bH.size ≤ 9223372036854775807 then (some ((((((bR ++ (⟨#[46]⟩ : ByteArray)) ++ aJ) ++ (⟨#[46]⟩ : ByteArray)) ++ bJ) ++ (⟨#[46]⟩ : ByteArray)) ++ bH)) else (none))) else (none)) else (none))) else (none)) else (none))) else (none))
set_option maxHeartbeats 8000000 in
set_option maxRecDepth 100000 in
theorem dw.calls (k : Nat) (a0 : Int) (r : ByteArray) (w : World) (h : dw.f k a0 = some r) :
  Calls Tryz.prog 60 #[.int .u32 a0] w fun e w' => e = .returned (.string r) ∧ Below w.heap.size w w' := by
 have HB := ae.mk (Below.refl w.heap.size w)
 have H : ((aM.f k ((Int.tdiv a0 16777216) % 4294967296)).bind fun bR => (if bR.size + 1 ≤ 9223372036854775807 then ((aM.f k ((Int.tdiv a0 65536) % 256)).bind fun aJ => (if (bR ++ (⟨#[46]⟩ : ByteArray)).size + aJ.size ≤ 9223372036854775807 then (if ((bR ++ (⟨#[46]⟩ : ByteArray)) ++ aJ).size + 1 ≤ 9223372036854775807 then ((aM.f k ((Int.tdiv a0 256) % 256)).bind fun bJ => (if (((bR ++ (⟨#[46]⟩ : ByteArray)) ++ aJ) ++ (⟨#[46]⟩ : ByteArray)).size + bJ.size ≤ 9223372036854775807 then (if ((((bR ++ (⟨#[46]⟩ : ByteArray)) ++ aJ) ++ (⟨#[46]⟩ : ByteArray)) ++ bJ).size + 1 ≤ 9223372036854775807 then ((aM.f k (wrap64 (Int.tmod a0 256))).bind fun bH => (if (((((bR ++ (⟨#[46]⟩ : ByteArray)) ++ aJ) ++ (⟨#[46]⟩ : ByteArray)) ++ bJ) ++ (⟨#[46]⟩ : ByteArray)).size + bH.size ≤ 9223372036854775807 then (some ((((((bR ++ (⟨#[46]⟩ : ByteArray)) ++ aJ) ++ (⟨#[46]⟩ : ByteArray)) ++ bJ) ++ (⟨#[46]⟩ : ByteArray)) ++ bH)) else (none))) else (none)) else (none))) else (none)) else (none))) else (none))) = some r := h
 clear h
 replace H := Option.bind_eq_some_iff.mp H
 obtain ⟨bR, A20, H⟩ := H
 replace H : (if bR.size + 1 ≤ 9223372036854775807 then ((aM.f k ((Int.tdiv a0 65536) % 256)).bind fun aJ => (if (bR ++ (⟨#[46]⟩ : ByteArray)).size + aJ.size ≤ 9223372036854775807 then (if ((bR ++ (⟨#[46]⟩ : ByteArray)) ++ aJ).size + 1 ≤ 9223372036854775807 then ((aM.f k ((Int.tdiv a0 256) % 256)).bind fun bJ => (if (((bR ++ (⟨#[46]⟩ : ByteArray)) ++ aJ) ++ (⟨#[46]⟩ : ByteArray)).size + bJ.size ≤ 9223372036854775807 then (if ((((bR ++ (⟨#[46]⟩ : ByteArray)) ++ aJ) ++ (⟨#[46]⟩ : ByteArray)) ++ bJ).size + 1 ≤ 9223372036854775807 then ((aM.f k (wrap64 (Int.tmod a0 256))).bind fun bH => (if (((((bR ++ (⟨#[46]⟩ : ByteArray)) ++ aJ) ++ (⟨#[46]⟩ : ByteArray)) ++ bJ) ++ (⟨#[46]⟩ : ByteArray)).size + bH.size ≤ 9223372036854775807 then (some ((((((bR ++ (⟨#[46]⟩ : ByteArray)) ++ aJ) ++ (⟨#[46]⟩ : ByteArray)) ++ bJ) ++ (⟨#[46]⟩ : ByteArray)) ++ bH)) else (none))) else (none)) else (none))) else (none)) else (none))) else (none)) = some r := H
 have A2 := ae.mk A20
 clear A20
 by_cases c3 : bR.size + 1 ≤ 9223372036854775807
 ·rw [if_pos c3] at H
  have gN := eq_true c3
  have jk : decide (bR.size + 1 ≤ 9223372036854775807) = true := decide_eq_true c3
  try have zm : (9223372036854775807 < bR.size + 1) = False := eq_false (Nat.not_lt.2 c3)
  replace H := Option.bind_eq_some_iff.mp H
  obtain ⟨aJ, A40, H⟩ := H
  replace H : (if (bR ++ (⟨#[46]⟩ : ByteArray)).size + aJ.size ≤ 9223372036854775807 then (if ((bR ++ (⟨#[46]⟩ : ByteArray)) ++ aJ).size + 1 ≤ 9223372036854775807 then ((aM.f k ((Int.tdiv a0 256) % 256)).bind fun bJ => (if (((bR ++ (⟨#[46]⟩ : ByteArray)) ++ aJ) ++ (⟨#[46]⟩ : ByteArray)).size + bJ.size ≤ 9223372036854775807 then (if ((((bR ++ (⟨#[46]⟩ : ByteArray)) ++ aJ) ++ (⟨#[46]⟩ : ByteArray)) ++ bJ).size + 1 ≤ 9223372036854775807 then ((aM.f k (wrap64 (Int.tmod a0 256))).bind fun bH => (if (((((bR ++ (⟨#[46]⟩ : ByteArray)) ++ aJ) ++ (⟨#[46]⟩ : ByteArray)) ++ bJ) ++ (⟨#[46]⟩ : ByteArray)).size + bH.size ≤ 9223372036854775807 then (some ((((((bR ++ (⟨#[46]⟩ : ByteArray)) ++ aJ) ++ (⟨#[46]⟩ : ByteArray)) ++ bJ) ++ (⟨#[46]⟩ : ByteArray)) ++ bH)) else (none))) else (none)) else (none))) else (none)) else (none)) = some r := H
  have A4 := ae.mk A40
  clear A40
  by_cases c5 : (bR ++ (⟨#[46]⟩ : ByteArray)).size + aJ.size ≤ 9223372036854775807
  ·rw [if_pos c5] at H
   have jG := eq_true c5
   have lS : decide ((bR ++ (⟨#[46]⟩ : ByteArray)).size + aJ.size ≤ 9223372036854775807) = true := decide_eq_true c5
   try have tJ : (9223372036854775807 < (bR ++ (⟨#[46]⟩ : ByteArray)).size + aJ.size) = False := eq_false (Nat.not_lt.2 c5)
   (try (have BL : (9223372036854775807 < bR.size + 1 + aJ.size) = False := eq_false (Nat.not_lt.2 (by have h_ := lS; simp only [ByteArray.size_append, decide_eq_true_eq] at h_; first | exact h_ | (simp at h_; omega)))))
   by_cases c6 : ((bR ++ (⟨#[46]⟩ : ByteArray)) ++ aJ).size + 1 ≤ 9223372036854775807
   ·rw [if_pos c6] at H
    have kE := eq_true c6
    have tK : decide (((bR ++ (⟨#[46]⟩ : ByteArray)) ++ aJ).size + 1 ≤ 9223372036854775807) = true := decide_eq_true c6
    try have zn : (9223372036854775807 < ((bR ++ (⟨#[46]⟩ : ByteArray)) ++ aJ).size + 1) = False := eq_false (Nat.not_lt.2 c6)
    (try (have BM : (9223372036854775807 < bR.size + 1 + aJ.size + 1) = False := eq_false (Nat.not_lt.2 (by have h_ := tK; simp only [ByteArray.size_append, decide_eq_true_eq] at h_; first | exact h_ | (simp at h_; omega)))))
    replace H := Option.bind_eq_some_iff.mp H
    obtain ⟨bJ, A70, H⟩ := H
    replace H : (if (((bR ++ (⟨#[46]⟩ : ByteArray)) ++ aJ) ++ (⟨#[46]⟩ : ByteArray)).size + bJ.size ≤ 9223372036854775807 then (if ((((bR ++ (⟨#[46]⟩ : ByteArray)) ++ aJ) ++ (⟨#[46]⟩ : ByteArray)) ++ bJ).size + 1 ≤ 9223372036854775807 then ((aM.f k (wrap64 (Int.tmod a0 256))).bind fun bH => (if (((((bR ++ (⟨#[46]⟩ : ByteArray)) ++ aJ) ++ (⟨#[46]⟩ : ByteArray)) ++ bJ) ++ (⟨#[46]⟩ : ByteArray)).size + bH.size ≤ 9223372036854775807 then (some ((((((bR ++ (⟨#[46]⟩ : ByteArray)) ++ aJ) ++ (⟨#[46]⟩ : ByteArray)) ++ bJ) ++ (⟨#[46]⟩ : ByteArray)) ++ bH)) else (none))) else (none)) else (none)) = some r := H
    have A7 := ae.mk A70
    clear A70
    by_cases c8 : (((bR ++ (⟨#[46]⟩ : ByteArray)) ++ aJ) ++ (⟨#[46]⟩ : ByteArray)).size + bJ.size ≤ 9223372036854775807
    ·rw [if_pos c8] at H
     have kK := eq_true c8
     have tL : decide ((((bR ++ (⟨#[46]⟩ : ByteArray)) ++ aJ) ++ (⟨#[46]⟩ : ByteArray)).size + bJ.size ≤ 9223372036854775807) = true := decide_eq_true c8
     try have BN : (9223372036854775807 < (((bR ++ (⟨#[46]⟩ : ByteArray)) ++ aJ) ++ (⟨#[46]⟩ : ByteArray)).size + bJ.size) = False := eq_false (Nat.not_lt.2 c8)
     (try (have BO : (9223372036854775807 < bR.size + 1 + aJ.size + 1 + bJ.size) = False := eq_false (Nat.not_lt.2 (by have h_ := tL; simp only [ByteArray.size_append, decide_eq_true_eq] at h_; first | exact h_ | (simp at h_; omega)))))
     by_cases c9 : ((((bR ++ (⟨#[46]⟩ : ByteArray)) ++ aJ) ++ (⟨#[46]⟩ : ByteArray)) ++ bJ).size + 1 ≤ 9223372036854775807
     ·rw [if_pos c9] at H
      have lT := eq_true c9
      have rV : decide (((((bR ++ (⟨#[46]⟩ : ByteArray)) ++ aJ) ++ (⟨#[46]⟩ : ByteArray)) ++ bJ).size + 1 ≤ 9223372036854775807) = true := decide_eq_true c9
      try have BP : (9223372036854775807 < ((((bR ++ (⟨#[46]⟩ : ByteArray)) ++ aJ) ++ (⟨#[46]⟩ : ByteArray)) ++ bJ).size + 1) = False := eq_false (Nat.not_lt.2 c9)
      (try (have BQ : (9223372036854775807 < bR.size + 1 + aJ.size + 1 + bJ.size + 1) = False := eq_false (Nat.not_lt.2 (by have h_ := rV; simp only [ByteArray.size_append, decide_eq_true_eq] at h_; first | exact h_ | (simp at h_; omega)))))
      replace H := Option.bind_eq_some_iff.mp H
      obtain ⟨bH, A100, H⟩ := H
      replace H : (if (((((bR ++ (⟨#[46]⟩ : ByteArray)) ++ aJ) ++ (⟨#[46]⟩ : ByteArray)) ++ bJ) ++ (⟨#[46]⟩ : ByteArray)).size + bH.size ≤ 9223372036854775807 then (some ((((((bR ++ (⟨#[46]⟩ : ByteArray)) ++ aJ) ++ (⟨#[46]⟩ : ByteArray)) ++ bJ) ++ (⟨#[46]⟩ : ByteArray)) ++ bH)) else (none)) = some r := H
      have A10 := ae.mk A100
      clear A100
      by_cases c11 : (((((bR ++ (⟨#[46]⟩ : ByteArray)) ++ aJ) ++ (⟨#[46]⟩ : ByteArray)) ++ bJ) ++ (⟨#[46]⟩ : ByteArray)).size + bH.size ≤ 9223372036854775807
      ·rw [if_pos c11] at H
       have lq := eq_true c11
       have wJ : decide ((((((bR ++ (⟨#[46]⟩ : ByteArray)) ++ aJ) ++ (⟨#[46]⟩ : ByteArray)) ++ bJ) ++ (⟨#[46]⟩ : ByteArray)).size + bH.size ≤ 9223372036854775807) = true := decide_eq_true c11
       try have zO : (9223372036854775807 < (((((bR ++ (⟨#[46]⟩ : ByteArray)) ++ aJ) ++ (⟨#[46]⟩ : ByteArray)) ++ bJ) ++ (⟨#[46]⟩ : ByteArray)).size + bH.size) = False := eq_false (Nat.not_lt.2 c11)
       (try (have Da : (9223372036854775807 < bR.size + 1 + aJ.size + 1 + bJ.size + 1 + bH.size) = False := eq_false (Nat.not_lt.2 (by have h_ := wJ; simp only [ByteArray.size_append, decide_eq_true_eq] at h_; first | exact h_ | (simp at h_; omega)))))
       obtain rfl := Option.some.inj H
       go_enter Tryz.func60, Tryz.ntmps60
       go_wp2_with (first | ((with_reducible refine aH (f := 37) rfl ?_); refine bN (some 6) rfl rfl Tryz.func37 (by kernel_rfl) rfl #[.int .i64 ((Int.tdiv a0 16777216) % 4294967296)] rfl qt ?_; (with_reducible refine (aM.calls k ((Int.tdiv a0 16777216) % 4294967296) bR _ A2.out).mono ?_); rintro e w12 ⟨rfl, hb⟩; refine ⟨_, rfl, ?_⟩; replace HB := ae.mk (aj (qw HB) hb); (try clear hb); (try clear hb2); (try clear hk); (try clear hi)) | ((with_reducible refine aH (f := 37) rfl ?_); refine bN (some 12) rfl rfl Tryz.func37 (by kernel_rfl) rfl #[.int .i64 ((Int.tdiv a0 65536) % 256)] rfl qt ?_; (with_reducible refine (aM.calls k ((Int.tdiv a0 65536) % 256) aJ _ A4.out).mono ?_); rintro e w13 ⟨rfl, hb⟩; refine ⟨_, rfl, ?_⟩; replace HB := ae.mk (aj (qw HB) hb); (try clear hb); (try clear hb2); (try clear hk); (try clear hi)) | ((with_reducible refine aH (f := 37) rfl ?_); refine bN (some 19) rfl rfl Tryz.func37 (by kernel_rfl) rfl #[.int .i64 ((Int.tdiv a0 256) % 256)] rfl qt ?_; (with_reducible refine (aM.calls k ((Int.tdiv a0 256) % 256) bJ _ A7.out).mono ?_); rintro e w14 ⟨rfl, hb⟩; refine ⟨_, rfl, ?_⟩; replace HB := ae.mk (aj (qw HB) hb); (try clear hb); (try clear hb2); (try clear hk); (try clear hi)) | ((with_reducible refine aH (f := 37) rfl ?_); refine bN (some 25) rfl rfl Tryz.func37 (by kernel_rfl) rfl #[.int .i64 (wrap64 (Int.tmod a0 256))] rfl qt ?_; (with_reducible refine (aM.calls k (wrap64 (Int.tmod a0 256)) bH _ A10.out).mono ?_); rintro e w15 ⟨rfl, hb⟩; refine ⟨_, rfl, ?_⟩; replace HB := ae.mk (aj (qw HB) hb); (try clear hb); (try clear hb2); (try clear hk); (try clear hi)))
       go_ret
       exact ⟨by first | rfl | (simp [errW_none, errW_some] <;> rfl) | (simp [*, errW_none, errW_some] <;> rfl), by repeat (first | (with_reducible first | exact HB.out | apply au | apply ai | apply ak) | exact HB.out)⟩
      ·rw [if_neg c11] at H
       exact absurd H (by simp)
     ·rw [if_neg c9] at H
      exact absurd H (by simp)
    ·rw [if_neg c8] at H
     exact absurd H (by simp)
   ·rw [if_neg c6] at H
    exact absurd H (by simp)
  ·rw [if_neg c5] at H
   exact absurd H (by simp)
 ·rw [if_neg c3] at H
  exact absurd H (by simp)
end Go.Proofs.YteidaijpaijgpaaGreatDoor.P
end
section
namespace Go.Proofs.YteidaijpaijgpaaGreatDoor.P
open Go.RowKit Go.Proofs.YteidaijpaijgpaaGreatDoorW.ay Go.Proofs.YteidaijpaijgpaaGreatDoorW.aQ Go.Proofs.YteidaijpaijgpaaGreatDoorW.aZ
attribute [local go_sem] bz bA bP bQ bq bu bB bC
set_option linter.unusedVariables false
set_option linter.unusedSimpArgs false
def dU.f (k : Nat) (aD : Int) (aA : Int) : Option (ByteArray) := (gH.f k aD aA).bind fun aJ => (if aJ = true then ((dw.f k aD).bind fun bJ => (if bJ.size + 1 ≤ 9223372036854775807 then ((aM.f k aA).bind fun bH => (if (bJ ++ (⟨#[47]⟩ : ByteArray)).size + bH.size ≤ 9223372036854775807 then (some ((bJ ++ (⟨#[47]⟩ : ByteArray)) ++ bH)) else (none))) else (none))) else (some (⟨#[]⟩ : ByteArray)))
def dU.T3 : Bool × List (List Nat × List Nat) := (true, [([], []), ([0], [0]), ([1], [1]), ([2], [2]), ([], []), ([4], [4]), ([5, 2], [5]), ([3, 6], [3, 6]), ([7, 6, 0, 1, 2, 3, 4, 5, 6, 7], [7])])
def dU.B3 : List Nat := [0, 1, 3, 7, 0, 16, 55, 127, 255]
theorem dU.tN : iV .any (opsOf Tryz.f30 3) = dU.T3 := by kernel_rfl
theorem dU.pG : iA dU.T3.2 dU.B3 = true := by kernel_rfl
set_option maxHeartbeats 8000000 in
set_option maxRecDepth 100000 in
theorem dU.calls (k : Nat) (aD : Int) (aA : Int) (r : ByteArray) (w : World) (h : dU.f k aD aA = some r) :
  Calls Tryz.prog 30 #[.agg #[.int .u32 aD, .int .i64 aA]] w fun e w' => e = .returned (.string r) ∧ Below w.heap.size w w' := by
 have hu25 := Tryz.underlying25
 have HB := ae.mk (Below.refl w.heap.size w)
 have H : ((gH.f k aD aA).bind fun aJ => (if aJ = true then ((dw.f k aD).bind fun bJ => (if bJ.size + 1 ≤ 9223372036854775807 then ((aM.f k aA).bind fun bH => (if (bJ ++ (⟨#[47]⟩ : ByteArray)).size + bH.size ≤ 9223372036854775807 then (some ((bJ ++ (⟨#[47]⟩ : ByteArray)) ++ bH)) else (none))) else (none))) else (some (⟨#[]⟩ : ByteArray)))) = some r := h
 clear h
 replace H := Option.bind_eq_some_iff.mp H
 obtain ⟨aJ, A20, H⟩ := H
 replace H : (if aJ = true then ((dw.f k aD).bind fun bJ => (if bJ.size + 1 ≤ 9223372036854775807 then ((aM.f k aA).bind fun bH => (if (bJ ++ (⟨#[47]⟩ : ByteArray)).size + bH.size ≤ 9223372036854775807 then (some ((bJ ++ (⟨#[47]⟩ : ByteArray)) ++ bH)) else (none))) else (none))) else (some (⟨#[]⟩ : ByteArray))) = some r := H
 have A2 := ae.mk A20
 clear A20
 by_cases c3 : aJ = true
 ·subst c3
  have H1 : ((dw.f k aD).bind fun bJ => (if bJ.size + 1 ≤ 9223372036854775807 then ((aM.f k aA).bind fun bH => (if (bJ ++ (⟨#[47]⟩ : ByteArray)).size + bH.size ≤ 9223372036854775807 then (some ((bJ ++ (⟨#[47]⟩ : ByteArray)) ++ bH)) else (none))) else (none))) = some r := by rw [if_pos rfl] at H; exact H
  clear H
  have H := H1
  clear H1
  replace H := Option.bind_eq_some_iff.mp H
  obtain ⟨bJ, A40, H⟩ := H
  replace H : (if bJ.size + 1 ≤ 9223372036854775807 then ((aM.f k aA).bind fun bH => (if (bJ ++ (⟨#[47]⟩ : ByteArray)).size + bH.size ≤ 9223372036854775807 then (some ((bJ ++ (⟨#[47]⟩ : ByteArray)) ++ bH)) else (none))) else (none)) = some r := H
  have A4 := ae.mk A40
  clear A40
  by_cases c5 : bJ.size + 1 ≤ 9223372036854775807
  ·rw [if_pos c5] at H
   have jG := eq_true c5
   have lS : decide (bJ.size + 1 ≤ 9223372036854775807) = true := decide_eq_true c5
   try have tJ : (9223372036854775807 < bJ.size + 1) = False := eq_false (Nat.not_lt.2 c5)
   replace H := Option.bind_eq_some_iff.mp H
   obtain ⟨bH, A60, H⟩ := H
   replace H : (if (bJ ++ (⟨#[47]⟩ : ByteArray)).size + bH.size ≤ 9223372036854775807 then (some ((bJ ++ (⟨#[47]⟩ : ByteArray)) ++ bH)) else (none)) = some r := H
   have A6 := ae.mk A60
   clear A60
   by_cases c7 : (bJ ++ (⟨#[47]⟩ : ByteArray)).size + bH.size ≤ 9223372036854775807
   ·rw [if_pos c7] at H
    have jg := eq_true c7
    have oq : decide ((bJ ++ (⟨#[47]⟩ : ByteArray)).size + bH.size ≤ 9223372036854775807) = true := decide_eq_true c7
    try have xX : (9223372036854775807 < (bJ ++ (⟨#[47]⟩ : ByteArray)).size + bH.size) = False := eq_false (Nat.not_lt.2 c7)
    (try (have zP : (9223372036854775807 < bJ.size + 1 + bH.size) = False := eq_false (Nat.not_lt.2 (by have h_ := oq; simp only [ByteArray.size_append, decide_eq_true_eq] at h_; first | exact h_ | (simp at h_; omega)))))
    obtain rfl := Option.some.inj H
    go_enter Tryz.func30, Tryz.ntmps30
    try go_wp2_with (first | ((with_reducible refine bg (N := 1) rfl ?_); refine bE ?hg (N := 1) ?hd (cs := #[.int .u32 aD, .int .i64 aA]) (t := 25) ?hr ?_; (case hd => rfl); (case hg => rfl); (case hr => first | (go_simp; done) | (go_simp; rfl)); intro av hg w8 hbox hb; have ag := ae.mk (hbox); have GW101 := qge HB hg; have dh := qge HB hg; replace HB := ae.mk (aj (qw HB) hb); clear hb hbox hg; have hcz9_0 : w8.cell? ⟨av, 0, none⟩ = some (.int .u32 aD) := (af ag.out 0).trans rfl; have hcz9_1 : w8.cell? ⟨av, 1, none⟩ = some (.int .i64 aA) := (af ag.out 1).trans rfl; have hfz9_0 := ah ag.out 0; have hfz9_1 := ah ag.out 1) | ((with_reducible refine aH (f := 59) rfl ?_); refine bN (some 4) rfl rfl Tryz.func59 (by kernel_rfl) rfl #[.agg #[.int .u32 aD, .int .i64 aA]] rfl qt ?_; (with_reducible refine (gH.calls k aD aA true _ A2.out).mono ?_); rintro e w10 ⟨rfl, hb⟩; refine ⟨_, rfl, ?_⟩; replace ag := qbb ag hb; replace HB := ae.mk (aj (qw HB) hb); (try clear hb); (try clear hb2); (try clear hk); (try clear hi)))
    replace ag := ae.mk (dQ ag.out)
    replace HB := ae.mk (ak HB.out)
    refine iP (n := 9) (S := fun w' => w'.cell? ⟨av, 0, none⟩ = some (.int .u32 aD) ∧ w'.cell? ⟨av, 1, none⟩ = some (.int .i64 aA)) (ds := []) #[bF,bF,bF,bF,bF,bF,bF,bF,bF] (by kernel_rfl) rfl rfl ⟨(af ag.out 0).trans rfl, (af ag.out 1).trans rfl⟩ (fun hHeld => ?_); refine fV dU.tN dU.pG (fun HT_ HW_ => ?_)
    generalize w10.drew = w11 at ag HB hHeld ⊢
    refine bL 0 (some 6) HT_ ?_
    refine bL 4 (some 10) HT_ ?_
    refine fI 1 (some 7) HT_ HW_ hHeld ?_
    refine fI 5 (some 11) HT_ HW_ hHeld ?_
    refine iW 2 (some 8) HT_ (fun K hK => ?_)
    refine gX Tryz.func60 #[.int .u32 aD] ?_
    with_reducible refine (dw.calls k aD bJ _ A4.out).mono ?_
    rintro e w12 ⟨rfl, hb⟩
    refine ⟨_, rfl, ?_⟩
    replace ag := qbb ag hb
    replace HB := ae.mk (aj (qw HB) hb)
    (try clear hb)
    (try clear hb2)
    (try clear hk)
    (try clear hi)
    refine hK.out _ _ ⟨(af ag.out 0).trans rfl, (af ag.out 1).trans rfl⟩ (fun hHeld => ?_)
    clear hK K
    refine gD (some 8) ?_
    refine bL 3 (some 9) HT_ ?_
    refine iW 6 (some 12) HT_ (fun K hK => ?_)
    refine gX Tryz.func37 #[.int .i64 aA] ?_
    with_reducible refine (aM.calls k aA bH _ A6.out).mono ?_
    rintro e w13 ⟨rfl, hb⟩
    refine ⟨_, rfl, ?_⟩
    replace ag := qbb ag hb
    replace HB := ae.mk (aj (qw HB) hb)
    (try clear hb)
    (try clear hb2)
    (try clear hk)
    (try clear hi)
    refine hK.out _ _ ⟨(af ag.out 0).trans rfl, (af ag.out 1).trans rfl⟩ (fun hHeld => ?_)
    clear hK K
    refine gD (some 12) ?_
    refine bL 7 (some 13) HT_ ?_
    refine bL 8 (some 2) HT_ ?_
    refine jI HT_ ?_
    try go_wp2
    go_ret
    exact ⟨by first | rfl | (simp [errW_none, errW_some] <;> rfl) | (simp [*, errW_none, errW_some] <;> rfl), by repeat (first | (with_reducible first | exact HB.out | apply au | apply ai | apply ak | refine bn ?_ dh.out) | exact HB.out)⟩
   ·rw [if_neg c7] at H
    exact absurd H (by simp)
  ·rw [if_neg c5] at H
   exact absurd H (by simp)
 ·replace c3 := Bool.eq_false_iff.mpr c3
  subst c3
  have H1 : (some (⟨#[]⟩ : ByteArray)) = some r := by rw [if_neg (show ¬ (false = true) by decide)] at H; exact H
  clear H
  have H := H1
  clear H1
  obtain rfl := Option.some.inj H
  go_enter Tryz.func30, Tryz.ntmps30
  go_wp2_with (first | ((with_reducible refine bg (N := 1) rfl ?_); refine bE ?hg (N := 1) ?hd (cs := #[.int .u32 aD, .int .i64 aA]) (t := 25) ?hr ?_; (case hd => rfl); (case hg => rfl); (case hr => first | (go_simp; done) | (go_simp; rfl)); intro av hg w14 hbox hb; have ag := ae.mk (hbox); have GW101 := qge HB hg; have dh := qge HB hg; replace HB := ae.mk (aj (qw HB) hb); clear hb hbox hg; have hcz15_0 : w14.cell? ⟨av, 0, none⟩ = some (.int .u32 aD) := (af ag.out 0).trans rfl; have hcz15_1 : w14.cell? ⟨av, 1, none⟩ = some (.int .i64 aA) := (af ag.out 1).trans rfl; have hfz15_0 := ah ag.out 0; have hfz15_1 := ah ag.out 1) | ((with_reducible refine aH (f := 59) rfl ?_); refine bN (some 4) rfl rfl Tryz.func59 (by kernel_rfl) rfl #[.agg #[.int .u32 aD, .int .i64 aA]] rfl qt ?_; (with_reducible refine (gH.calls k aD aA false _ A2.out).mono ?_); rintro e w16 ⟨rfl, hb⟩; refine ⟨_, rfl, ?_⟩; replace ag := qbb ag hb; replace HB := ae.mk (aj (qw HB) hb); (try clear hb); (try clear hb2); (try clear hk); (try clear hi)))
  go_ret
  exact ⟨by first | rfl | (simp [errW_none, errW_some] <;> rfl) | (simp [*, errW_none, errW_some] <;> rfl), by repeat (first | (with_reducible first | exact HB.out | apply au | apply ai | apply ak | refine bn ?_ dh.out) | exact HB.out)⟩
end Go.Proofs.YteidaijpaijgpaaGreatDoor.P
end
section
namespace Go.Proofs
open Go.RowKit Go.Lib Go.Sort
open Go.Shelf
def Tryz.nY : Go.Shelf.Ren := ⟨fun | 169 => 47 | n => n, fun | 70 => 97 | 9 => 9 | 0 => 0 | 72 => 100 | 37 => 98 | 127 => 138 | 3 => 3 | 5 => 5 | n => n, fun | n => n⟩
theorem Tryz.uB : Go.Proofs.Lays.n169 Tryz.prog Tryz.nY := {
  mixed := by kernel_rfl
  f169 := Tryz.func47.trans (congrArg some (by kernel_rfl))
  t0 := Tryz.underlying0
  a0 := Tryz.isAgg0
  z0 := Tryz.sizeOf0
  v0 := Tryz.zeroValue0
  t3 := Tryz.underlying3
  a3 := Tryz.isAgg3
  z3 := Tryz.sizeOf3
  v3 := Tryz.zeroValue3
  t9 := Tryz.underlying9
  a9 := Tryz.isAgg9
  z9 := Tryz.sizeOf9
  v9 := Tryz.zeroValue9
  t37 := Tryz.underlying98
  a37 := Tryz.isAgg98
  z37 := Tryz.sizeOf98
  v37 := Tryz.zeroValue98
  t70 := Tryz.underlying97
  a70 := Tryz.isAgg97
  z70 := Tryz.sizeOf97
  v70 := Tryz.zeroValue97
  t72 := Tryz.underlying100
  a72 := Tryz.isAgg100
  z72 := Tryz.sizeOf100
  v72 := Tryz.zeroValue100
  t127 := Tryz.underlying138
  a127 := Tryz.isAgg138
  z127 := Tryz.sizeOf138
  v127 := Tryz.zeroValue138 }
theorem Tryz.kQ : Builder.Extra Tryz.prog Tryz.nY := {
  sizeBuilder := by kernel_rfl
  liesBuilder := by kernel_rfl
  t5 := Tryz.underlying5
  a5 := Tryz.isAgg5
  z5 := Tryz.sizeOf5
  v5 := Tryz.zeroValue5
  infoByte := by kernel_rfl
  cellsByte := by kernel_rfl
  sizeByte := by kernel_rfl
  neB5 := by decide }
theorem Tryz.Builder_String_any (B b : Nat) (l : List UInt8) (w : World) (h : Lib.IsBuilder 100 5 B b (Lib.byteCells l) w) (hBw : B ≤ w.heap.size) :
    Calls Tryz.prog 47 #[.pointer (some ⟨b, 0, none⟩)] w fun e w' => e = .returned (.string ⟨l.toArray⟩) ∧ Below B w w' := Any.Builder_String_any Tryz.uB Tryz.kQ B b l w h hBw
def Tryz.kR : Go.Shelf.Ren := ⟨fun | 156 => 26 | 165 => 45 | 166 => 46 | 169 => 47 | 240 => 83 | 241 => 84 | 276 => 105 | 277 => 106 | n => n, fun | 31 => 40 | 9 => 9 | 3 => 3 | 4 => 4 | 0 => 0 | 20 => 20 | 72 => 100 | 76 => 104 | 70 => 97 | 37 => 98 | 75 => 103 | 127 => 138 | 164 => 160 | 5 => 5 | 80 => 106 | n => n, fun | n => n⟩
theorem Tryz.oK : Go.Proofs.Lays.n156 Tryz.prog Tryz.kR := {
  mixed := by kernel_rfl
  f156 := Tryz.func26.trans (congrArg some (by kernel_rfl))
  f165 := Tryz.func45.trans (congrArg some (by kernel_rfl))
  f166 := Tryz.func46.trans (congrArg some (by kernel_rfl))
  f169 := Tryz.func47.trans (congrArg some (by kernel_rfl))
  f240 := Tryz.func83.trans (congrArg some (by kernel_rfl))
  f241 := Tryz.func84.trans (congrArg some (by kernel_rfl))
  f276 := Tryz.func105.trans (congrArg some (by kernel_rfl))
  f277 := Tryz.func106.trans (congrArg some (by kernel_rfl))
  t0 := Tryz.underlying0
  a0 := Tryz.isAgg0
  z0 := Tryz.sizeOf0
  v0 := Tryz.zeroValue0
  t3 := Tryz.underlying3
  a3 := Tryz.isAgg3
  z3 := Tryz.sizeOf3
  v3 := Tryz.zeroValue3
  t4 := Tryz.underlying4
  a4 := Tryz.isAgg4
  z4 := Tryz.sizeOf4
  v4 := Tryz.zeroValue4
  t9 := Tryz.underlying9
  a9 := Tryz.isAgg9
  z9 := Tryz.sizeOf9
  v9 := Tryz.zeroValue9
  t20 := Tryz.underlying20
  a20 := Tryz.isAgg20
  z20 := Tryz.sizeOf20
  v20 := Tryz.zeroValue20
  t31 := Tryz.underlying40
  a31 := Tryz.isAgg40
  z31 := Tryz.sizeOf40
  v31 := Tryz.zeroValue40
  t37 := Tryz.underlying98
  a37 := Tryz.isAgg98
  z37 := Tryz.sizeOf98
  v37 := Tryz.zeroValue98
  t70 := Tryz.underlying97
  a70 := Tryz.isAgg97
  z70 := Tryz.sizeOf97
  v70 := Tryz.zeroValue97
  t72 := Tryz.underlying100
  a72 := Tryz.isAgg100
  z72 := Tryz.sizeOf100
  v72 := Tryz.zeroValue100
  t75 := Tryz.underlying103
  a75 := Tryz.isAgg103
  z75 := Tryz.sizeOf103
  v75 := Tryz.zeroValue103
  t76 := Tryz.underlying104
  a76 := Tryz.isAgg104
  z76 := Tryz.sizeOf104
  v76 := Tryz.zeroValue104
  t127 := Tryz.underlying138
  a127 := Tryz.isAgg138
  z127 := Tryz.sizeOf138
  v127 := Tryz.zeroValue138
  t164 := Tryz.underlying160
  a164 := Tryz.isAgg160
  z164 := Tryz.sizeOf160
  v164 := Tryz.zeroValue160 }
theorem Tryz.jd : Builder.Extra Tryz.prog Tryz.kR := {
  sizeBuilder := by kernel_rfl
  liesBuilder := by kernel_rfl
  t5 := Tryz.underlying5
  a5 := Tryz.isAgg5
  z5 := Tryz.sizeOf5
  v5 := Tryz.zeroValue5
  infoByte := by kernel_rfl
  cellsByte := by kernel_rfl
  sizeByte := by kernel_rfl
  neB5 := by decide }
theorem Tryz.strings_Join_none (a : Option Addr) (c : Nat) (sep : ByteArray) (w : World) :
    Calls Tryz.prog 26 #[.slice a 0 c, .string sep] w fun e w' => e = .returned (.string ⟨#[]⟩) ∧ w' = w := Any.strings_Join_none Tryz.oK Tryz.jd a c sep w
theorem Tryz.strings_Join (bk o c : Nat) (xs : List ByteArray) (sep : ByteArray) (w : World) (hcells : ∀ (j : Nat) x, xs[j]? = some x → w.cell? ⟨bk, o + j, none⟩ = some (.string x)) (hbk : bk < w.heap.size) (hN : xs.length ≤ 140737488355328) (hcap : xs.length ≤ c) (hlen : (Lib.join (xs.map (·.data.toList)) sep.data.toList).length ≤ 140737488355328) :
    Calls Tryz.prog 26 #[.slice (some ⟨bk, o, none⟩) xs.length c, .string sep] w fun e w' => e = .returned (.string ⟨(Lib.join (xs.map (·.data.toList)) sep.data.toList).toArray⟩) ∧ Below w.heap.size w w' := Any.strings_Join Tryz.oK Tryz.jd bk o c xs sep w hcells hbk hN hcap hlen
def Tryz.rX : Go.Shelf.Ren := ⟨fun | 161 => 128 | 231 => 135 | 227 => 136 | 233 => 137 | 235 => 138 | 228 => 141 | 197 => 142 | 151 => 143 | 260 => 144 | 152 => 145 | 137 => 146 | 119 => 147 | 224 => 148 | 225 => 149 | 217 => 150 | 266 => 151 | n => n, fun | 9 => 9 | 4 => 4 | 3 => 3 | 5 => 5 | 117 => 202 | 116 => 201 | 0 => 0 | 124 => 205 | 105 => 208 | 21 => 21 | 119 => 214 | 46 => 173 | 139 => 217 | 138 => 216 | n => n, fun | 3 => 4 | 4 => 5 | n => n⟩
theorem Tryz.xY : Go.Proofs.Lays.n161 Tryz.prog Tryz.rX := {
  mixed := by kernel_rfl
  f119 := Tryz.func147.trans (congrArg some (by kernel_rfl))
  f137 := Tryz.func146.trans (congrArg some (by kernel_rfl))
  f151 := Tryz.func143.trans (congrArg some (by kernel_rfl))
  f152 := Tryz.func145.trans (congrArg some (by kernel_rfl))
  f161 := Tryz.func128.trans (congrArg some (by kernel_rfl))
  f197 := Tryz.func142.trans (congrArg some (by kernel_rfl))
  f217 := Tryz.func150.trans (congrArg some (by kernel_rfl))
  f224 := Tryz.func148.trans (congrArg some (by kernel_rfl))
  f225 := Tryz.func149.trans (congrArg some (by kernel_rfl))
  f227 := Tryz.func136.trans (congrArg some (by kernel_rfl))
  f228 := Tryz.func141.trans (congrArg some (by kernel_rfl))
  f231 := Tryz.func135.trans (congrArg some (by kernel_rfl))
  f233 := Tryz.func137.trans (congrArg some (by kernel_rfl))
  f235 := Tryz.func138.trans (congrArg some (by kernel_rfl))
  f260 := Tryz.func144.trans (congrArg some (by kernel_rfl))
  f266 := Tryz.func151.trans (congrArg some (by kernel_rfl))
  t0 := Tryz.underlying0
  a0 := Tryz.isAgg0
  z0 := Tryz.sizeOf0
  v0 := Tryz.zeroValue0
  t3 := Tryz.underlying3
  a3 := Tryz.isAgg3
  z3 := Tryz.sizeOf3
  v3 := Tryz.zeroValue3
  t4 := Tryz.underlying4
  a4 := Tryz.isAgg4
  z4 := Tryz.sizeOf4
  v4 := Tryz.zeroValue4
  t5 := Tryz.underlying5
  a5 := Tryz.isAgg5
  z5 := Tryz.sizeOf5
  v5 := Tryz.zeroValue5
  t9 := Tryz.underlying9
  a9 := Tryz.isAgg9
  z9 := Tryz.sizeOf9
  v9 := Tryz.zeroValue9
  t21 := Tryz.underlying21
  a21 := Tryz.isAgg21
  z21 := Tryz.sizeOf21
  v21 := Tryz.zeroValue21
  t46 := Tryz.underlying173
  a46 := Tryz.isAgg173
  z46 := Tryz.sizeOf173
  v46 := Tryz.zeroValue173
  t105 := Tryz.underlying208
  a105 := Tryz.isAgg208
  z105 := Tryz.sizeOf208
  v105 := Tryz.zeroValue208
  t116 := Tryz.underlying201
  a116 := Tryz.isAgg201
  z116 := Tryz.sizeOf201
  t117 := Tryz.underlying202
  a117 := Tryz.isAgg202
  z117 := Tryz.sizeOf202
  v117 := Tryz.zeroValue202
  t119 := Tryz.underlying214
  a119 := Tryz.isAgg214
  z119 := Tryz.sizeOf214
  t124 := Tryz.underlying205
  a124 := Tryz.isAgg205
  z124 := Tryz.sizeOf205
  v124 := Tryz.zeroValue205
  t138 := Tryz.underlying216
  a138 := Tryz.isAgg216
  z138 := Tryz.sizeOf216
  v138 := Tryz.zeroValue216
  t139 := Tryz.underlying217
  a139 := Tryz.isAgg217
  z139 := Tryz.sizeOf217
  v139 := Tryz.zeroValue217
  g3 := by kernel_rfl
  g4 := by kernel_rfl }
theorem Tryz.strings_TrimLeft_one (s : ByteArray) (c : UInt8) (hc : c.toNat < 128) (w : World) :
    Calls Tryz.prog 128 #[.string s, .string ⟨#[c]⟩] w fun e w' => e = .returned (.string ⟨(Lib.trimLeftB s.data.toList c).toArray⟩) ∧ w' = w := Any.strings_TrimLeft_one Tryz.xY s c hc w
theorem Tryz.Builder_String_any_k (B b : Nat) (l : List UInt8) (w : World) (h : Lib.IsBuilderF 100 5 B b (Lib.byteCells l) w) (hBw : B ≤ w.heap.size) :
    Calls Tryz.prog 47 #[.pointer (some ⟨b, 0, none⟩)] w fun e w' => e = .returned (.string ⟨l.toArray⟩) ∧ (Lib.IsBuilderF 100 5 B b (Lib.byteCells l) w' ∧ Below B w w' ∧ Lib.OthersKept 5 (some b) w w') := Any.Builder_String_any_k Tryz.uB Tryz.kQ B b l w h hBw
def Tryz.qL : Go.Shelf.Ren := ⟨fun | 171 => 67 | 243 => 96 | 246 => 113 | 283 => 119 | 284 => 120 | 285 => 121 | 286 => 122 | 129 => 130 | 317 => 129 | 318 => 131 | 319 => 132 | 320 => 133 | 337 => 139 | 338 => 140 | n => n, fun | 3 => 3 | 9 => 9 | 2 => 2 | 4 => 4 | 171 => 177 | 0 => 0 | 53 => 96 | 37 => 98 | 5 => 5 | 173 => 180 | 212 => 193 | 51 => 23 | 20 => 20 | 213 => 194 | 46 => 173 | 232 => 211 | 233 => 212 | n => n, fun | 17 => 1 | 18 => 2 | 19 => 3 | n => n⟩
theorem Tryz.wM : Go.Proofs.LaysM.n171 Tryz.prog Tryz.qL := {
  mixed := by kernel_rfl
  f129 := Tryz.func130.trans (congrArg some (by kernel_rfl))
  f171 := Tryz.func67.trans (congrArg some (by kernel_rfl))
  f243 := Tryz.func96.trans (congrArg some (by kernel_rfl))
  f246 := Tryz.func113.trans (congrArg some (by kernel_rfl))
  f283 := Tryz.func119.trans (congrArg some (by kernel_rfl))
  f284 := Tryz.func120.trans (congrArg some (by kernel_rfl))
  f285 := Tryz.func121.trans (congrArg some (by kernel_rfl))
  f286 := Tryz.func122.trans (congrArg some (by kernel_rfl))
  f317 := Tryz.func129.trans (congrArg some (by kernel_rfl))
  f318 := Tryz.func131.trans (congrArg some (by kernel_rfl))
  f319 := Tryz.func132.trans (congrArg some (by kernel_rfl))
  f320 := Tryz.func133.trans (congrArg some (by kernel_rfl))
  f337 := Tryz.func139.trans (congrArg some (by kernel_rfl))
  f338 := Tryz.func140.trans (congrArg some (by kernel_rfl))
  t0 := Tryz.underlying0
  a0 := Tryz.isAgg0
  z0 := Tryz.sizeOf0
  v0 := Tryz.zeroValue0
  t2 := Tryz.underlying2
  a2 := Tryz.isAgg2
  z2 := Tryz.sizeOf2
  v2 := Tryz.zeroValue2
  t3 := Tryz.underlying3
  a3 := Tryz.isAgg3
  z3 := Tryz.sizeOf3
  v3 := Tryz.zeroValue3
  t4 := Tryz.underlying4
  a4 := Tryz.isAgg4
  z4 := Tryz.sizeOf4
  v4 := Tryz.zeroValue4
  t5 := Tryz.underlying5
  a5 := Tryz.isAgg5
  z5 := Tryz.sizeOf5
  v5 := Tryz.zeroValue5
  t9 := Tryz.underlying9
  a9 := Tryz.isAgg9
  z9 := Tryz.sizeOf9
  v9 := Tryz.zeroValue9
  t20 := Tryz.underlying20
  a20 := Tryz.isAgg20
  z20 := Tryz.sizeOf20
  v20 := Tryz.zeroValue20
  t37 := Tryz.underlying98
  a37 := Tryz.isAgg98
  z37 := Tryz.sizeOf98
  v37 := Tryz.zeroValue98
  t46 := Tryz.underlying173
  a46 := Tryz.isAgg173
  z46 := Tryz.sizeOf173
  v46 := Tryz.zeroValue173
  t51 := Tryz.underlying23
  a51 := Tryz.isAgg23
  z51 := Tryz.sizeOf23
  v51 := Tryz.zeroValue23
  t53 := Tryz.underlying96
  a53 := Tryz.isAgg96
  z53 := Tryz.sizeOf96
  v53 := Tryz.zeroValue96
  t171 := Tryz.underlying177
  a171 := Tryz.isAgg177
  z171 := Tryz.sizeOf177
  v171 := Tryz.zeroValue177
  t173 := Tryz.underlying180
  a173 := Tryz.isAgg180
  z173 := Tryz.sizeOf180
  v173 := Tryz.zeroValue180
  t212 := Tryz.underlying193
  a212 := Tryz.isAgg193
  z212 := Tryz.sizeOf193
  v212 := Tryz.zeroValue193
  t213 := Tryz.underlying194
  a213 := Tryz.isAgg194
  z213 := Tryz.sizeOf194
  t232 := Tryz.underlying211
  a232 := Tryz.isAgg211
  z232 := Tryz.sizeOf211
  v232 := Tryz.zeroValue211
  t233 := Tryz.underlying212
  a233 := Tryz.isAgg212
  z233 := Tryz.sizeOf212
  v233 := Tryz.zeroValue212
  g17 := by kernel_rfl
  g18 := by kernel_rfl
  g19 := by kernel_rfl
  i0 := by kernel_rfl
  i2 := by kernel_rfl
  i3 := by kernel_rfl
  i4 := by kernel_rfl
  i5 := by kernel_rfl
  i9 := by kernel_rfl
  i20 := by kernel_rfl
  i37 := by kernel_rfl
  i46 := by kernel_rfl
  i51 := by kernel_rfl
  i53 := by kernel_rfl
  i171 := by kernel_rfl
  i173 := by kernel_rfl
  i212 := by kernel_rfl
  i232 := by kernel_rfl
  i233 := by kernel_rfl
  m17 := by kernel_rfl
  m18 := by kernel_rfl
  m19 := by kernel_rfl }
theorem Tryz.strconv_Itoa (n : Int) (h0 : -9223372036854775808 ≤ n) (h1 : n ≤ 9223372036854775807) (w : World) (htab : Lib.TabIs Tryz.prog w "internal/strconv.uint64pow10" .u64 Lib.pow10Tab) :
    Calls Tryz.prog 67 #[.int .i64 n] w fun e w' => e = .returned (.string ⟨(Lib.itoa n).toArray⟩) ∧ ∃ k os, w' = grow (w.drewN k) os := Any.strconv_Itoa Tryz.wM n h0 h1 w htab
theorem Tryz.Builder_WriteString (B b : Nat) (bs : List Value) (s : ByteArray) (w : World) (h : Lib.IsBuilder 100 5 B b bs w) (hlen : bs.length + s.size ≤ 140737488355328) (hBw : B ≤ w.heap.size) :
    Calls Tryz.prog 46 #[.pointer (some ⟨b, 0, none⟩), .string s] w fun e w' => e = .returned (.tuple #[.int .i64 s.size, .nilIface]) ∧ (Lib.BuilderAt 100 5 B b (.pointer (some ⟨b, 0, none⟩)) (bs ++ Lib.strCells s) w' ∧ Below B w w') := Any.Builder_WriteString (ρ := Tryz.kR) { Tryz.oK with } Tryz.jd B b bs s w h hlen hBw
theorem Tryz.Builder_WriteString_k (B b : Nat) (bs : List Value) (s : ByteArray) (w : World) (h : Lib.IsBuilderF 100 5 B b bs w) (hlen : bs.length + s.size ≤ 140737488355328) (hBw : B ≤ w.heap.size) :
    Calls Tryz.prog 46 #[.pointer (some ⟨b, 0, none⟩), .string s] w fun e w' => e = .returned (.tuple #[.int .i64 s.size, .nilIface]) ∧ (Lib.BuilderAtF 100 5 B b (.pointer (some ⟨b, 0, none⟩)) (bs ++ Lib.strCells s) w' ∧ Below B w w' ∧ Lib.OthersKept 5 (some b) w w') := Any.Builder_WriteString_k (ρ := Tryz.kR) { Tryz.oK with } Tryz.jd B b bs s w h hlen hBw
end Go.Proofs
end
section
namespace Go.Proofs.YteidaijpaijgpaaGreatDoor.P
open Go.RowKit Go.Proofs.YteidaijpaijgpaaGreatDoorW.ay Go.Proofs.YteidaijpaijgpaaGreatDoorW.aQ Go.Proofs.YteidaijpaijgpaaGreatDoorW.aZ
set_option linter.unusedVariables false
def jE (n : Int) : ByteArray := ⟨(Lib.itoa n).toArray⟩
def strconv_Itoa.f (a0 : Int) : Option ByteArray := if -9223372036854775808 ≤ a0 then (if a0 ≤ 9223372036854775807 then some (jE a0) else none) else none
theorem strconv_Itoa.calls (a0 : Int) (r : ByteArray) (w : World) (h : strconv_Itoa.f a0 = some r) (HGT : ae (Go.Proofs.YteidaijpaijgpaaGreatDoorV.GT w)) :
  Calls Tryz.prog 67 #[.int .i64 a0] w fun e w' => e = .returned (.string r) ∧ Below w.heap.size w w' := by
 unfold strconv_Itoa.f at h
 by_cases h1 : -9223372036854775808 ≤ a0
 ·rw [if_pos h1] at h
  by_cases h2 : a0 ≤ 9223372036854775807
  ·rw [if_pos h2] at h
   obtain rfl := Option.some.inj h
   refine (Tryz.strconv_Itoa a0 h1 h2 w HGT.out).mono ?_
   rintro e w' ⟨he, k, os, rfl⟩
   refine ⟨he, rfl, rfl, rfl, ?_, fun k hk => ?_⟩
   ·simp [Sort.grow, World.drewN]
   ·simp only [Sort.grow, World.drewN]; exact Array.getElem?_append_left hk
  ·rw [if_neg h2] at h; cases h
 ·rw [if_neg h1] at h; cases h
end Go.Proofs.YteidaijpaijgpaaGreatDoor.P
end
section
namespace Go.Proofs.YteidaijpaijgpaaGreatDoor.P
open Go.RowKit Go.Proofs.YteidaijpaijgpaaGreatDoorW.ay Go.Proofs.YteidaijpaijgpaaGreatDoorW.aQ Go.Proofs.YteidaijpaijgpaaGreatDoorW.aZ
attribute [local go_sem] bz bA bP bQ bq bu bB bC
set_option linter.unusedVariables false
set_option linter.unusedSimpArgs false
def jS.f (a0 : Int) : Option (Int) := some ((IntKind.u64.wrap (4294967295 * 2 ^ (32 - (mn (mx a0 0) 32)).toNat)) % 4294967296)
set_option maxHeartbeats 8000000 in
set_option maxRecDepth 100000 in
theorem jS.calls (a0 : Int) (r : Int) (w : World) (h : jS.f a0 = some r) :
  Calls Tryz.prog 95 #[.int .i64 a0] w fun e w' => e = .returned (.int .u32 r) ∧ Below w.heap.size w w' := by
 have HB := ae.mk (Below.refl w.heap.size w)
 have H : (some ((IntKind.u64.wrap (4294967295 * 2 ^ (32 - (mn (mx a0 0) 32)).toNat)) % 4294967296)) = some r := h
 clear h
 obtain ⟨ji2, hji2⟩ : ∃ j_ : Int, (mx a0 0) = j_ := ⟨_, rfl⟩
 replace H : (some ((IntKind.u64.wrap (4294967295 * 2 ^ (32 - (mn (ji2) 32)).toNat)) % 4294967296)) = some r := by first | (rw [hji2] at H; exact H) | (simp only [hji2] at H ⊢; exact H)
 (try (have hji2l : 0 ≤ ji2 := by (rw [← hji2]; unfold mx; (repeat' split) <;> omega)))
 (try (have hji2m : 0 ≤ ji2 := by omega))
 have hji2_ : (if a0 < 0 then 0 else a0) = ji2 := hji2
 obtain ⟨ji3, hji3⟩ : ∃ j_ : Int, (mn (ji2) 32) = j_ := ⟨_, rfl⟩
 (try (have hji3r := hji3; simp only [hji2] at hji3r))
 (try (have hji3wr := (jD _).trans hji3r))
 replace H : (some ((IntKind.u64.wrap (4294967295 * 2 ^ (32 - (ji3)).toNat)) % 4294967296)) = some r := by first | (rw [hji3] at H; exact H) | (simp only [hji3] at H ⊢; exact H)
 have hji3_ : (if 32 < (ji2) then 32 else (ji2)) = ji3 := hji3
 obtain rfl := Option.some.inj H
 go_enter Tryz.func95, Tryz.ntmps95
 go_wp2
 go_ret
 exact ⟨by first | rfl | (simp [errW_none, errW_some] <;> rfl) | (simp only [← hji2, ← hji3]; first | rfl | (simp [errW_none, errW_some] <;> rfl)) | (simp [*, errW_none, errW_some] <;> rfl), by repeat (first | (with_reducible first | exact HB.out | apply au | apply ai | apply ak) | exact HB.out)⟩
end Go.Proofs.YteidaijpaijgpaaGreatDoor.P
end
section
namespace Go.Proofs.YteidaijpaijgpaaGreatDoor.P
open Go.RowKit Go.Proofs.YteidaijpaijgpaaGreatDoorW.ay Go.Proofs.YteidaijpaijgpaaGreatDoorW.aQ Go.Proofs.YteidaijpaijgpaaGreatDoorW.aZ
attribute [local go_sem] bz bA bP bQ bq bu bB bC
set_option linter.unusedVariables false
set_option linter.unusedSimpArgs false
def gp.f (aD : Int) (aA : Int) : Option (Bool) := if aA ≥ 0 then (if aA ≤ 32 then ((jS.f aA).bind fun aJ => (some ((Go.bits .andNot .u32 aD aJ) == 0))) else (some false)) else (some false)
def gp.T1 : Bool × List (List Nat × List Nat) := (true, [([], []), ([0], [0]), ([1], [1]), ([2], [2]), ([3], [3]), ([4, 3], [3, 4]), ([5, 3], [3, 5]), ([3, 6], [3, 6]), ([7, 3], [7]), ([8], [8]), ([9, 8], [8, 9]), ([8], [8]), ([11, 8], [8, 11]), ([12, 8, 8], [8, 12]), ([10, 13, 8], [8, 10, 13]), ([14, 8], [8, 14]), ([8, 15], [8, 15]), ([16, 13, 0, 1, 2, 3, 4, 5, 6, 7, 8, 9, 10, 11, 12, 13, 14, 15, 16], [16])])
def gp.B1 : List Nat := [0, 1, 3, 7, 15, 31, 63, 127, 255, 511, 1023, 511, 2559, 6655, 16383, 32767, 65535, 131071]
theorem gp.ou : iV .any (opsOf Tryz.f65 1) = gp.T1 := by kernel_rfl
theorem gp.lN : iA gp.T1.2 gp.B1 = true := by kernel_rfl
set_option maxHeartbeats 8000000 in
set_option maxRecDepth 100000 in
theorem gp.calls (aD : Int) (aA : Int) (r : Bool) (w : World) (h : gp.f aD aA = some r) :
  Calls Tryz.prog 65 #[.agg #[.int .u32 aD, .int .i64 aA]] w fun e w' => e = .returned (.bool r) ∧ Below w.heap.size w w' := by
 have hu25 := Tryz.underlying25
 have HB := ae.mk (Below.refl w.heap.size w)
 have H : (if aA ≥ 0 then (if aA ≤ 32 then ((jS.f aA).bind fun aJ => (some ((Go.bits .andNot .u32 aD aJ) == 0))) else (some false)) else (some false)) = some r := h
 clear h
 by_cases c2 : aA ≥ 0
 ·rw [if_pos c2] at H
  have jF : decide (0 ≤ aA) = true := decide_eq_true c2
  clear c2
  by_cases c3 : aA ≤ 32
  ·rw [if_pos c3] at H
   have gN : decide (aA ≤ 32) = true := decide_eq_true c3
   clear c3
   replace H := Option.bind_eq_some_iff.mp H
   obtain ⟨aJ, A40, H⟩ := H
   replace H : (some ((Go.bits .andNot .u32 aD aJ) == 0)) = some r := H
   have A4 := ae.mk A40
   clear A40
   obtain rfl := Option.some.inj H
   go_enter Tryz.func65, Tryz.ntmps65
   try go_wp2_with (first | ((with_reducible refine bg (N := 1) rfl ?_); refine bE ?hg (N := 1) ?hd (cs := #[.int .u32 aD, .int .i64 aA]) (t := 25) ?hr ?_; (case hd => rfl); (case hg => rfl); (case hr => first | (go_simp; done) | (go_simp; rfl)); intro av hg w5 hbox hb; have ag := ae.mk (hbox); have GW101 := qge HB hg; have dh := qge HB hg; replace HB := ae.mk (aj (qw HB) hb); clear hb hbox hg))
   replace ag := ae.mk (dQ ag.out)
   replace HB := ae.mk (ak HB.out)
   refine iP (n := 18) (S := fun w' => w'.cell? ⟨av, 0, none⟩ = some (.int .u32 aD) ∧ w'.cell? ⟨av, 1, none⟩ = some (.int .i64 aA)) (ds := []) #[bF,bF,bF,bF,bF,bF,bF,bF,bF,bF,bF,bF,bF,bF,bF,bF,bF,bF] (by kernel_rfl) rfl rfl ⟨(af ag.out 0).trans rfl, (af ag.out 1).trans rfl⟩ (fun hHeld => ?_); refine fV gp.ou gp.lN (fun HT_ HW_ => ?_)
   generalize w5.drew = w6 at ag HB hHeld ⊢
   refine bL 0 (some 3) HT_ ?_
   refine fI 1 (some 4) HT_ HW_ hHeld ?_
   refine bL 2 (some 5) HT_ ?_
   refine bL 3 (some 6) HT_ ?_
   refine bL 4 (some 7) HT_ ?_
   refine fI 5 (some 8) HT_ HW_ hHeld ?_
   refine bL 6 (some 9) HT_ ?_
   refine bL 7 (some 10) HT_ ?_
   refine bL 8 (some 11) HT_ ?_
   refine bL 9 (some 12) HT_ ?_
   refine bL 11 (some 14) HT_ ?_
   refine fI 10 (some 13) HT_ HW_ hHeld ?_
   refine fI 12 (some 15) HT_ HW_ hHeld ?_
   refine iW 13 (some 16) HT_ (fun K hK => ?_)
   refine gX Tryz.func95 #[.int .i64 aA] ?_
   with_reducible refine (jS.calls aA aJ _ A4.out).mono ?_
   rintro e w7 ⟨rfl, hb⟩
   refine ⟨_, rfl, ?_⟩
   replace ag := qbb ag hb
   replace HB := ae.mk (aj (qw HB) hb)
   (try clear hb)
   (try clear hb2)
   (try clear hk)
   (try clear hi)
   refine hK.out _ _ ⟨(af ag.out 0).trans rfl, (af ag.out 1).trans rfl⟩ (fun hHeld => ?_)
   clear hK K
   refine gD (some 16) ?_
   refine bL 14 (some 17) HT_ ?_
   refine bL 15 (some 18) HT_ ?_
   refine bL 16 (some 19) HT_ ?_
   refine bL 17 (some 2) HT_ ?_
   refine jI HT_ ?_
   try go_wp2
   go_ret
   exact ⟨by first | rfl | (simp [errW_none, errW_some] <;> rfl) | (simp [*, errW_none, errW_some] <;> rfl), by repeat (first | (with_reducible first | exact HB.out | apply au | apply ai | apply ak | refine bn ?_ dh.out) | exact HB.out)⟩
  ·rw [if_neg c3] at H
   have gN : decide (aA ≤ 32) = false := decide_eq_false c3
   clear c3
   obtain rfl := Option.some.inj H
   go_enter Tryz.func65, Tryz.ntmps65
   try go_wp2_with (first | ((with_reducible refine bg (N := 1) rfl ?_); refine bE ?hg (N := 1) ?hd (cs := #[.int .u32 aD, .int .i64 aA]) (t := 25) ?hr ?_; (case hd => rfl); (case hg => rfl); (case hr => first | (go_simp; done) | (go_simp; rfl)); intro av hg w8 hbox hb; have ag := ae.mk (hbox); have GW101 := qge HB hg; have dh := qge HB hg; replace HB := ae.mk (aj (qw HB) hb); clear hb hbox hg))
   replace ag := ae.mk (dQ ag.out)
   replace HB := ae.mk (ak HB.out)
   refine iP (n := 18) (S := fun w' => w'.cell? ⟨av, 0, none⟩ = some (.int .u32 aD) ∧ w'.cell? ⟨av, 1, none⟩ = some (.int .i64 aA)) (ds := []) #[bF,bF,bF,bF,bF,bF,bF,bF,bF,bF,bF,bF,bF,bF,bF,bF,bF,bF] (by kernel_rfl) rfl rfl ⟨(af ag.out 0).trans rfl, (af ag.out 1).trans rfl⟩ (fun hHeld => ?_); refine fV gp.ou gp.lN (fun HT_ HW_ => ?_)
   generalize w8.drew = w9 at ag HB hHeld ⊢
   refine bL 0 (some 3) HT_ ?_
   refine fI 1 (some 4) HT_ HW_ hHeld ?_
   refine bL 2 (some 5) HT_ ?_
   refine bL 3 (some 6) HT_ ?_
   refine bL 4 (some 7) HT_ ?_
   refine fI 5 (some 8) HT_ HW_ hHeld ?_
   refine bL 6 (some 9) HT_ ?_
   refine bL 7 (some 10) HT_ ?_
   refine bL 8 (some 11) HT_ ?_
   refine jf 9 (some 12) HT_ ?_
   refine jf 10 (some 13) HT_ ?_
   refine jf 11 (some 14) HT_ ?_
   refine jf 12 (some 15) HT_ ?_
   refine jf 13 (some 16) HT_ ?_
   refine jf 14 (some 17) HT_ ?_
   refine jf 15 (some 18) HT_ ?_
   refine bL 16 (some 19) HT_ ?_
   refine bL 17 (some 2) HT_ ?_
   refine jI HT_ ?_
   try go_wp2
   go_ret
   exact ⟨by first | rfl | (simp [errW_none, errW_some] <;> rfl) | (simp [*, errW_none, errW_some] <;> rfl), by repeat (first | (with_reducible first | exact HB.out | apply au | apply ai | apply ak | refine bn ?_ dh.out) | exact HB.out)⟩
 ·rw [if_neg c2] at H
  have jF : decide (0 ≤ aA) = false := decide_eq_false c2
  clear c2
  obtain rfl := Option.some.inj H
  go_enter Tryz.func65, Tryz.ntmps65
  try go_wp2_with (first | ((with_reducible refine bg (N := 1) rfl ?_); refine bE ?hg (N := 1) ?hd (cs := #[.int .u32 aD, .int .i64 aA]) (t := 25) ?hr ?_; (case hd => rfl); (case hg => rfl); (case hr => first | (go_simp; done) | (go_simp; rfl)); intro av hg w10 hbox hb; have ag := ae.mk (hbox); have GW101 := qge HB hg; have dh := qge HB hg; replace HB := ae.mk (aj (qw HB) hb); clear hb hbox hg))
  replace ag := ae.mk (dQ ag.out)
  replace HB := ae.mk (ak HB.out)
  refine iP (n := 18) (S := fun w' => w'.cell? ⟨av, 0, none⟩ = some (.int .u32 aD) ∧ w'.cell? ⟨av, 1, none⟩ = some (.int .i64 aA)) (ds := []) #[bF,bF,bF,bF,bF,bF,bF,bF,bF,bF,bF,bF,bF,bF,bF,bF,bF,bF] (by kernel_rfl) rfl rfl ⟨(af ag.out 0).trans rfl, (af ag.out 1).trans rfl⟩ (fun hHeld => ?_); refine fV gp.ou gp.lN (fun HT_ HW_ => ?_)
  generalize w10.drew = w11 at ag HB hHeld ⊢
  refine bL 0 (some 3) HT_ ?_
  refine fI 1 (some 4) HT_ HW_ hHeld ?_
  refine bL 2 (some 5) HT_ ?_
  refine bL 3 (some 6) HT_ ?_
  refine jf 4 (some 7) HT_ ?_
  refine jf 5 (some 8) HT_ ?_
  refine jf 6 (some 9) HT_ ?_
  refine bL 7 (some 10) HT_ ?_
  refine bL 8 (some 11) HT_ ?_
  refine jf 9 (some 12) HT_ ?_
  refine jf 10 (some 13) HT_ ?_
  refine jf 11 (some 14) HT_ ?_
  refine jf 12 (some 15) HT_ ?_
  refine jf 13 (some 16) HT_ ?_
  refine jf 14 (some 17) HT_ ?_
  refine jf 15 (some 18) HT_ ?_
  refine bL 16 (some 19) HT_ ?_
  refine bL 17 (some 2) HT_ ?_
  refine jI HT_ ?_
  try go_wp2
  go_ret
  exact ⟨by first | rfl | (simp [errW_none, errW_some] <;> rfl) | (simp [*, errW_none, errW_some] <;> rfl), by repeat (first | (with_reducible first | exact HB.out | apply au | apply ai | apply ak | refine bn ?_ dh.out) | exact HB.out)⟩
end Go.Proofs.YteidaijpaijgpaaGreatDoor.P
end
section
namespace Go.Proofs.YteidaijpaijgpaaGreatDoor.P
open Go.RowKit Go.Proofs.YteidaijpaijgpaaGreatDoorW.ay Go.Proofs.YteidaijpaijgpaaGreatDoorW.aQ Go.Proofs.YteidaijpaijgpaaGreatDoorW.aZ
set_option linter.unusedVariables false
def jW (l : List ByteArray) (s : ByteArray) : ByteArray := ⟨(Lib.join (l.map (·.data.toList)) s.data.toList).toArray⟩
def strings_Join.f (l0 : List ByteArray) (a1 : ByteArray) : Option ByteArray := if l0.length ≤ 140737488355328 then (if (Lib.join (l0.map (·.data.toList)) a1.data.toList).length ≤ 140737488355328 then some (jW l0 a1) else none) else none
theorem strings_Join.calls (A0 : Option Addr) (c0 : Nat) (l0 : List ByteArray) (a1 : ByteArray) (r : ByteArray) (w : World) (hr0 : Kd.C Kd.string w A0 l0.length l0) (hc0 : l0.length ≤ c0) (h : strings_Join.f l0 a1 = some r) :
  Calls Tryz.prog 26 #[.slice A0 l0.length c0, .string a1] w fun e w' => e = .returned (.string r) ∧ Below w.heap.size w w' := by
 unfold strings_Join.f at h
 by_cases h1 : l0.length ≤ 140737488355328
 ·rw [if_pos h1] at h
  by_cases h2 : (Lib.join (l0.map (·.data.toList)) a1.data.toList).length ≤ 140737488355328
  ·rw [if_pos h2] at h
   obtain rfl := Option.some.inj h
   cases l0 with
   | nil => exact (Tryz.strings_Join_none A0 c0 a1 w).mono fun e w' ⟨he, hw⟩ => ⟨he, hw ▸ Below.refl _ _⟩
   | cons x l =>
    obtain ⟨_, _, hh⟩ := hr0
    obtain ⟨ad, rfl, hc⟩ := hh (by simp)
    obtain ⟨bk, o, sp⟩ := ad
    have hat : ∀ (j : Nat) y, (x :: l)[j]? = some y → w.cell? ((⟨bk, o, sp⟩ : Addr).add j) = some (.string y) := by
     intro j y hy
     obtain ⟨c, hl, hr, hu⟩ := hc j y hy
     have hr : c = [Value.string y] := hr
     subst hr
     have := hu 0 _ rfl
     simpa [Kd.string, Kd.scalar] using this
    have h0 : w.cell? ⟨bk, o, sp⟩ = some (.string x) := hat 0 x rfl
    have hsp : sp = none := by
     cases sp with
     | none => rfl
     | some z => unfold World.cell? at h0; split at h0 <;> simp at h0
    subst hsp
    have hbk : bk < w.heap.size := by
     unfold World.cell? at h0
     rcases hq : w.heap[bk]? with _ | ob
     ·simp [hq] at h0
     ·exact (Array.getElem?_eq_some_iff.1 hq).1
    refine (Tryz.strings_Join bk o c0 (x :: l) a1 w (fun j y hy => ?_) hbk h1 hc0 h2).mono fun e w' he => he
    have := hat j y hy
    unfold Addr.add at this
    split at this
    ·rename_i hj; subst hj; exact this
    ·exact this
  ·rw [if_neg h2] at h; cases h
 ·rw [if_neg h1] at h; cases h
end Go.Proofs.YteidaijpaijgpaaGreatDoor.P
end
section
namespace Go.Proofs.YteidaijpaijgpaaGreatDoor.P
open Go.RowKit Go.Proofs.YteidaijpaijgpaaGreatDoorW.ay Go.Proofs.YteidaijpaijgpaaGreatDoorW.aQ Go.Proofs.YteidaijpaijgpaaGreatDoorW.aZ
attribute [local go_sem] bz bA bP bQ bq bu bB bC
set_option linter.unusedVariables false
set_option linter.unusedSimpArgs false
def bO.l0 : Nat → Int → List ByteArray → Int → Int → Option (ByteArray)
 | 0, _, _, _, _ => none
 | k + 1, x0, x3, x7, x8 => if x8 < x7 then (if 0 ≤ (wrap64 (8 * (wrap64 (3 - x8)))) then ((strconv_Itoa.f (wrap64 (Go.bits .and .u32 (shr .u32 x0 (wrap64 (8 * (wrap64 (3 - x8))))) 255))).bind fun bH => (if 0 ≤ x8 then (if x8 < (x3.length : Int) then (bO.l0 k x0 (x3.set (x8 : Int).toNat bH) x7 (wrap64 (x8 + 1))) else (none)) else (none))) else (none)) else ((strings_Join.f x3 (⟨#[46]⟩ : ByteArray)).bind fun bG => (some bG))
def bO.f (k : Nat) (a0 : Int) : Option (ByteArray) := if 4 ≤ 17592186044416 then ((some (List.replicate 4 (⟨#[]⟩ : ByteArray) : List ByteArray)).bind fun y101 => (bO.l0 k a0 y101 (y101.length : Int) 0)) else (none)
theorem bO.dF : ∀ k, (∀ y0 y1 y2 y3, LeO (bO.l0 k y0 y1 y2 y3) (bO.l0 (k + 1) y0 y1 y2 y3))
 | 0 => fun _ _ _ _ r h => by simp [bO.l0] at h
 | k + 1 => by
  have ih0 := bO.dF k
  ·intro y0 y1 y2 y3
   unfold bO.l0
   repeat' first
   | (with_reducible exact ih0 _ _ _ _)
   | (with_reducible exact LeO.refl _)
   | (with_reducible exact LeO.none _)
   | (with_reducible refine LeO.ite ?_ ?_)
   | (with_reducible refine LeO.bind ?_ (fun _ => ?_))
   | exact ih0 _ _ _ _
   | exact LeO.none _
   | refine LeO.ite ?_ ?_
   | refine LeO.bind ?_ (fun _ => ?_)
theorem bO.mono : ∀ a0 k, LeO (bO.f k a0) (bO.f (k + 1) a0) := by
 intro a0 k
 have ih0 := bO.dF k
 unfold bO.f
 repeat' first
   | (with_reducible exact ih0 _ _ _ _)
   | (with_reducible exact LeO.refl _)
   | (with_reducible exact LeO.none _)
   | (with_reducible refine LeO.ite ?_ ?_)
   | (with_reducible refine LeO.bind ?_ (fun _ => ?_))
   | exact ih0 _ _ _ _
   | exact LeO.none _
   | refine LeO.ite ?_ ?_
   | refine LeO.bind ?_ (fun _ => ?_)
set_option maxHeartbeats 8000000 in
set_option maxRecDepth 100000 in
theorem bO.calls (k : Nat) (a0 : Int) (r : ByteArray) (w : World) (h : bO.f k a0 = some r) (HGT : ae (Go.Proofs.YteidaijpaijgpaaGreatDoorV.GT w)) :
  Calls Tryz.prog 66 #[.int .u32 a0] w fun e w' => e = .returned (.string r) ∧ Below w.heap.size w w' := by
 have HB := ae.mk (Below.refl w.heap.size w)
 have H : (if 4 ≤ 17592186044416 then ((some (List.replicate 4 (⟨#[]⟩ : ByteArray) : List ByteArray)).bind fun y101 => (bO.l0 k a0 y101 (y101.length : Int) 0)) else (none)) = some r := h
 clear h
 by_cases c2 : 4 ≤ 17592186044416
 ·rw [if_pos c2] at H
  have jF := eq_true c2
  have mI : decide (4 ≤ 17592186044416) = true := decide_eq_true c2
  clear c2
  obtain ⟨y101, hy101⟩ : ∃ y_ : List ByteArray, y_ = (List.replicate 4 (⟨#[]⟩ : ByteArray)) := ⟨_, rfl⟩
  replace H : (bO.l0 k a0 y101 (y101.length : Int) 0) = some r := by first | (rw [hy101]; with_reducible exact H) | (have H2_ := (Option.bind_some _ _).symm.trans H; rw [hy101]; with_reducible exact H2_) | (have H2_ := (Option.bind_some _ _).symm.trans H; with_reducible exact H2_) | with_reducible exact H | (rw [hy101]; exact H) | exact H
  have Ny101 := ae.mk hy101
  clear hy101
  have H' := ae.mk H
  clear H
  go_enter Tryz.func66, Tryz.ntmps66
  go_wp2_with (first | ((with_reducible refine bg (N := 5) rfl ?_); refine Kd.kC Kd.string _ 9 rfl (N := 5) rfl 40 _ _ rfl 4 rfl rfl Tryz.underlying40 (.string ⟨#[]⟩) 16 nC rfl (by decide) (by omega) (⟨#[]⟩ : ByteArray) (ok := fun _ => True) (okp := fun _ => True) rfl (fun _ hk => hk) trivial (by omega) (by omega) (Below.refl _ _) (Nat.le_refl _) ?_; intro v102 w3 ho4 hb hg_ hnew_; clear hg_ hnew_; (first | rw [← Ny101.out] at ho4 | (simp only [Int.reduceToNat] at ho4; rw [← Ny101.out] at ho4)); have eX := ae.mk (Kd.dI ho4 (bi (qw HB))); replace HB := ae.mk (aj (qw HB) hb); clear hb ho4; obtain ⟨Ao5, co5, eo5⟩ := Kd.dM eX.out; subst eo5))
  go_loopg [8] k (fun kq v8 w' => ∃ (fu : List ByteArray) (aW : Int), v8 = .int .i64 aW ∧ ae (bO.l0 kq a0 fu (y101.length : Int) aW = some r) ∧ ae (kq ≤ k) ∧ ae (Kd.R Kd.string 9 w' w.heap.size (fun _ => True) (.slice Ao5 y101.length co5) fu) ∧ ae (Below w.heap.size w w'))
  case atStart => exact ⟨(y101), (0), (by first | rfl | (simp; done) | (simp [*]; done)), H', ⟨Nat.le_refl _⟩, ⟨by (with_reducible repeat (first | apply Kd.di | apply Kd.dm | apply Kd.dR)); exact eX.out⟩, ⟨by repeat (first | (with_reducible first | exact HB.out | apply au | apply ai | apply ak) | exact HB.out)⟩⟩
  case round =>
   clear H'
   try clear c2
   try clear jF
   try clear mI
   try clear p2
   obtain ⟨fu, aW, rfl, HA, HK1, nE, HB⟩ := hrel
   have hl3_1 := (Kd.aV nE.out).1
   rw [hl3_1] at nE
   (try simp only [hl3_1])
   cases gk with
   | zero => exact absurd HA.out (by simp [bO.l0])
   | succ k1 =>
    have H := HA.out
    clear HA
    simp only [bO.l0] at H
    by_cases c6 : aW < (y101.length : Int)
    ·rw [if_pos c6] at H
     have kE : decide (aW < (y101.length : Int)) = true := decide_eq_true c6
     (try (have c6b0hl3_1 := kE; rw [hl3_1] at c6b0hl3_1))
     clear c6
     obtain ⟨ji7, hji7⟩ : ∃ j_ : Int, (wrap64 (8 * (wrap64 (3 - aW)))) = j_ := ⟨_, rfl⟩
     replace H : (if 0 ≤ (ji7) then ((strconv_Itoa.f (wrap64 (Go.bits .and .u32 (shr .u32 a0 (ji7)) 255))).bind fun bH => (if 0 ≤ aW then (if aW < (fu.length : Int) then (bO.l0 k1 a0 (fu.set (aW : Int).toNat bH) (y101.length : Int) (wrap64 (aW + 1))) else (none)) else (none))) else (none)) = some r := by first | (rw [hji7] at H; exact H) | (simp only [hji7] at H ⊢; exact H)
     have hji7w : (IntKind.i64.wrap (8 * (wrap64 (3 - aW)))) = ji7 := (jD _).trans hji7
     by_cases c8 : 0 ≤ (ji7)
     ·rw [if_pos c8] at H
      have kK := eq_true c8
      have tL : decide (0 ≤ (ji7)) = true := decide_eq_true c8
      clear c8
      obtain ⟨ji9, hji9⟩ : ∃ j_ : Int, (shr .u32 a0 (ji7)) = j_ := ⟨_, rfl⟩
      (try (have hji9r := hji9; simp only [hji7] at hji9r))
      (try (have hji9wr := (jD _).trans hji9r))
      replace H : ((strconv_Itoa.f (wrap64 (Go.bits .and .u32 (ji9) 255))).bind fun bH => (if 0 ≤ aW then (if aW < (fu.length : Int) then (bO.l0 k1 a0 (fu.set (aW : Int).toNat bH) (y101.length : Int) (wrap64 (aW + 1))) else (none)) else (none))) = some r := by first | (rw [hji9] at H; exact H) | (simp only [hji9] at H ⊢; exact H)
      have hji9_ : (a0 / 2 ^ min (ji7).toNat 32) = ji9 := hji9
      have hji9z : (ji7) ≤ 32 → (a0 / 2 ^ (ji7).toNat) = ji9 := uO hji9
      replace H := Option.bind_eq_some_iff.mp H
      obtain ⟨bH, A100, H⟩ := H
      replace H : (if 0 ≤ aW then (if aW < (fu.length : Int) then (bO.l0 k1 a0 (fu.set (aW : Int).toNat bH) (y101.length : Int) (wrap64 (aW + 1))) else (none)) else (none)) = some r := H
      have A10 := ae.mk A100
      clear A100
      by_cases c11 : 0 ≤ aW
      ·rw [if_pos c11] at H
       have lq : decide (0 ≤ aW) = true := decide_eq_true c11
       clear c11
       by_cases c12 : aW < (fu.length : Int)
       ·rw [if_pos c12] at H
        have uC : decide (aW < (fu.length : Int)) = true := decide_eq_true c12
        (try (have c12b0hl3_1 := uC; rw [hl3_1] at c12b0hl3_1))
        clear c12
        obtain ⟨y105, hy105⟩ : ∃ y_ : List ByteArray, y_ = (fu.set (aW : Int).toNat bH) := ⟨_, rfl⟩
        replace H : (bO.l0 k1 a0 y105 (y101.length : Int) (wrap64 (aW + 1))) = some r := by first | (rw [hy105]; with_reducible exact H) | (have H2_ := (Option.bind_some _ _).symm.trans H; rw [hy105]; with_reducible exact H2_) | (have H2_ := (Option.bind_some _ _).symm.trans H; with_reducible exact H2_) | with_reducible exact H | (rw [hy105]; exact H) | exact H
        have Ny105 := ae.mk hy105
        clear hy105
        have H' := ae.mk H
        clear H
        go_wp2_with (first | ((with_reducible refine aH (f := 67) rfl ?_); refine bN (some 20) rfl rfl Tryz.func67 (by kernel_rfl) rfl #[.int .i64 (wrap64 (Go.bits .and .u32 (ji9) 255))] rfl (by (try simp only [List.map_toArray, List.map_cons, List.map_nil]); first | done | (simp only [hji9]; rfl) | rfl | (simp only [List.length_drop, List.length_take]; rfl)) ?_; (with_reducible refine (strconv_Itoa.calls (wrap64 (Go.bits .and .u32 (ji9) 255)) bH _ A10.out ?gt).mono ?_); (case gt => exact Go.Proofs.YteidaijpaijgpaaGreatDoorV.GT.below HGT (qw HB)); rintro e w14 ⟨rfl, hb⟩; refine ⟨_, rfl, ?_⟩; replace nE := ae.mk (Kd.bD (qr nE) hb); replace HB := ae.mk (aj (qw HB) hb); (try clear hb); (try clear hb2); (try clear hk); (try clear hi); have p13 : 0 ≤ (aW : Int) := of_decide_eq_true qa; have q13 : (aW : Int) < ((fu.length : Int) : Int) := of_decide_eq_true qa; obtain ⟨go13, xZ, yc, zQ, gl13, cl13, HG13⟩ := Kd.kz nE.out (by omega); (first | cases yc | (injection yc with ea_ en_ ec_; (first | subst ea_ | (injection ea_ with ea_; subst ea_)); subst ec_; clear en_)); have BR := ae.mk zQ; have GG13 := ae.mk HG13; clear zQ gl13 HG13; obtain ⟨hx13_0, hf13_0⟩ := Kd.ib (⟨#[]⟩ : ByteArray) nE.out (aW : Int) p13 q13; replace p13 := eq_true p13; replace q13 := eq_true q13; obtain ⟨hy15_, hz15_⟩ := Kd.ib (⟨#[]⟩ : ByteArray) nE.out (aW : Int) (of_decide_eq_true qa) (of_decide_eq_true qa); have HP15 := Kd.kD nE.out (aW : Int) bH) | ((with_reducible refine iD (t := 9) (p := 21) rfl ?_); refine ic (t := 9) (p := 21) (v := ?vo_w16) (w1 := (w14.setCell ⟨go13, (aW : Int).toNat, none⟩ (.string bH))) ?hg ?ho ?hn ?hr ?_; (case ho => rfl); (case hg => rfl); (case hn => rfl); (case hr => first | (go_simp; done) | (go_simp; rfl)); intro w16 hw; have hg : w14.grownBy w16 (some go13) := (by rw [hw]; exact HP15.2); have hp_ : Kd.R Kd.string 9 w16 w.heap.size (fun _ => True) (.slice (some ⟨go13, 0, none⟩) fu.length co5) y105 := (by rw [hw, Ny105.out]; exact HP15.1); clear HP15; replace nE := ae.mk (hp_); replace HB := ae.mk ((by rw [hw]; exact bn (HB.out) BR.out : Below w.heap.size w w16)); clear hg hw hp_))
        (try simp only [← hl3_1])
        go_roundg k1
        case measure => have := HK1.out; omega
        case rel => exact ⟨(y105), (wrap64 (aW + 1)), (by first | rfl | (simp; done) | (simp [*]; done)), H', ⟨by have := HK1.out; omega⟩, ⟨by (try simp only [hl3_1]); (with_reducible repeat (first | apply Kd.di | apply Kd.dm | apply Kd.dR)); exact nE.out⟩, ⟨by repeat (first | (with_reducible first | exact HB.out | apply au | apply ai | apply ak) | exact HB.out)⟩⟩
       ·rw [if_neg c12] at H
        exact absurd H (by simp)
      ·rw [if_neg c11] at H
       exact absurd H (by simp)
     ·rw [if_neg c8] at H
      exact absurd H (by simp)
    ·rw [if_neg c6] at H
     have kE : decide (aW < (y101.length : Int)) = false := decide_eq_false c6
     (try (have c6b0hl3_1 := kE; rw [hl3_1] at c6b0hl3_1))
     clear c6
     replace H := Option.bind_eq_some_iff.mp H
     obtain ⟨bG, A170, H⟩ := H
     replace H : (some bG) = some r := H
     have A17 := ae.mk A170
     clear A170
     obtain rfl := Option.some.inj H
     go_wp2_with (first | ((with_reducible refine aH (f := 26) rfl ?_); refine bN (some 24) rfl rfl Tryz.func26 (by kernel_rfl) rfl #[.slice Ao5 fu.length co5, .string (⟨#[46]⟩ : ByteArray)] rfl qt ?_; (with_reducible refine (strings_Join.calls _ _ fu (⟨#[46]⟩ : ByteArray) bG _ ?aX ?aY A17.out).mono ?_); (case aX => exact qs ((Kd.aV nE.out).2.2)); (case aY => exact (Kd.aV nE.out).2.1); rintro e w18 ⟨rfl, hb⟩; refine ⟨_, rfl, ?_⟩; replace nE := ae.mk (Kd.bD (qr nE) hb); replace HB := ae.mk (aj (qw HB) hb); (try clear hb); (try clear hb2); (try clear hk); (try clear hi)))
     go_ret
     exact ⟨by first | rfl | (simp [errW_none, errW_some] <;> rfl) | (simp [*, errW_none, errW_some] <;> rfl), by repeat (first | (with_reducible first | exact HB.out | apply au | apply ai | apply ak) | exact HB.out)⟩
 ·rw [if_neg c2] at H
  exact absurd H (by simp)
end Go.Proofs.YteidaijpaijgpaaGreatDoor.P
end
section
namespace Go.Proofs.YteidaijpaijgpaaGreatDoor.P
open Go.RowKit Go.Proofs.YteidaijpaijgpaaGreatDoorW.ay Go.Proofs.YteidaijpaijgpaaGreatDoorW.aQ Go.Proofs.YteidaijpaijgpaaGreatDoorW.aZ
attribute [local go_sem] bz bA bP bQ bq bu bB bC
set_option linter.unusedVariables false
set_option linter.unusedSimpArgs false
def dV.f (k : Nat) (aD : Int) (aA : Int) : Option (ByteArray) := (gp.f aD aA).bind fun aJ => (if aJ = true then ((bO.f k aD).bind fun bJ => (if bJ.size + 1 ≤ 9223372036854775807 then ((strconv_Itoa.f aA).bind fun bH => (if (bJ ++ (⟨#[47]⟩ : ByteArray)).size + bH.size ≤ 9223372036854775807 then (some ((bJ ++ (⟨#[47]⟩ : ByteArray)) ++ bH)) else (none))) else (none))) else (some (⟨#[]⟩ : ByteArray)))
theorem dV.mono : ∀ a0 a1 k, LeO (dV.f k a0 a1) (dV.f (k + 1) a0 a1) := by
 intro a0 a1 k
 unfold dV.f
 repeat' first
   | (with_reducible exact bO.mono _ _)
   | (with_reducible exact LeO.refl _)
   | (with_reducible exact LeO.none _)
   | (with_reducible refine LeO.ite ?_ ?_)
   | (with_reducible refine LeO.bind ?_ (fun _ => ?_))
   | exact bO.mono _ _
   | exact LeO.none _
   | refine LeO.ite ?_ ?_
   | refine LeO.bind ?_ (fun _ => ?_)
def dV.T3 : Bool × List (List Nat × List Nat) := (true, [([], []), ([0], [0]), ([1], [1]), ([2], [2]), ([], []), ([4], [4]), ([5, 2], [5]), ([3, 6], [3, 6]), ([7, 6, 0, 1, 2, 3, 4, 5, 6, 7], [7])])
def dV.B3 : List Nat := [0, 1, 3, 7, 0, 16, 55, 127, 255]
theorem dV.tN : iV .any (opsOf Tryz.f34 3) = dV.T3 := by kernel_rfl
theorem dV.pG : iA dV.T3.2 dV.B3 = true := by kernel_rfl
set_option maxHeartbeats 8000000 in
set_option maxRecDepth 100000 in
theorem dV.calls (k : Nat) (aD : Int) (aA : Int) (r : ByteArray) (w : World) (h : dV.f k aD aA = some r) (HGT : ae (Go.Proofs.YteidaijpaijgpaaGreatDoorV.GT w)) :
  Calls Tryz.prog 34 #[.agg #[.int .u32 aD, .int .i64 aA]] w fun e w' => e = .returned (.string r) ∧ Below w.heap.size w w' := by
 have hu25 := Tryz.underlying25
 have HB := ae.mk (Below.refl w.heap.size w)
 have H : ((gp.f aD aA).bind fun aJ => (if aJ = true then ((bO.f k aD).bind fun bJ => (if bJ.size + 1 ≤ 9223372036854775807 then ((strconv_Itoa.f aA).bind fun bH => (if (bJ ++ (⟨#[47]⟩ : ByteArray)).size + bH.size ≤ 9223372036854775807 then (some ((bJ ++ (⟨#[47]⟩ : ByteArray)) ++ bH)) else (none))) else (none))) else (some (⟨#[]⟩ : ByteArray)))) = some r := h
 clear h
 replace H := Option.bind_eq_some_iff.mp H
 obtain ⟨aJ, A20, H⟩ := H
 replace H : (if aJ = true then ((bO.f k aD).bind fun bJ => (if bJ.size + 1 ≤ 9223372036854775807 then ((strconv_Itoa.f aA).bind fun bH => (if (bJ ++ (⟨#[47]⟩ : ByteArray)).size + bH.size ≤ 9223372036854775807 then (some ((bJ ++ (⟨#[47]⟩ : ByteArray)) ++ bH)) else (none))) else (none))) else (some (⟨#[]⟩ : ByteArray))) = some r := H
 have A2 := ae.mk A20
 clear A20
 by_cases c3 : aJ = true
 ·subst c3
  have H1 : ((bO.f k aD).bind fun bJ => (if bJ.size + 1 ≤ 9223372036854775807 then ((strconv_Itoa.f aA).bind fun bH => (if (bJ ++ (⟨#[47]⟩ : ByteArray)).size + bH.size ≤ 9223372036854775807 then (some ((bJ ++ (⟨#[47]⟩ : ByteArray)) ++ bH)) else (none))) else (none))) = some r := by rw [if_pos rfl] at H; exact H
  clear H
  have H := H1
  clear H1
  replace H := Option.bind_eq_some_iff.mp H
  obtain ⟨bJ, A40, H⟩ := H
  replace H : (if bJ.size + 1 ≤ 9223372036854775807 then ((strconv_Itoa.f aA).bind fun bH => (if (bJ ++ (⟨#[47]⟩ : ByteArray)).size + bH.size ≤ 9223372036854775807 then (some ((bJ ++ (⟨#[47]⟩ : ByteArray)) ++ bH)) else (none))) else (none)) = some r := H
  have A4 := ae.mk A40
  clear A40
  by_cases c5 : bJ.size + 1 ≤ 9223372036854775807
  ·rw [if_pos c5] at H
   have jG := eq_true c5
   have lS : decide (bJ.size + 1 ≤ 9223372036854775807) = true := decide_eq_true c5
   try have tJ : (9223372036854775807 < bJ.size + 1) = False := eq_false (Nat.not_lt.2 c5)
   replace H := Option.bind_eq_some_iff.mp H
   obtain ⟨bH, A60, H⟩ := H
   replace H : (if (bJ ++ (⟨#[47]⟩ : ByteArray)).size + bH.size ≤ 9223372036854775807 then (some ((bJ ++ (⟨#[47]⟩ : ByteArray)) ++ bH)) else (none)) = some r := H
   have A6 := ae.mk A60
   clear A60
   by_cases c7 : (bJ ++ (⟨#[47]⟩ : ByteArray)).size + bH.size ≤ 9223372036854775807
   ·rw [if_pos c7] at H
    have jg := eq_true c7
    have oq : decide ((bJ ++ (⟨#[47]⟩ : ByteArray)).size + bH.size ≤ 9223372036854775807) = true := decide_eq_true c7
    try have xX : (9223372036854775807 < (bJ ++ (⟨#[47]⟩ : ByteArray)).size + bH.size) = False := eq_false (Nat.not_lt.2 c7)
    (try (have zP : (9223372036854775807 < bJ.size + 1 + bH.size) = False := eq_false (Nat.not_lt.2 (by have h_ := oq; simp only [ByteArray.size_append, decide_eq_true_eq] at h_; first | exact h_ | (simp at h_; omega)))))
    obtain rfl := Option.some.inj H
    go_enter Tryz.func34, Tryz.ntmps34
    try go_wp2_with (first | ((with_reducible refine bg (N := 1) rfl ?_); refine bE ?hg (N := 1) ?hd (cs := #[.int .u32 aD, .int .i64 aA]) (t := 25) ?hr ?_; (case hd => rfl); (case hg => rfl); (case hr => first | (go_simp; done) | (go_simp; rfl)); intro av hg w8 hbox hb; have ag := ae.mk (hbox); have GW101 := qge HB hg; have dh := qge HB hg; replace HB := ae.mk (aj (qw HB) hb); clear hb hbox hg; have hcz9_0 : w8.cell? ⟨av, 0, none⟩ = some (.int .u32 aD) := (af ag.out 0).trans rfl; have hcz9_1 : w8.cell? ⟨av, 1, none⟩ = some (.int .i64 aA) := (af ag.out 1).trans rfl; have hfz9_0 := ah ag.out 0; have hfz9_1 := ah ag.out 1) | ((with_reducible refine aH (f := 65) rfl ?_); refine bN (some 4) rfl rfl Tryz.func65 (by kernel_rfl) rfl #[.agg #[.int .u32 aD, .int .i64 aA]] rfl qt ?_; (with_reducible refine (gp.calls aD aA true _ A2.out).mono ?_); rintro e w10 ⟨rfl, hb⟩; refine ⟨_, rfl, ?_⟩; replace ag := qbb ag hb; replace HB := ae.mk (aj (qw HB) hb); (try clear hb); (try clear hb2); (try clear hk); (try clear hi)))
    replace ag := ae.mk (dQ ag.out)
    replace HB := ae.mk (ak HB.out)
    refine iP (n := 9) (S := fun w' => w'.cell? ⟨av, 0, none⟩ = some (.int .u32 aD) ∧ w'.cell? ⟨av, 1, none⟩ = some (.int .i64 aA)) (ds := []) #[bF,bF,bF,bF,bF,bF,bF,bF,bF] (by kernel_rfl) rfl rfl ⟨(af ag.out 0).trans rfl, (af ag.out 1).trans rfl⟩ (fun hHeld => ?_); refine fV dV.tN dV.pG (fun HT_ HW_ => ?_)
    generalize w10.drew = w11 at ag HB hHeld ⊢
    refine bL 0 (some 6) HT_ ?_
    refine bL 4 (some 10) HT_ ?_
    refine fI 1 (some 7) HT_ HW_ hHeld ?_
    refine fI 5 (some 11) HT_ HW_ hHeld ?_
    refine iW 2 (some 8) HT_ (fun K hK => ?_)
    refine gX Tryz.func66 #[.int .u32 aD] ?_
    with_reducible refine (bO.calls k aD bJ _ A4.out ?gt).mono ?_
    (case gt => exact Go.Proofs.YteidaijpaijgpaaGreatDoorV.GT.below HGT (qw HB))
    rintro e w12 ⟨rfl, hb⟩
    refine ⟨_, rfl, ?_⟩
    replace ag := qbb ag hb
    replace HB := ae.mk (aj (qw HB) hb)
    (try clear hb)
    (try clear hb2)
    (try clear hk)
    (try clear hi)
    refine hK.out _ _ ⟨(af ag.out 0).trans rfl, (af ag.out 1).trans rfl⟩ (fun hHeld => ?_)
    clear hK K
    refine gD (some 8) ?_
    refine bL 3 (some 9) HT_ ?_
    refine iW 6 (some 12) HT_ (fun K hK => ?_)
    refine gX Tryz.func67 #[.int .i64 aA] ?_
    with_reducible refine (strconv_Itoa.calls aA bH _ A6.out ?gt).mono ?_
    (case gt => exact Go.Proofs.YteidaijpaijgpaaGreatDoorV.GT.below HGT (qw HB))
    rintro e w13 ⟨rfl, hb⟩
    refine ⟨_, rfl, ?_⟩
    replace ag := qbb ag hb
    replace HB := ae.mk (aj (qw HB) hb)
    (try clear hb)
    (try clear hb2)
    (try clear hk)
    (try clear hi)
    refine hK.out _ _ ⟨(af ag.out 0).trans rfl, (af ag.out 1).trans rfl⟩ (fun hHeld => ?_)
    clear hK K
    refine gD (some 12) ?_
    refine bL 7 (some 13) HT_ ?_
    refine bL 8 (some 2) HT_ ?_
    refine jI HT_ ?_
    try go_wp2
    go_ret
    exact ⟨by first | rfl | (simp [errW_none, errW_some] <;> rfl) | (simp [*, errW_none, errW_some] <;> rfl), by repeat (first | (with_reducible first | exact HB.out | apply au | apply ai | apply ak | refine bn ?_ dh.out) | exact HB.out)⟩
   ·rw [if_neg c7] at H
    exact absurd H (by simp)
  ·rw [if_neg c5] at H
   exact absurd H (by simp)
 ·replace c3 := Bool.eq_false_iff.mpr c3
  subst c3
  have H1 : (some (⟨#[]⟩ : ByteArray)) = some r := by rw [if_neg (show ¬ (false = true) by decide)] at H; exact H
  clear H
  have H := H1
  clear H1
  obtain rfl := Option.some.inj H
  go_enter Tryz.func34, Tryz.ntmps34
  go_wp2_with (first | ((with_reducible refine bg (N := 1) rfl ?_); refine bE ?hg (N := 1) ?hd (cs := #[.int .u32 aD, .int .i64 aA]) (t := 25) ?hr ?_; (case hd => rfl); (case hg => rfl); (case hr => first | (go_simp; done) | (go_simp; rfl)); intro av hg w14 hbox hb; have ag := ae.mk (hbox); have GW101 := qge HB hg; have dh := qge HB hg; replace HB := ae.mk (aj (qw HB) hb); clear hb hbox hg; have hcz15_0 : w14.cell? ⟨av, 0, none⟩ = some (.int .u32 aD) := (af ag.out 0).trans rfl; have hcz15_1 : w14.cell? ⟨av, 1, none⟩ = some (.int .i64 aA) := (af ag.out 1).trans rfl; have hfz15_0 := ah ag.out 0; have hfz15_1 := ah ag.out 1) | ((with_reducible refine aH (f := 65) rfl ?_); refine bN (some 4) rfl rfl Tryz.func65 (by kernel_rfl) rfl #[.agg #[.int .u32 aD, .int .i64 aA]] rfl qt ?_; (with_reducible refine (gp.calls aD aA false _ A2.out).mono ?_); rintro e w16 ⟨rfl, hb⟩; refine ⟨_, rfl, ?_⟩; replace ag := qbb ag hb; replace HB := ae.mk (aj (qw HB) hb); (try clear hb); (try clear hb2); (try clear hk); (try clear hi)))
  go_ret
  exact ⟨by first | rfl | (simp [errW_none, errW_some] <;> rfl) | (simp [*, errW_none, errW_some] <;> rfl), by repeat (first | (with_reducible first | exact HB.out | apply au | apply ai | apply ak | refine bn ?_ dh.out) | exact HB.out)⟩
end Go.Proofs.YteidaijpaijgpaaGreatDoor.P
end
section
set_option linter.unusedVariables false
set_option linter.unusedSimpArgs false
namespace Go.Proofs.YteidaijpaijgpaaGreatDoor.Pc
open Go.Proofs.YteidaijpaijgpaaGreatDoor.P Go.Proofs.YteidaijpaijgpaaGreatDoorW.ay Go.Proofs.YteidaijpaijgpaaGreatDoorW.aQ Go.Proofs.YteidaijpaijgpaaGreatDoorW.aZ Go.RowKit
theorem Ev.pos {α : Type} {c : Prop} [Decidable c] {f g : Nat → Option α} {r : α} (hc : c) (h : Ev f r) : Ev (fun k => if c then f k else g k) r := Ev.congr (fun k => if_pos hc) h
theorem Ev.neg {α : Type} {c : Prop} [Decidable c] {f g : Nat → Option α} {r : α} (hc : ¬ c) (h : Ev g r) : Ev (fun k => if c then f k else g k) r := Ev.congr (fun k => if_neg hc) h
theorem Ev.now' {α : Type} {g : Nat → Option α} {r : α} (h : ∀ k, g k = some r) : Ev g r := Ev.congr h (Ev.now r)
theorem Ev.some {α β : Type} {f : Nat → α → Option β} {x : α} {r : β} (h : Ev (fun k => f k x) r) : Ev (fun k => (Option.some x).bind (f k)) r := Ev.congr (fun k => Option.bind_some _ _) h
theorem w64 {x : Int} (h0 : -9223372036854775808 ≤ x) (h1 : x < 9223372036854775808) : wrap64 x = x := by unfold wrap64; omega
theorem jC {a b : ByteArray} (h : a.data.toList = b.data.toList) : a = b := by
 cases a; cases b; congr 1; exact Array.toList_inj.1 h
theorem zR (l : List UInt8) : (⟨l.toArray⟩ : ByteArray).size = l.length := by show l.toArray.size = _; simp
theorem iG (a b : ByteArray) : (a ++ b).size = a.size + b.size := ByteArray.size_append
theorem uD (a : ByteArray) : a.data.toList.length = a.size := by simp
theorem lF (n : Int) (h0 : -9223372036854775808 ≤ n) (h1 : n ≤ 9223372036854775807) : (jE n).size ≤ 21 := by
 unfold jE; rw [zR]; exact Lib.itoa_length_le n h0 h1
theorem qM (n : Int) (h0 : -9223372036854775808 ≤ n) (h1 : n ≤ 9223372036854775807) : strconv_Itoa.f n = Option.some (jE n) := by
 unfold strconv_Itoa.f; rw [if_pos h0, if_pos h1]
def sgn (n : Int) (m : Nat) : Int := if n < 0 then -(m : Int) else (m : Int)
def fin (n : Int) (x : ByteArray) : ByteArray := if n < 0 then (⟨#[45]⟩ : ByteArray) ++ x else x
def mY (m : Nat) : List UInt8 := if m = 0 then [] else Lib.decDigits m
theorem uT (m : Nat) (h : m ≠ 0) : mY m = mY (m / 10) ++ [UInt8.ofNat (48 + m % 10)] := by
 unfold mY
 rw [if_neg h]
 by_cases h2 : m < 10
 ·rw [Lib.decDigits_one h2, if_pos (by omega), Nat.mod_eq_of_lt h2]; rfl
 ·rw [Lib.decDigits, dif_neg h2, if_neg (by omega)]
theorem uU (n : Int) (m : Nat) : ∀ acc : ByteArray, m ≤ 4611686018427387904 → acc.size + (mY m).length ≤ 100 → Ev (fun k => aM.l0 k n acc (sgn n m)) (fin n (⟨(mY m).toArray⟩ ++ acc)) := by
 induction m using Nat.strongRecOn with
 | _ m ih =>
  intro acc hm hs
  by_cases h : m = 0
  ·subst h
   have hz : sgn n 0 = 0 := by unfold sgn; split <;> rfl
   have he : (⟨(mY 0).toArray⟩ : ByteArray) ++ acc = acc := jC (by simp [mY])
   rw [he, hz]
   unfold fin
   by_cases hn : n < 0
   ·refine Ev.step (f := fun _ => Option.some ((⟨#[45]⟩ : ByteArray) ++ acc)) (fun k => ?_) (by rw [if_pos hn]; exact Ev.now _)
    rw [aM.l0, if_pos rfl, if_pos hn, if_pos (by omega)]
   ·refine Ev.step (f := fun _ => Option.some acc) (fun k => ?_) (by rw [if_neg hn]; exact Ev.now _)
    rw [aM.l0, if_pos rfl, if_neg hn]
  ·have hd := uT m h
   have hl : (mY m).length = (mY (m / 10)).length + 1 := by rw [hd]; simp
   have hb : (⟨(mY m).toArray⟩ : ByteArray) ++ acc = ⟨(mY (m / 10)).toArray⟩ ++ (strOfNums [((48 + m % 10 : Nat) : Int) % 256] ++ acc) := by
    refine jC ?_
    have e : (((48 + m % 10 : Nat) : Int) % 256).toNat = 48 + m % 10 := by omega
    have e' : strOfNums [((48 + m % 10 : Nat) : Int) % 256] = ⟨#[UInt8.ofNat (48 + m % 10)]⟩ := by
     unfold strOfNums; rw [List.map_cons, List.map_nil, e]
    rw [hd, e']
    generalize UInt8.ofNat (48 + m % 10) = c
    simp
   rw [hb]
   have hsz : (strOfNums [((48 + m % 10 : Nat) : Int) % 256]).size = 1 := rfl
   refine Ev.step (f := fun k => aM.l0 k n (strOfNums [((48 + m % 10 : Nat) : Int) % 256] ++ acc) (sgn n (m / 10))) (fun k => ?_) (ih (m / 10) (by omega) _ (by omega) (by rw [iG, hsz]; omega))
   have hc : (strOfNums [((48 + m % 10 : Nat) : Int) % 256]).size + acc.size ≤ 9223372036854775807 := by rw [hsz]; omega
   by_cases hn : n < 0
   ·have e0 : sgn n m = -(m : Int) := if_pos hn
    have e1 : Int.tmod (sgn n m) 10 = -((m % 10 : Nat) : Int) := by rw [e0, Int.neg_tmod, Int.tmod_eq_emod_of_nonneg (by omega)]; omega
    have e2 : wrap64 (Int.tdiv (sgn n m) 10) = sgn n (m / 10) := by
     rw [e0, Int.neg_tdiv, Int.tdiv_eq_ediv_of_nonneg (by omega)]; unfold sgn; rw [if_pos hn, w64 (by omega) (by omega)]; omega
    rw [aM.l0, if_neg (by rw [e0]; omega), e1, e2]
    by_cases hz : m % 10 = 0
    ·rw [if_neg (by omega), Option.bind_some]
     have e3 : wrap64 (48 + -((m % 10 : Nat) : Int)) = ((48 + m % 10 : Nat) : Int) := by rw [w64 (by omega) (by omega)]; omega
     rw [e3, if_pos hc]
    ·rw [if_pos (by omega), Option.bind_some]
     have e3 : wrap64 (48 + wrap64 (- -((m % 10 : Nat) : Int))) = ((48 + m % 10 : Nat) : Int) := by rw [w64 (x := - -((m % 10 : Nat) : Int)) (by omega) (by omega), w64 (by omega) (by omega)]; omega
     rw [e3, if_pos hc]
   ·have e0 : sgn n m = (m : Int) := if_neg hn
    have e1 : Int.tmod (sgn n m) 10 = ((m % 10 : Nat) : Int) := by rw [e0, Int.tmod_eq_emod_of_nonneg (by omega)]; omega
    have e2 : wrap64 (Int.tdiv (sgn n m) 10) = sgn n (m / 10) := by
     rw [e0, Int.tdiv_eq_ediv_of_nonneg (by omega)]; unfold sgn; rw [if_neg hn, w64 (by omega) (by omega)]; omega
    rw [aM.l0, if_neg (by rw [e0]; omega), e1, e2, if_neg (by omega), Option.bind_some]
    have e3 : wrap64 (48 + ((m % 10 : Nat) : Int)) = ((48 + m % 10 : Nat) : Int) := by rw [w64 (by omega) (by omega)]; omega
    rw [e3, if_pos hc]
theorem mG (n : Int) (h0 : -4611686018427387904 ≤ n) (h1 : n ≤ 4611686018427387904) : Ev (fun k => aM.f k n) (jE n) := by
 by_cases hz : n = 0
 ·subst hz
  refine Ev.now' fun k => ?_
  unfold aM.f
  rw [if_pos rfl]
  congr 1
  exact jC (by simp [jE, Lib.itoa, Lib.decDigits_one])
 ·have hl : (mY n.natAbs).length ≤ 21 := by
   unfold mY
   rw [if_neg (by omega)]
   have := Lib.itoa_length_le (n.natAbs : Int) (by omega) (by omega)
   rwa [Lib.itoa_nonneg] at this
  have h := uU n n.natAbs (⟨#[]⟩ : ByteArray) (by omega) (by show 0 + _ ≤ 100; omega)
  have e : sgn n n.natAbs = n := by unfold sgn; split <;> omega
  rw [e] at h
  have e2 : fin n (⟨(mY n.natAbs).toArray⟩ ++ (⟨#[]⟩ : ByteArray)) = jE n := by
   unfold fin jE Lib.itoa mY
   by_cases hn : n < 0
   ·rw [if_pos hn, if_pos hn, if_neg (show ¬ n.natAbs = 0 by omega)]; exact jC (by simp)
   ·rw [if_neg hn, if_neg hn, if_neg (show ¬ n.natAbs = 0 by omega), show n.toNat = n.natAbs by omega]; exact jC (by simp)
  rw [e2] at h
  refine Ev.congr (fun k => ?_) h
  unfold aM.f
  rw [if_neg hz]
theorem pI (a b c d s : ByteArray) : (jW [a, b, c, d] s) = ((((((a ++ s) ++ b) ++ s) ++ c) ++ s) ++ d) := jC (by simp [jW, Lib.join, List.intercalate])
theorem yf (l : List ByteArray) (s : ByteArray) : (Lib.join (l.map (·.data.toList)) s.data.toList).length ≤ (l.map (·.size)).sum + l.length * s.size := by
 induction l with
 | nil => simp [Lib.join, List.intercalate]
 | cons x l ih =>
  cases l with
  | nil => simp [Lib.join, List.intercalate]
  | cons y r =>
   have e : Lib.join ((x :: y :: r).map (·.data.toList)) s.data.toList = x.data.toList ++ (s.data.toList ++ Lib.join ((y :: r).map (·.data.toList)) s.data.toList) := by simp [Lib.join, List.intercalate]
   rw [e, List.length_append, List.length_append, uD, uD]
   simp only [List.map_cons, List.sum_cons, List.length_cons] at ih ⊢
   have : (r.length + 1 + 1) * s.size = (r.length + 1) * s.size + s.size := by rw [Nat.add_mul (r.length + 1)]; omega
   omega
theorem qN (l : List ByteArray) (s : ByteArray) (h1 : l.length ≤ 1000000) (h2 : (l.map (·.size)).sum + l.length * s.size ≤ 140737488355328) : strings_Join.f l s = some (jW l s) := by
 unfold strings_Join.f; rw [if_pos (by omega), if_pos (Nat.le_trans (yf l s) h2)]
def qh (a : Int) : ByteArray := jW [jE (a / 16777216 % 256), jE (a / 65536 % 256), jE (a / 256 % 256), jE (a % 256)] (⟨#[46]⟩ : ByteArray)
theorem kr (x : Int) : (jE (x % 256)).size ≤ 21 := lF _ (by omega) (by omega)
theorem nS (a : Int) : (qh a).size ≤ 90 := by
 unfold qh
 rw [pI]
 simp only [iG]
 have h1 := kr (a / 16777216)
 have h2 := kr (a / 65536)
 have h3 := kr (a / 256)
 have h4 := kr a
 have : (⟨#[46]⟩ : ByteArray).size = 1 := rfl
 omega
theorem kS (a : Int) (h0 : 0 ≤ a) (h1 : a < 4294967296) : Ev (fun k => dw.f k a) (qh a) := by
 have e1 : Int.tdiv a 16777216 % 4294967296 = a / 16777216 % 256 := by rw [Int.tdiv_eq_ediv_of_nonneg h0]; omega
 have e2 : Int.tdiv a 65536 % 256 = a / 65536 % 256 := by rw [Int.tdiv_eq_ediv_of_nonneg h0]
 have e3 : Int.tdiv a 256 % 256 = a / 256 % 256 := by rw [Int.tdiv_eq_ediv_of_nonneg h0]
 have e4 : wrap64 (Int.tmod a 256) = a % 256 := by rw [Int.tmod_eq_emod_of_nonneg h0, w64 (by omega) (by omega)]
 have z1 := kr (a / 16777216)
 have z2 := kr (a / 65536)
 have z3 := kr (a / 256)
 have z4 := kr a
 have zp : (⟨#[46]⟩ : ByteArray).size = 1 := rfl
 unfold dw.f
 simp only [e1, e2, e3, e4]
 refine Ev.bind (mG _ (by omega) (by omega)) (Ev.pos (by omega) ?_)
 refine Ev.bind (mG _ (by omega) (by omega)) (Ev.pos (by simp only [iG]; omega) (Ev.pos (by simp only [iG]; omega) ?_))
 refine Ev.bind (mG _ (by omega) (by omega)) (Ev.pos (by simp only [iG]; omega) (Ev.pos (by simp only [iG]; omega) ?_))
 refine Ev.bind (mG _ (by omega) (by omega)) (Ev.pos (by simp only [iG]; omega) ?_)
 unfold qh
 rw [pI]
 exact Ev.now _
theorem zo (a : Int) (h0 : 0 ≤ a) (h1 : a < 4294967296) (j : Nat) (hj : j ≤ 32) (s : Int) (hs : s = ((j : Nat) : Int)) : wrap64 (Go.bits .and .u32 (shr .u32 a s) 255) = a / 2 ^ j % 256 := by
 subst hs
 have hp : (2 : Int) ^ j = ((2 ^ j : Nat) : Int) := by simp
 have hpp : 0 < 2 ^ j := Nat.two_pow_pos j
 have e : shr .u32 a (j : Int) = a / 2 ^ j := by
  unfold shr; rw [Int.toNat_natCast, Nat.min_eq_left (show j ≤ IntKind.u32.bits from hj)]
 have hq0 : 0 ≤ a / 2 ^ j := Int.ediv_nonneg h0 (by rw [hp]; omega)
 have hq1 : a / 2 ^ j < 4294967296 := Int.lt_of_le_of_lt (Int.ediv_le_self _ h0) h1
 rw [e, show (255 : Int) = 2 ^ 8 - 1 from rfl, bits_mask .u32 32 (by decide) (fun n h0 h1 => by rw [IntKind.wrap_u32]; omega) 8 (by decide) _ hq0 hq1, w64 (by omega) (by omega)]
 rfl
theorem pJ (a : Int) (h0 : 0 ≤ a) (h1 : a < 4294967296) : Ev (fun k => bO.f k a) (qh a) := by
 have z1 := kr (a / 16777216)
 have z2 := kr (a / 65536)
 have z3 := kr (a / 256)
 have z4 := kr a
 have zp : (⟨#[46]⟩ : ByteArray).size = 1 := rfl
 have o : ∀ (i : Int) (j : Nat), j ≤ 32 → wrap64 (8 * wrap64 (3 - i)) = ((j : Nat) : Int) → strconv_Itoa.f (wrap64 (Go.bits .and .u32 (shr .u32 a (wrap64 (8 * wrap64 (3 - i)))) 255)) = some (jE (a / 2 ^ j % 256)) := by
  intro i j hj hi
  rw [zo a h0 h1 j hj _ hi]
  exact qM _ (by omega) (by omega)
 have i0 := o 0 24 (by decide) (by rw [w64 (x := 3 - 0) (by decide) (by decide), w64 (by decide) (by decide)]; rfl)
 have i1 := o 1 16 (by decide) (by rw [w64 (x := 3 - 1) (by decide) (by decide), w64 (by decide) (by decide)]; rfl)
 have i2 := o 2 8 (by decide) (by rw [w64 (x := 3 - 2) (by decide) (by decide), w64 (by decide) (by decide)]; rfl)
 have i3 := o 3 0 (by decide) (by rw [w64 (x := 3 - 3) (by decide) (by decide), w64 (by decide) (by decide)]; rfl)
 unfold bO.f
 refine Ev.pos (by decide) (Ev.some ?_)
 have st : ∀ (x : List ByteArray) (i : Int) (t : ByteArray) (r : ByteArray), x.length = 4 → 0 ≤ i → i < 4 → strconv_Itoa.f (wrap64 (Go.bits .and .u32 (shr .u32 a (wrap64 (8 * wrap64 (3 - i)))) 255)) = some t →
   Ev (fun k => bO.l0 k a (x.set i.toNat t) 4 (i + 1)) r → Ev (fun k => bO.l0 k a x 4 i) r := by
  intro x i t r hx hi0 hi4 ht h
  refine Ev.step (fun k => ?_) h
  rw [bO.l0, if_pos hi4, if_pos (by rw [w64 (x := 3 - i) (by omega) (by omega), w64 (by omega) (by omega)]; omega), ht, Option.bind_some, if_pos hi0, if_pos (by omega), w64 (x := i + 1) (by omega) (by omega)]
 show Ev (fun k => bO.l0 k a _ 4 0) _
 refine st _ 0 _ _ rfl (by decide) (by decide) i0 (st _ 1 _ _ (by simp) (by decide) (by decide) i1 (st _ 2 _ _ (by simp) (by decide) (by decide) i2 (st _ 3 _ _ (by simp) (by decide) (by decide) i3 ?_)))
 refine Ev.step (f := fun _ => (strings_Join.f [jE (a / 2 ^ 24 % 256), jE (a / 2 ^ 16 % 256), jE (a / 2 ^ 8 % 256), jE (a / 2 ^ 0 % 256)] (⟨#[46]⟩ : ByteArray)).bind fun bG => some bG) (fun k => ?_) ?_
 ·rw [bO.l0, if_neg (by decide)]; rfl
 ·refine Ev.now' fun k => ?_
  rw [qN _ _ (by simp) (by simp; omega), Option.bind_some]
  congr 1
  simp [qh]
end Go.Proofs.YteidaijpaijgpaaGreatDoor.Pc
end
section
set_option linter.unusedVariables false
set_option linter.unusedSimpArgs false
namespace Go.Proofs.YteidaijpaijgpaaGreatDoor.Pc
open Go.Proofs.YteidaijpaijgpaaGreatDoor.P Go.Proofs.YteidaijpaijgpaaGreatDoorW.ay Go.Proofs.YteidaijpaijgpaaGreatDoorW.aQ Go.Proofs.YteidaijpaijgpaaGreatDoorW.aZ Go.RowKit
def rY (a n : Int) : Bool := decide (0 ≤ n ∧ n ≤ 32 ∧ a.toNat % 2 ^ (32 - n).toNat = 0)
def pK (a n : Int) : ByteArray := if rY a n = true then (qh a ++ (⟨#[47]⟩ : ByteArray)) ++ jE n else (⟨#[]⟩ : ByteArray)
theorem zS (a n : Int) (h0 : 0 ≤ a) (h1 : a < 4294967296) : gp.f a n = some (rY a n) := by
 unfold gp.f
 by_cases hn : n ≥ 0
 ·rw [if_pos hn]
  by_cases hm : n ≤ 32
  ·rw [if_pos hm]
   obtain ⟨m, hm2⟩ : ∃ m : Nat, (32 - n).toNat = m := ⟨_, rfl⟩
   have hle : m ≤ 32 := by omega
   have hpos : 0 < 2 ^ m := Nat.two_pow_pos m
   have hp32 : 2 ^ m ≤ 4294967296 := Nat.le_trans (Nat.pow_le_pow_right (by decide) hle) (by decide)
   have emn : mn (mx n 0) 32 = n := by unfold mn mx; split <;> split <;> omega
   have emask : jS.f n = some (((4294967296 - 2 ^ m : Nat) : Int)) := by
    unfold jS.f
    rw [emn, hm2, IntKind.wrap_u64]
    congr 1
    have e : (2 : Int) ^ m = ((2 ^ m : Nat) : Int) := by simp
    rw [e]
    generalize 2 ^ m = p at *
    omega
   rw [emask, Option.bind_some]
   congr 1
   have e2 : Go.bits .andNot .u32 a ((4294967296 - 2 ^ m : Nat) : Int) = ((a.toNat % 2 ^ m : Nat) : Int) := by
    rw [u32_andNot a _ h0 h1 (by omega) (by omega)]
    congr 1
    rw [show 4294967295 - (((4294967296 - 2 ^ m : Nat) : Int)).toNat = 2 ^ m - 1 by omega]
    exact Nat.and_two_pow_sub_one_eq_mod a.toNat m
   rw [e2]
   unfold rY
   rw [hm2, Bool.eq_iff_iff, beq_iff_eq, decide_eq_true_iff]
   constructor
   ·intro h; exact ⟨hn, hm, by omega⟩
   ·rintro ⟨_, _, h⟩; omega
  ·rw [if_neg hm]; congr 1; exact (decide_eq_false (by omega)).symm
 ·rw [if_neg hn]; congr 1; exact (decide_eq_false (by omega)).symm
theorem yg (d : Nat) : ∀ (c : Nat) (x : Int), c + d ≤ 32 → x = 32 - (d : Int) → Ev (fun k => dH.l0 k ((2 ^ c : Nat) : Int) x) ((2 ^ (c + d) : Nat) : Int) := by
 induction d with
 | zero =>
  intro c x hc hx
  refine Ev.step (f := fun _ => some ((2 ^ c : Nat) : Int)) (fun k => ?_) (Ev.now _)
  rw [dH.l0, if_neg (by omega)]
 | succ d ih =>
  intro c x hc hx
  have hp : 2 ^ c ≤ 2 ^ 32 := Nat.pow_le_pow_right (by decide) (by omega)
  have e : IntKind.u64.wrap (2 * ((2 ^ c : Nat) : Int)) = ((2 ^ (c + 1) : Nat) : Int) := by
   rw [IntKind.wrap_u64, Nat.pow_succ]
   generalize 2 ^ c = p at *
   omega
  have h := ih (c + 1) (x + 1) (by omega) (by omega)
  rw [show c + 1 + d = c + (d + 1) by omega] at h
  refine Ev.step (fun k => ?_) h
  rw [dH.l0, if_pos (by omega), e, w64 (by omega) (by omega)]
theorem zq (a n : Int) (h0 : 0 ≤ a) (h1 : a < 4294967296) : Ev (fun k => gH.f k a n) (rY a n) := by
 unfold gH.f
 by_cases hn : n ≥ 0
 ·refine Ev.pos hn ?_
  by_cases hm : n ≤ 32
  ·refine Ev.pos hm ?_
   have hs := yg (32 - n).toNat 0 n (by omega) (by omega)
   rw [Nat.zero_add] at hs
   have hpos : 0 < 2 ^ (32 - n).toNat := Nat.two_pow_pos _
   refine Ev.bind (g := fun k => dH.f k n) hs (Ev.neg (by omega) (Ev.now' fun k => ?_))
   congr 1
   have e : Int.tmod (IntKind.u64.wrap a) ((2 ^ (32 - n).toNat : Nat) : Int) = ((a.toNat % 2 ^ (32 - n).toNat : Nat) : Int) := by
    rw [IntKind.wrap_u64, show a % 18446744073709551616 = (a.toNat : Int) by omega, Int.tmod_eq_emod_of_nonneg (by omega)]
    rfl
   rw [e]
   unfold rY
   rw [Bool.eq_iff_iff, beq_iff_eq, decide_eq_true_iff]
   constructor
   ·intro h; exact ⟨hn, hm, by omega⟩
   ·rintro ⟨_, _, h⟩; omega
  ·refine Ev.neg hm (Ev.now' fun k => ?_); congr 1; exact (decide_eq_false (by omega)).symm
 ·refine Ev.neg hn (Ev.now' fun k => ?_); congr 1; exact (decide_eq_false (by omega)).symm
theorem qO (a n : Int) : (pK a n).size ≤ 120 := by
 unfold pK
 by_cases h : rY a n = true
 ·rw [if_pos h, iG, iG]
  have h2 := of_decide_eq_true h
  have := nS a
  have := lF n (by omega) (by omega)
  have : (⟨#[47]⟩ : ByteArray).size = 1 := rfl
  omega
 ·rw [if_neg h]; exact Nat.zero_le _
theorem tQ (a n : Int) (h0 : 0 ≤ a) (h1 : a < 4294967296) : Ev (fun k => dU.f k a n) (pK a n) := by
 unfold dU.f
 refine Ev.bind (zq a n h0 h1) ?_
 have hd := nS a
 have hs : (⟨#[47]⟩ : ByteArray).size = 1 := rfl
 unfold pK
 by_cases h : rY a n = true
 ·rw [if_pos h]
  have h2 := of_decide_eq_true h
  have hi := lF n (by omega) (by omega)
  exact Ev.pos h (Ev.bind (kS a h0 h1) (Ev.pos (by omega) (Ev.bind (mG n (by omega) (by omega)) (Ev.pos (by rw [iG]; omega) (Ev.now _)))))
 ·rw [if_neg h]
  exact Ev.neg h (Ev.now _)
theorem uV (a n : Int) (h0 : 0 ≤ a) (h1 : a < 4294967296) : Ev (fun k => dV.f k a n) (pK a n) := by
 unfold dV.f
 refine Ev.bind (g := fun _ => gp.f a n) (Ev.now' fun _ => zS a n h0 h1) ?_
 have hd := nS a
 have hs : (⟨#[47]⟩ : ByteArray).size = 1 := rfl
 unfold pK
 by_cases h : rY a n = true
 ·rw [if_pos h]
  have h2 := of_decide_eq_true h
  have hi := lF n (by omega) (by omega)
  exact Ev.pos h (Ev.bind (pJ a h0 h1) (Ev.pos (by omega) (Ev.bind (g := fun _ => strconv_Itoa.f n) (Ev.now' fun _ => qM n (by omega) (by omega)) (Ev.pos (by rw [iG]; omega) (Ev.now _)))))
 ·rw [if_neg h]
  exact Ev.neg h (Ev.now _)
end Go.Proofs.YteidaijpaijgpaaGreatDoor.Pc
end
section
namespace Go.Proofs.YteidaijpaijgpaaGreatDoor.P
open Go.RowKit Go.Proofs.YteidaijpaijgpaaGreatDoorW.ay Go.Proofs.YteidaijpaijgpaaGreatDoorW.aQ Go.Proofs.YteidaijpaijgpaaGreatDoorW.aZ
attribute [local go_sem] bz bA bP bQ bq bu bB bC
set_option linter.unusedVariables false
set_option linter.unusedSimpArgs false
def aN.f (l0 : List ByteArray) : Option (ByteArray) := (strings_Join.f l0 (⟨#[32]⟩ : ByteArray)).bind fun bR => (some bR)
set_option maxHeartbeats 8000000 in
set_option maxRecDepth 100000 in
theorem aN.calls (A0 : Option Addr) (c0 : Nat) (l0 : List ByteArray) (r : ByteArray) (w : World) (hr0 : Kd.C Kd.string w A0 l0.length l0) (hc0 : l0.length ≤ c0) (h : aN.f l0 = some r) :
  Calls Tryz.prog 33 #[.slice A0 l0.length c0] w fun e w' => e = .returned (.string r) ∧ Below w.heap.size w w' := by
 have HR0 := ae.mk hr0
 have HC0 := ae.mk hc0
 clear hr0 hc0
 have HB := ae.mk (Below.refl w.heap.size w)
 have H : ((strings_Join.f l0 (⟨#[32]⟩ : ByteArray)).bind fun bR => (some bR)) = some r := h
 clear h
 replace H := Option.bind_eq_some_iff.mp H
 obtain ⟨bR, A20, H⟩ := H
 replace H : (some bR) = some r := H
 have A2 := ae.mk A20
 clear A20
 obtain rfl := Option.some.inj H
 go_enter Tryz.func33, Tryz.ntmps33
 go_wp2_with (first | ((with_reducible refine aH (f := 26) rfl ?_); refine bN (some 4) rfl rfl Tryz.func26 (by kernel_rfl) rfl #[.slice A0 l0.length c0, .string (⟨#[32]⟩ : ByteArray)] rfl qt ?_; (with_reducible refine (strings_Join.calls _ _ l0 (⟨#[32]⟩ : ByteArray) bR _ ?aX ?aY A2.out).mono ?_); (case aX => exact qs (HR0.out)); (case aY => exact HC0.out); rintro e w3 ⟨rfl, hb⟩; refine ⟨_, rfl, ?_⟩; replace HB := ae.mk (aj (qw HB) hb); (try clear hb); (try clear hb2); (try clear hk); (try clear hi)))
 go_ret
 exact ⟨by first | rfl | (simp [errW_none, errW_some] <;> rfl) | (simp [*, errW_none, errW_some] <;> rfl), by repeat (first | (with_reducible first | exact HB.out | apply au | apply ai | apply ak) | exact HB.out)⟩
end Go.Proofs.YteidaijpaijgpaaGreatDoor.P
end
