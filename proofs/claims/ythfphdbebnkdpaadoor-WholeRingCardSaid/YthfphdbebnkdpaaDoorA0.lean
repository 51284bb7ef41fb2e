/- Part 0 of a proof that was merged by a program. -/
import Derived.Below
import Derived.Deep.Draws
import Derived.Deep.AppendLies
import Derived.Maps.AppendAt
import Derived.OwnWalk
import Derived.Laws.BytesArg
import Derived.Laws.MakeOwn
import Derived.Laws.OwnMore
import Derived.Deep.OwnRows
import Derived.Tactics
import Derived.Lib.ConvBytes
import Derived.Laws.Slices
import Derived.WalkKit
import Derived.KernelRfl
import Derived.RowKit3
import Derived.Deep.LoopGhost
import Derived.Deep.QuietTactic
import Derived.BigQuiet
import Derived.WideLaws
import Derived.Deep.DeepCutAuto
import Derived.Deep.CutBlock
import Derived.Deep.RegionHeld3
import Derived.Laws.Rows
import Derived.Lib.AppendStr
import Derived.ArgAppend
import Derived.Laws.IdiomCopy
import Derived.RowKit
import Derived.OrdersHeld
import Derived.Laws.BitsLemmas
import Derived.Test.YthfphdbebnkdpaaDoorRows
import Derived.PinnedBridge
import Derived.Lib.LaidU8
import Derived.LaidHandle
import Derived.LaidLaws
import Derived.ProofKit
import Derived.Laws.StructEq
import Derived.Test.YthfphdbebnkdpaaDoorProg
import Derived.Laws.CopyOwn
import Derived.Lib.Builder
import Derived.Laws.Bits64
import Derived.Lib.Hide
import Derived.Shelf.Strings.Builder1
import Derived.Shelf.Strings.Builder2
import Derived.Shelf.Strings.OnBuilder
import Derived.Shelf.Strings.Trim
import Derived.Shelf.Small.Utf8
import Derived.Shelf.Small.Strs
import Derived.Shelf.Strings.BuilderF
import Derived.Shelf.Strings.BuilderK
import Derived.Shelf.Strings.Builder2Cap
import Derived.Shelf.Strings.Search1
import Derived.Shelf.Strings.Search2
import Derived.Shelf.Strings.Cut
import Derived.Shelf.LaysM
import Derived.Shelf.Strings.Shaped
import Derived.Shelf.Strings.Runes
import Derived.Shelf.Strings.AsciiSet
import Derived.Shelf.Unicode.DecodeSlow
import Derived.Shelf.Strings.BuilderCap
import Derived.OpenShut
import Derived.ShutString
import Derived.ChangeOld
import Derived.Carry
import Derived.SizedLaws
import Derived.Lib.SmallJoins
import Derived.Test.YthfphdbebnkdpaaDoorCards
import Derived.Test.YthfphdbebnkdpaaDoorTie
import Derived.SevenTiedAt
section
set_option linter.unusedVariables false
set_option linter.unusedSimpArgs false
namespace Go.Proofs.YthfphdbebnkdpaaDoorW.aZ
open Go.RowKit
structure ae (p : Prop) : Prop where mk :: (out : p)
structure bZ (w w' : World) : Prop where mk :: (out : ∃ n, w' = w.drewN n)
theorem bZ.refl (w : World) : bZ w w := ⟨⟨0, rfl⟩⟩
theorem bZ.step {w w' : World} (h : bZ w w') (n : Nat) : bZ w (w'.drewN n) := by
  obtain ⟨m, rfl⟩ := h
  exact ⟨⟨m + n, World.drewN_drewN ..⟩⟩
def rd (xs : List Int) (i : Int) : Int := xs.getD i.toNat 0
def bt (s : ByteArray) (i : Int) : Int := if h : i.toNat < s.size then ((s[i.toNat]'h).toNat : Int) else 0
theorem Fy (s : ByteArray) (i : Int) : ∀ h : i.toNat < s.size, ((s[i.toNat]'h).toNat : Int) = bt s i := fun h => by simp [bt, h]
def nums (k : IntKind) (xs : List Int) : List Value := xs.map fun x => .int k x
theorem aM {w W : World} (h : Below w.heap.size w W) (o : Obj) : Below w.heap.size w (W.alloc o) := h.alloc h.size o
theorem uD {B : Nat} {w W : World} (h : Below B w W) : Below B w W.drew := ⟨h.os, h.tape, h.output, h.size, h.block⟩
theorem aD {B : Nat} {w W : World} (h : Below B w W) (n : Nat) : Below B w (W.drewN n) := ⟨h.os, h.tape, h.output, h.size, h.block⟩
theorem xP {B : Nat} {w w1 w2 : World} (h : Below B w w1) (hB : B ≤ w1.heap.size) (k : Below w1.heap.size w1 w2) : Below B w w2 :=
  h.trans ⟨k.os, k.tape, k.output, k.size, fun i hi => k.block i (Nat.lt_of_lt_of_le hi hB)⟩
theorem u7 {w w1 : World} (h : Below w.heap.size w w1) {a : Addr} {v : Value} (hc : w.cell? a = some v) : w1.cell? a = some v := (h.cell (World.block_lt_of_cell? w a hc)).trans hc
theorem add_plain (g j : Nat) : (⟨g, 0, none⟩ : Addr).add j = ⟨g, j, none⟩ := by unfold Addr.add; split <;> simp_all
def ji (w : World) (k : IntKind) (A : Option Addr) (n : Nat) (xs : List Int) : Prop :=
  xs.length = n ∧ n ≤ 9223372036854775807 ∧ (0 < n → ∃ ad, A = some ad ∧ ∀ j, j < n → w.cell? (ad.add j) = some (.int k (xs.getD j 0)))
theorem ji.at_ {w : World} {k : IntKind} {A : Option Addr} {n : Nat} {xs : List Int} (h : ji w k A n xs) (i : Int) (h0 : 0 ≤ i) (h1 : i < n) : ∃ ad, A = some ad ∧ w.cell? (ad.add i.toNat) = some (.int k (rd xs i)) := by
  obtain ⟨ad, e, hc⟩ := h.2.2 (by omega)
  exact ⟨ad, e, hc _ (by omega)⟩
theorem yR (W : World) (base : Nat) (e : TypeId) (size : Nat) : W.ownsRow base e size (.slice none 0 0) 0 [] := ⟨by simp, .inl ⟨rfl, rfl⟩⟩
theorem qG {w : World} {base : Nat} {e : TypeId} {size n : Nat} {v : Value} {xs : List Value} (h : w.ownsRow base e size v n xs) (k : Nat) (hk : v.ownBlock = some k) : base ≤ k := by
  rcases h.2 with ⟨rfl, _⟩ | ⟨g, cap, cur, rfl, hb, _⟩
  · simp [Value.ownBlock] at hk
  · have : g = k := by simpa [Value.ownBlock] using hk
    omega
theorem xQ {w : World} {base : Nat} {e : TypeId} {size n : Nat} {v : Value} {xs : List Value} (h : w.ownsRow base e size v n xs) (k : Nat) (hk : v.ownBlock = some k) : k < w.heap.size := by
  rcases h.2 with ⟨rfl, _⟩ | ⟨g, cap, cur, rfl, hb, hh, _⟩
  · simp [Value.ownBlock] at hk
  · have : g = k := by simpa [Value.ownBlock] using hk
    subst this
    exact (Array.getElem?_eq_some_iff.1 hh).1
theorem zy {w : World} {base n : Nat} {e : TypeId} {size : Nat} {v : Value} {xs : List Value} (h : w.ownsRow base e size v n xs) : ∃ A c, v = .slice A n c := by
  rcases h.2 with ⟨rfl, rfl⟩ | ⟨g, cap, cur, rfl, _⟩
  · exact ⟨none, 0, rfl⟩
  · exact ⟨_, cap, rfl⟩
theorem xR {P : Program} {w : World} {base n : Nat} {e' src dst e : TypeId} {v : Value} {xs : List Int} (hs : P.underlying src = some (.slice e)) (he : P.underlying e = some (.int .u8)) (hd : P.underlying dst = some .string)
    (h : w.ownsRow base e' 1 v n (nums .u8 xs)) : (convert src dst v).run P w = .ok (.string (strOfNums xs)) w := by
  have hl : xs.length = n := by have := h.1; simp [nums] at this; exact this
  rcases h.2 with ⟨rfl, rfl⟩ | ⟨g, cap, cur, rfl, _⟩
  · obtain rfl : xs = [] := List.eq_nil_of_length_eq_zero hl
    exact run_convert_bytes_nil w src e hs he 0 0 dst hd
  · refine run_convert_bytes_arg w src e hs he g 0 n cap xs hl (fun i hi => ?_) dst hd
    have hc := h.cells (g := g) rfl i (.int .u8 (xs.getD i 0)) (by simp [nums, List.getElem?_eq_getElem (show i < xs.length by omega), List.getD_eq_getElem?_getD])
    have ha : (⟨g, 0, none⟩ : Addr).add i = ⟨g, 0 + i, none⟩ := by unfold Addr.add; split <;> simp_all
    rwa [ha] at hc
section
variable {P : Program} {ops : Array Oper} {rest : List Oper} {o : Oper} {a : Act} {Q : Exit → Act → World → Prop}
end
section
variable {P : Program}
end
section
variable {P : Program} {ops : Array Oper} {rest : List Oper} {o : Oper} {a : Act} {Q : Exit → Act → World → Prop}
end
theorem ji.oV {w : World} {k : IntKind} {A : Option Addr} {n : Nat} {xs : List Int} (h : ji w k A n xs) (i : Nat) (hi : i ≤ n) : ji w k A i (xs.take i) := by
  refine ⟨by rw [List.length_take, h.1]; omega, by have := h.2.1; omega, fun hp => ?_⟩
  obtain ⟨ad, e, hc⟩ := h.2.2 (by omega)
  refine ⟨ad, e, fun j hj => ?_⟩
  rw [hc j (by omega)]
  simp [List.getD_eq_getElem?_getD, hj]
theorem ji.Ae {w : World} {k : IntKind} {A : Option Addr} {n c : Nat} {xs : List Int} (h : ji w k A n xs) (i : Nat) (hi : i ≤ n) (hc : n ≤ c) : ji w k (if c = i then A else A.map (·.add i)) (n - i) (xs.drop i) := by
  refine ⟨by rw [List.length_drop, h.1], by have := h.2.1; omega, fun hp => ?_⟩
  obtain ⟨ad, rfl, hcell⟩ := h.2.2 (by omega)
  rw [if_neg (by omega)]
  refine ⟨ad.add i, rfl, fun j hj => ?_⟩
  have ha : (ad.add i).add j = ad.add (i + j) := by
    unfold Addr.add
    by_cases h1 : i = 0 <;> by_cases h2 : j = 0 <;> simp [h1, h2, Nat.add_assoc]
  rw [ha, hcell (i + j) (by omega)]
  simp [List.getD_eq_getElem?_getD, List.getElem?_drop]
theorem Fx {P : Program} (t e : TypeId) (kl : IntKind) {i : TypeInfo} (ht : P.underlying t = some (.slice e)) (hi : P.info? e = some i) (hsz : i.size = 1) (A : Option Addr) (n c m : Nat) (hm : m ≤ n) :
    ∃ A' : Option Addr, (∀ W : World, (Instr.slice t (.slice A n c) (some (.int kl (m : Int))) none none).run P W = .ok (.slice A' (n - m) (c - m)) W) ∧
      ∀ (w : World) (k : IntKind) (xs : List Int), n ≤ c → ji w k A n xs → ji w k A' (n - m) (xs.drop m) := by
  refine ⟨if c = m then A else A.map (·.add m), fun W => ?_, fun w k xs hc h => h.Ae m hm hc⟩
  have hel : P.elem t = e := by simp [Program.elem, ht]
  have hu : P.underlying t = some (.slice (P.elem t)) := by rw [hel]; exact ht
  rw [run_slice_l W t A n c hu kl (m : Int) (Int.natCast_nonneg _) (by omega), hel]
  simp [sizeOf, typeInfo, hi, hsz, sliced, Result.andThen]
def LeO {α : Type} (a b : Option α) : Prop := ∀ r, a = some r → b = some r
theorem LeO.refl {α : Type} (a : Option α) : LeO a a := fun _ h => h
theorem LeO.none {α : Type} (b : Option α) : LeO Option.none b := fun _ h => by cases h
theorem LeO.trans {α : Type} {a b c : Option α} (h : LeO a b) (k : LeO b c) : LeO a c := fun r hr => k r (h r hr)
theorem LeO.ite {α : Type} {c : Prop} [Decidable c] {a a' b b' : Option α} (h : LeO a a') (k : LeO b b') : LeO (if c then a else b) (if c then a' else b') := by
  split
  · exact h
  · exact k
theorem LeO.bind {α β : Type} {a a' : Option α} {f f' : α → Option β} (h : LeO a a') (k : ∀ x, LeO (f x) (f' x)) : LeO (a.bind f) (a'.bind f') := by
  intro r hr
  obtain ⟨x, hx, hf⟩ := Option.bind_eq_some_iff.1 hr
  exact Option.bind_eq_some_iff.2 ⟨x, h x hx, k x r hf⟩
theorem LeO.map {α β : Type} {a a' : Option α} (f : α → β) (h : LeO a a') : LeO (a.map f) (a'.map f) := by
  intro r hr
  obtain ⟨x, hx, hf⟩ := Option.map_eq_some_iff.1 hr
  exact Option.map_eq_some_iff.2 ⟨x, h x hx, hf⟩
theorem tJ {α : Type} {g : Nat → Option α} (h : ∀ k, LeO (g k) (g (k + 1))) (k : Nat) : ∀ j, LeO (g k) (g (k + j))
  | 0 => LeO.refl _
  | j + 1 => (tJ h k j).trans (h (k + j))
theorem zz {α : Type} {g : Nat → Option α} (h : ∀ k, LeO (g k) (g (k + 1))) {k k' : Nat} (hk : k ≤ k') {r : α} (hr : g k = some r) : g k' = some r := by
  have := tJ h k (k' - k) r hr
  rwa [Nat.add_sub_cancel' hk] at this
def iB {α : Type} (R : α → List Value → Prop) (size : Nat) (ps : List α) (cs : List Value) : Prop :=
  cs.length = ps.length * size ∧ ∀ j p, ps[j]? = some p → R p ((cs.drop (j * size)).take size)
theorem iB.none {α : Type} (R : α → List Value → Prop) (size : Nat) : iB R size [] [] := ⟨by simp, fun j p h => by simp at h⟩
theorem iB.snoc {α : Type} {R : α → List Value → Prop} {size : Nat} {ps : List α} {cs c : List Value} {p : α} (h : iB R size ps cs) (hp : R p c) (hc : c.length = size) : iB R size (ps ++ [p]) (cs ++ c) := by
  refine ⟨by rw [List.length_append, h.1, hc, List.length_append, List.length_singleton, Nat.add_mul, Nat.one_mul], fun j q hq => ?_⟩
  rcases Nat.lt_or_ge j ps.length with hj | hj
  · rw [List.getElem?_append_left hj] at hq
    have h1 : j * size + size ≤ cs.length := by rw [h.1, ← Nat.succ_mul]; exact Nat.mul_le_mul_right _ hj
    have h2 := h.2 j q hq
    rw [List.drop_append_of_le_length (by omega), List.take_append_of_le_length (by rw [List.length_drop]; omega)]
    exact h2
  · have hj' : j = ps.length := by
      have := (List.getElem?_eq_some_iff.1 hq).1
      rw [List.length_append, List.length_singleton] at this
      omega
    subst hj'
    have hq' : p = q := by simpa using hq
    subst hq'
    rw [← h.1, List.drop_left, ← hc, List.take_length]
    exact hp
theorem iB.uj {α : Type} {R R' : α → List Value → Prop} {size : Nat} {ps : List α} {cs : List Value} (h : iB R size ps cs) (hR : ∀ p c, R p c → R' p c) : iB R' size ps cs := ⟨h.1, fun j p hj => hR _ _ (h.2 j p hj)⟩
def nu {α : Type} (R : α → List Value → Prop) (size : Nat) (w : World) (A : Option Addr) (n : Nat) (ps : List α) : Prop :=
  ps.length = n ∧ n ≤ 9223372036854775807 ∧ (0 < n → ∃ ad, A = some ad ∧ ∀ j p, ps[j]? = some p → ∃ c, c.length = size ∧ R p c ∧ ∀ i u, c[i]? = some u → w.cell? (ad.add (j * size + i)) = some u)
theorem nu.I4 {α : Type} {R : α → List Value → Prop} {size : Nat} {w : World} {A : Option Addr} {n : Nat} {ps : List α} (h : nu R size w A n ps) (d : α) (i : Int) (h0 : 0 ≤ i) (h1 : i < n) :
    ∃ ad c, A = some ad ∧ c.length = size ∧ R (ps.getD i.toNat d) c ∧ ∀ j u, c[j]? = some u → w.cell? (ad.add (i.toNat * size + j)) = some u := by
  obtain ⟨ad, e, hc⟩ := h.2.2 (by omega)
  have hl : i.toNat < ps.length := by have := h.1; omega
  obtain ⟨c, hs, hr, hcell⟩ := hc i.toNat _ (List.getElem?_eq_getElem hl)
  refine ⟨ad, c, e, hs, ?_, hcell⟩
  rw [List.getD_eq_getElem?_getD, List.getElem?_eq_getElem hl]
  exact hr
theorem nu.uj {α : Type} {R R' : α → List Value → Prop} {size : Nat} {w w1 : World} {A : Option Addr} {n : Nat} {ps : List α} (h : nu R size w A n ps) (hb : Below w.heap.size w w1) (hR : ∀ p c, R p c → R' p c) : nu R' size w1 A n ps :=
  ⟨h.1, h.2.1, fun hn => by
    obtain ⟨ad, e, hc⟩ := h.2.2 hn
    refine ⟨ad, e, fun j p hj => ?_⟩
    obtain ⟨c, hs, hr, hcell⟩ := hc j p hj
    exact ⟨c, hs, hR _ _ hr, fun i u hu => u7 hb (hcell i u hu)⟩⟩
theorem vk {α : Type} {R : α → List Value → Prop} {w : World} {base n size : Nat} {e : TypeId} {v : Value} {ps : List α} {cs : List Value} (h : w.ownsRow base e size v n cs) (hR : iB R size ps cs) (hn : ps.length = n) :
    ∃ A c, v = .slice A n c ∧ nu R size w A n ps := by
  rcases Nat.eq_zero_or_pos n with h0 | h0
  · rcases h.2 with ⟨rfl, rfl⟩ | ⟨g, cap, cur, rfl, _⟩
    · exact ⟨none, 0, rfl, hn, by omega, fun hp => absurd hp (by omega)⟩
    · exact ⟨_, cap, rfl, hn, by omega, fun hp => absurd hp (by omega)⟩
  · obtain ⟨g, cap, rfl, _, _⟩ := h.form h0
    have hm : n ≤ 9223372036854775807 := by
      rcases h.2 with ⟨_, h1⟩ | ⟨g', cap', cur, he, _, _, h1, h2, _⟩
      · omega
      · simp only [maxLen] at h2
        omega
    refine ⟨_, cap, rfl, hn, hm, fun _ => ⟨_, rfl, fun j p hj => ⟨(cs.drop (j * size)).take size, ?_, hR.2 j p hj, fun i u hu => ?_⟩⟩⟩
    · have hjl := (List.getElem?_eq_some_iff.1 hj).1
      have h1 : j * size + size ≤ cs.length := by rw [hR.1, ← Nat.succ_mul]; exact Nat.mul_le_mul_right _ hjl
      rw [List.length_take, List.length_drop]
      omega
    · refine h.cells (g := g) rfl _ u ?_
      rw [List.getElem?_take] at hu
      split at hu
      · rw [List.getElem?_drop] at hu
        exact hu
      · cases hu
section
variable {P : Program} {ops : Array Oper} {rest : List Oper} {o : Oper} {a : Act} {Q : Exit → Act → World → Prop}
theorem rO {w0 W : World} (base : Nat) (hgd : o.guard = none) (s x : Operand) (t e : TypeId) (z : Value) (size bytes : Nat)
    (ho : o.op = .call { callee := .builtin .append, args := #[s, x], argTypes := #[t, t] })
    (ht : P.underlying t = some (.slice e)) (hinfo : (P.info? e).map (fun i => (i.zero, i.size, i.bytes)) = some (some z, size, bytes)) (hz : z.cells.size = size) (hs0 : 0 < size) (hb0 : 0 < bytes)
    (v : Value) (n : Nat) (xs ys : List Value) (hs : a.eval s = v) (hx : a.eval x = .slice (some ⟨W.heap.size, 0, none⟩) 1 1) (hys : ys.length = size) (h1 : ∀ u ∈ ys, u.oneCell' = true)
    (HO : W.ownsRow base e size v n xs) (HB : Below base w0 W) (hbase : base ≤ W.heap.size) (hl : (n + 1) * bytes ≤ 140737488355328)
    (h : ∀ v1 w1, w1.ownsRow base e size v1 (n + 1) (xs ++ ys) → Below base w0 w1 → W.grownBy w1 v.ownBlock → (v1.ownBlock = v.ownBlock ∨ ∃ b, v1.ownBlock = some b ∧ W.heap.size ≤ b) → wpList P ops Q rest (a.put o.dst v1) w1) :
    wpList P ops Q (o :: rest) a (W.alloc (.cells ys.toArray e)) := by
  obtain ⟨i0, hi, hzz⟩ := Option.map_eq_some_iff.1 hinfo
  simp only [Prod.mk.injEq] at hzz
  obtain ⟨hz0, hz1, hz2⟩ := hzz
  have hlen : n + 1 ≤ 140737488355328 := Nat.le_trans (Nat.le_mul_of_pos_right _ hb0) hl
  refine wpList_append_own_at (W.alloc (.cells ys.toArray e)) hgd s x t ho base e i0 z size bytes ht hi hz0 hz1 hz2 hz hs0 v n xs hs (HO.alloc _) ⟨W.heap.size, 0, none⟩ 1 1 ys hx (by rw [hys]; simp)
    (by simpa using World.news_of_block (cs := ys.toArray) (t := e) (fr := (0, 0)) (heap_alloc_new W (.cells ys.toArray e))) h1 (by simp only [maxLen]; omega) hl (by simp; omega) ?_
  intro v1 w1 hown hg _ hat
  refine h v1 w1 hown ((HB.alloc hbase _).grown hg (by simp; omega) (qG HO)) (World.grownBy.trans (World.grownBy_alloc W _ _) hg) ?_
  rcases hat with hat | hat
  · exact .inl hat
  · exact .inr ⟨_, hat, by simp⟩
end
theorem BR {w : World} {g : Nat} {t : TypeId} {cs : Array Value} (h : w.heap[g]? = some (.cells cs t (0, 0))) (i : Nat) (u : Value) : (w.setCell ⟨g, i, none⟩ u).heap[g]? = some (.cells (cs.setIfInBounds i u) t (0, 0)) := by
  simp [World.setCell, Array.getElem?_modify, h]
theorem bN {w : World} {g : Nat} {t : TypeId} {cs : Array Value} (h : w.heap[g]? = some (.cells cs t (0, 0))) {p : Addr} (hp : g ≠ p.block) (u : Value) : (w.setCell p u).heap[g]? = some (.cells cs t (0, 0)) := (Below.heap_setCell w p u g hp).trans h
theorem ww {w : World} {g : Nat} {o : Obj} (h : w.heap[g]? = some o) : g < w.heap.size := (Array.getElem?_eq_some_iff.1 h).1
theorem af {w : World} {g : Nat} {t : TypeId} {cs : Array Value} (h : w.heap[g]? = some (.cells cs t (0, 0))) (i : Nat) : w.cell? ⟨g, i, none⟩ = cs[i]? := cell_of_row w g i cs t (0, 0) h
theorem aK {w : World} {g : Nat} {t : TypeId} {cs : Array Value} (h : w.heap[g]? = some (.cells cs t (0, 0))) (i : Nat) : w.frozen? ⟨g, i, none⟩ = false := by simp [World.frozen?, h]
def uB (w w' : World) (g : Nat) (row : Option Nat) : Prop := w.heap.size ≤ w'.heap.size ∧ ∀ i, i < w.heap.size → i ≠ g → some i ≠ row → w'.heap[i]? = w.heap[i]?
theorem uB.trans {w w1 w2 : World} {g : Nat} {row row1 : Option Nat} (h : uB w w1 g row) (k : uB w1 w2 g row1) (hr : row1 = row ∨ ∃ b, row1 = some b ∧ w.heap.size ≤ b) : uB w w2 g row :=
  ⟨Nat.le_trans h.1 k.1, fun i hi hg hn => by
    refine (k.2 i (Nat.lt_of_lt_of_le hi h.1) hg ?_).trans (h.2 i hi hg hn)
    rcases hr with rfl | ⟨b, rfl, hb⟩
    · exact hn
    · intro e
      injection e with e
      omega⟩
def Ev {α : Type} (g : Nat → Option α) (r : α) : Prop := ∃ K, ∀ k, K ≤ k → g k = some r
theorem Ev.of {α : Type} {g : Nat → Option α} {r : α} (hg : ∀ k, LeO (g k) (g (k + 1))) {k : Nat} (h : g k = some r) : Ev g r := ⟨k, fun _ hk => zz hg hk h⟩
theorem Ev.now {α : Type} (r : α) : Ev (fun _ => some r) r := ⟨0, fun _ _ => rfl⟩
theorem Ev.rounds {α : Type} {g : Nat → Option α} {r : α} (h : Ev g r) : ∃ k, g k = some r := by
  obtain ⟨K, h⟩ := h
  exact ⟨K, h K (Nat.le_refl _)⟩
theorem Ev.bind {α β : Type} {g : Nat → Option α} {f : Nat → α → Option β} {a : α} {r : β} (h : Ev g a) (k : Ev (fun n => f n a) r) : Ev (fun n => (g n).bind (f n)) r := by
  obtain ⟨K, h⟩ := h
  obtain ⟨K', k⟩ := k
  refine ⟨max K K', fun n hn => ?_⟩
  have h1 := h n (by omega)
  have h2 := k n (by omega)
  simp only [h1, Option.bind_some]
  exact h2
theorem Ev.step {α : Type} {g f : Nat → Option α} {r : α} (h : ∀ k, g (k + 1) = f k) (k : Ev f r) : Ev g r := by
  obtain ⟨K, k⟩ := k
  refine ⟨K + 1, fun n hn => ?_⟩
  obtain ⟨m, rfl⟩ : ∃ m, n = m + 1 := ⟨n - 1, by omega⟩
  rw [h]
  exact k m (by omega)
theorem Ev.congr {α : Type} {g f : Nat → Option α} {r : α} (h : ∀ k, g k = f k) (k : Ev f r) : Ev g r := by
  obtain ⟨K, k⟩ := k
  exact ⟨K, fun n hn => (h n).trans (k n hn)⟩
section
variable {P : Program} {ops : Array Oper} {o : Oper} {a : Act} {Q : Exit → Act → World → Prop} {K : Act → World → Prop}
end
theorem xS {w : World} {base base' : Nat} {e : TypeId} {size n : Nat} {v : Value} {xs : List Value} (h : w.ownsRow base e size v n xs) (hb : base' ≤ base) : w.ownsRow base' e size v n xs := by
  obtain ⟨h1, h2⟩ := h
  refine ⟨h1, ?_⟩
  rcases h2 with h2 | ⟨g, cap, cur, rfl, hg, r⟩
  · exact .inl h2
  · exact .inr ⟨g, cap, cur, rfl, Nat.le_trans hb hg, r⟩
section
variable {α : Type} {enc : α → Value} {d : α}
def encs (enc : α → Value) (xs : List α) : List Value := xs.map enc
def vo (d : α) (xs : List α) (i : Int) : α := xs.getD i.toNat d
theorem tK (xs : List α) : (encs enc xs).length = xs.length := by simp [encs]
theorem Af (xs : List α) (j : Nat) (h : j < xs.length) : (encs enc xs)[j]? = some (enc (xs.getD j d)) := by
  simp [encs, List.getElem?_eq_getElem h, List.getD_eq_getElem?_getD]
def jY (enc : α → Value) (d : α) (w : World) (A : Option Addr) (n : Nat) (xs : List α) : Prop :=
  xs.length = n ∧ n ≤ 9223372036854775807 ∧ (0 < n → ∃ ad, A = some ad ∧ ∀ j, j < n → w.cell? (ad.add j) = some (enc (xs.getD j d)))
theorem jY.at_ {w : World} {A : Option Addr} {n : Nat} {xs : List α} (h : jY enc d w A n xs) (i : Int) (h0 : 0 ≤ i) (h1 : i < n) : ∃ ad, A = some ad ∧ w.cell? (ad.add i.toNat) = some (enc (vo d xs i)) := by
  obtain ⟨ad, e, hc⟩ := h.2.2 (by omega)
  exact ⟨ad, e, hc _ (by omega)⟩
theorem jY.oV {w : World} {A : Option Addr} {n : Nat} {xs : List α} (h : jY enc d w A n xs) (i : Nat) (hi : i ≤ n) : jY enc d w A i (xs.take i) := by
  refine ⟨by rw [List.length_take, h.1]; omega, by have := h.2.1; omega, fun hp => ?_⟩
  obtain ⟨ad, e, hc⟩ := h.2.2 (by omega)
  refine ⟨ad, e, fun j hj => ?_⟩
  rw [hc j (by omega)]
  simp [List.getD_eq_getElem?_getD, hj]
theorem jY.Ae {w : World} {A : Option Addr} {n c : Nat} {xs : List α} (h : jY enc d w A n xs) (i : Nat) (hi : i ≤ n) (hc : n ≤ c) : jY enc d w (if c = i then A else A.map (·.add i)) (n - i) (xs.drop i) := by
  refine ⟨by rw [List.length_drop, h.1], by have := h.2.1; omega, fun hp => ?_⟩
  obtain ⟨ad, rfl, hcell⟩ := h.2.2 (by omega)
  rw [if_neg (by omega)]
  refine ⟨ad.add i, rfl, fun j hj => ?_⟩
  have ha : (ad.add i).add j = ad.add (i + j) := by
    unfold Addr.add
    by_cases h1 : i = 0 <;> by_cases h2 : j = 0 <;> simp [h1, h2, Nat.add_assoc]
  rw [ha, hcell (i + j) (by omega)]
  simp [List.getD_eq_getElem?_getD, List.getElem?_drop]
theorem wy {P : Program} (enc : α → Value) (d : α) (t e : TypeId) (kl : IntKind) {i : TypeInfo} (ht : P.underlying t = some (.slice e)) (hi : P.info? e = some i) (hsz : i.size = 1) (A : Option Addr) (n c m : Nat) (hm : m ≤ n) :
    ∃ A' : Option Addr, (∀ W : World, (Instr.slice t (.slice A n c) (some (.int kl (m : Int))) none none).run P W = .ok (.slice A' (n - m) (c - m)) W) ∧
      ∀ (w : World) (xs : List α), n ≤ c → jY enc d w A n xs → jY enc d w A' (n - m) (xs.drop m) := by
  refine ⟨if c = m then A else A.map (·.add m), fun W => ?_, fun w xs hc h => h.Ae m hm hc⟩
  have hel : P.elem t = e := by simp [Program.elem, ht]
  have hu : P.underlying t = some (.slice (P.elem t)) := by rw [hel]; exact ht
  rw [run_slice_l W t A n c hu kl (m : Int) (Int.natCast_nonneg _) (by omega), hel]
  simp [sizeOf, typeInfo, hi, hsz, sliced, Result.andThen]
theorem zA {W : World} {base g n cap : Nat} {e : TypeId} {xs : List α} (h : W.ownsRow base e 1 (.slice (some ⟨g, 0, none⟩) n cap) n (encs enc xs)) (i : Int) (h0 : 0 ≤ i) (h1 : i < n) :
    W.cell? ⟨g, i.toNat, none⟩ = some (enc (vo d xs i)) ∧ W.frozen? ⟨g, i.toNat, none⟩ = false := by
  have hl : xs.length = n := by have := h.1; simp [encs] at this; exact this
  constructor
  · have hc := h.cells (g := g) rfl i.toNat _ (Af (d := d) xs i.toNat (by omega))
    rwa [add_plain] at hc
  · rcases h.2 with ⟨h', _⟩ | ⟨g', cap', cur, h', _, hh, _⟩
    · cases h'
    · have : g = g' := by injection h' with h'; injection h' with h'; injection h' with h'
      subst this
      simp [World.frozen?, hh]
theorem wz {W : World} {base g n cap : Nat} {e : TypeId} {xs : List α} (h : W.ownsRow base e 1 (.slice (some ⟨g, 0, none⟩) n cap) n (encs enc xs)) (i : Int) (x : α) :
    (W.setCell ⟨g, i.toNat, none⟩ (enc x)).ownsRow base e 1 (.slice (some ⟨g, 0, none⟩) n cap) n (encs enc (xs.set i.toNat x)) ∧ W.grownBy (W.setCell ⟨g, i.toNat, none⟩ (enc x)) (some g) := by
  have hs := h.stored i.toNat (enc x)
  have he : (encs enc xs).set i.toNat (enc x) = encs enc (xs.set i.toNat x) := by simp [encs, List.map_set]
  rwa [he] at hs
end
section
variable {α : Type} {P : Program} {ops : Array Oper} {rest : List Oper} {o : Oper} {a : Act} {Q : Exit → Act → World → Prop}
end
def Fz (v v' : Value) : Prop := ∀ k, v.ownBlock = some k → v'.ownBlock ≠ some k
theorem FB {W w1 : World} {v1 v' : Value} {base n size n1 size1 : Nat} {e e1 : TypeId} {xs xs1 : List Value} (h1 : w1.ownsRow W.heap.size e1 size1 v1 n1 xs1) (ho : W.ownsRow base e size v' n xs) : Fz v1 v' := by
  intro k hk hk'
  have h2 := qG h1 k hk
  have h3 := xQ ho k hk'
  omega
theorem bO {w : World} {g : Nat} {o : Obj} (h : w.heap[g]? = some o) (o' : Obj) : (w.alloc o').heap[g]? = some o := (Below.heap_alloc w o' g (ww h)).trans h
theorem bf {w : World} {g : Nat} {o : Obj} (h : w.heap[g]? = some o) : w.drew.heap[g]? = some o := h
theorem bP {w : World} {g : Nat} {o : Obj} (h : w.heap[g]? = some o) (n : Nat) : (w.drewN n).heap[g]? = some o := h
theorem pW {w w1 : World} {g : Nat} {o : Obj} (h : w.heap[g]? = some o) (hb : Below w.heap.size w w1) : w1.heap[g]? = some o := (hb.block g (ww h)).trans h
theorem BS (w : World) (o : Obj) : (w.alloc o).heap[w.heap.size]? = some o := heap_alloc_new w o
section
variable {P : Program}
theorem Eb {fn : Func} {p u : Tmp} {ty : TypeId} (h : fn.results = #[.cell p ty, .tmp u]) (tmps : Array Value) (w : World) (g : Nat) (t : TypeId) (cs : Array Value) (fr : Nat × Nat) (d : TypeDesc)
    (hp : tmps.getD p undef = .pointer (some ⟨g, 0, none⟩)) (hg : w.heap[g]? = some (.cells cs t fr))
    (hu : P.underlying ty = some d) (hd : (match d with | .struct _ | .array _ _ => true | _ => false) = true) (hi : (P.info? ty).map (·.size) = some cs.size) :
    (results fn tmps).run P w = .ok (.tuple #[.agg cs, tmps.getD u undef]) w := by
  have hp' : tmps[p]?.getD undef = .pointer (some ⟨g, 0, none⟩) := by simpa using hp
  simp [results, h, hp', asAddr, run_loadVar_row w g t ty cs fr d hg hu hd hi]
end
theorem Ec {w : World} {base n m c size : Nat} {e : TypeId} {A : Option Addr} {xs : List Value} (h : w.ownsRow base e size (.slice A m c) n xs) : m ≤ c := by
  rcases h.2 with ⟨he, _⟩ | ⟨g, cap, cur, he, _, _, hnc, _⟩
  · injection he with _ h2 h3
    omega
  · injection he with _ h2 h3
    omega
def pK {α : Type} (R : α → List Value → Prop) (e : TypeId) (size : Nat) (w : World) (base : Nat) (v : Value) (ps : List α) : Prop :=
  ∃ inner, w.ownsRow base e size v ps.length inner ∧ iB R size ps inner
section
variable {α : Type} {R R' : α → List Value → Prop} {e : TypeId} {size : Nat} {w w1 : World} {base : Nat} {v : Value} {ps : List α}
theorem pK.none_ (R : α → List Value → Prop) (e : TypeId) (size : Nat) (w : World) (base : Nat) : pK R e size w base (.slice none 0 0) [] := ⟨[], yR _ _ _ _, iB.none _ _⟩
theorem pK.uj (h : pK R e size w base v ps) (hR : ∀ p c, R p c → R' p c) : pK R' e size w base v ps := by
  obtain ⟨inner, ho, hr⟩ := h
  exact ⟨inner, ho, hr.uj hR⟩
theorem pK.reads (h : pK R e size w base v ps) : ∃ A c, v = .slice A ps.length c ∧ ps.length ≤ c ∧ nu R size w A ps.length ps := by
  obtain ⟨inner, ho, hr⟩ := h
  obtain ⟨A, c, rfl, hrow⟩ := vk ho hr rfl
  exact ⟨A, c, rfl, Ec ho, hrow⟩
end
section
variable {P : Program} {ops : Array Oper} {rest : List Oper} {o : Oper} {a : Act} {Q : Exit → Act → World → Prop} {α : Type} {R : α → List Value → Prop}
end
section
variable {P : Program} {ops : Array Oper} {o : Oper} {a : Act} {Q : Exit → Act → World → Prop} {K : Act → World → Prop} {α : Type} {R : α → List Value → Prop}
end
section
variable {α : Type} {P : Program}
theorem vv (enc : α → Value) (d : α) (t e : TypeId) (kl : IntKind) {i : TypeInfo} (ht : P.underlying t = some (.slice e)) (hi : P.info? e = some i) (hsz : i.size = 1) (A : Option Addr) (c : Nat) (xs : List α) (j : Int) (h0 : 0 ≤ j) (hm : j ≤ xs.length) (hc : xs.length ≤ c) :
    (∀ W : World, (Instr.slice t (.slice A xs.length c) none (some (.int kl j)) none).run P W = .ok (.slice A (xs.take j.toNat).length c) W) ∧
      (∀ w : World, jY enc d w A xs.length xs → jY enc d w A (xs.take j.toNat).length (xs.take j.toNat)) ∧ (xs.take j.toNat).length ≤ c := by
  have hl : (xs.take j.toNat).length = j.toNat := by rw [List.length_take]; omega
  refine ⟨fun W => ?_, fun w h => by rw [hl]; exact h.oV j.toNat (by omega), by rw [hl]; omega⟩
  have hel : P.elem t = e := by simp [Program.elem, ht]
  have hu : P.underlying t = some (.slice (P.elem t)) := by rw [hel]; exact ht
  have ha : (A.map fun x => x.add 0) = A := by cases A <;> simp [Addr.add]
  rw [run_slice_h W t A xs.length c hu kl j h0 (by omega), hel, hl]
  simp [sizeOf, typeInfo, hi, hsz, sliced, Result.andThen, ha]
theorem vw (enc : α → Value) (d : α) (t e : TypeId) (kl : IntKind) {i : TypeInfo} (ht : P.underlying t = some (.slice e)) (hi : P.info? e = some i) (hsz : i.size = 1) (A : Option Addr) (c : Nat) (xs : List α) (j : Int) (h0 : 0 ≤ j) (hm : j ≤ xs.length) (hc : xs.length ≤ c) :
    ∃ A' : Option Addr, (∀ W : World, (Instr.slice t (.slice A xs.length c) (some (.int kl j)) none none).run P W = .ok (.slice A' (xs.drop j.toNat).length (c - j.toNat)) W) ∧
      (∀ w : World, jY enc d w A xs.length xs → jY enc d w A' (xs.drop j.toNat).length (xs.drop j.toNat)) ∧ (xs.drop j.toNat).length ≤ c - j.toNat := by
  obtain ⟨m, rfl⟩ := Int.eq_ofNat_of_zero_le h0
  simp only [Int.toNat_natCast]
  have hmn : m ≤ xs.length := by omega
  obtain ⟨A', h1, h2⟩ := wy (P := P) enc d t e kl ht hi hsz A xs.length c m hmn
  have hl : (xs.drop m).length = xs.length - m := List.length_drop
  exact ⟨A', fun W => by rw [hl]; exact h1 W, fun w h => by rw [hl]; exact h2 w xs hc h, by rw [hl]; omega⟩
end
section
variable {P : Program} {ops : Array Oper} {rest : List Oper} {o : Oper} {a : Act} {Q : Exit → Act → World → Prop}
end
structure Kd (α : Type) where
  sz : Nat
  E : List Nat
  K : World → α → List Value → Prop
  M : World → Nat → (Nat → Prop) → α → List Value → Prop
  K_len : ∀ {w x cs}, K w x cs → cs.length = sz
  K_one : ∀ {w x cs}, K w x cs → ∀ u ∈ cs, u.oneCell' = true
  K_below : ∀ {w w1 : World} {x cs}, Below w.heap.size w w1 → K w x cs → K w1 x cs
  K_of_M : ∀ {w base ok x cs}, M w base ok x cs → K w x cs
  M_mono : ∀ {w base ok ok' x cs}, (∀ k, ok k → ok' k) → M w base ok x cs → M w base ok' x cs
  M_bound : ∀ {w : World} {base ok x cs}, M w base ok x cs → M w base (fun k => ok k ∧ base ≤ k ∧ k < w.heap.size ∧ ∃ q, q ∈ E ∧ ∃ cells, w.heap[k]? = some (.cells cells q (0, 0))) x cs
  M_move : ∀ {w w1 : World} {base ok x cs}, (∀ k, ok k → w1.heap[k]? = w.heap[k]?) → M w base ok x cs → M w1 base ok x cs
  M_lower : ∀ {w base base' ok x cs}, base' ≤ base → M w base ok x cs → M w base' ok x cs
theorem Ag {w w1 : World} {base : Nat} {e : TypeId} {size n : Nat} {v : Value} {xs : List Value} (h : w.ownsRow base e size v n xs) (hm : ∀ k, v.ownBlock = some k → w1.heap[k]? = w.heap[k]?) : w1.ownsRow base e size v n xs := by
  obtain ⟨h1, h2⟩ := h
  refine ⟨h1, ?_⟩
  rcases h2 with h2 | ⟨g, cap, cur, rfl, hg, hh, r⟩
  · exact .inl h2
  · exact .inr ⟨g, cap, cur, rfl, hg, (hm g (by simp [Value.ownBlock])).trans hh, r⟩
theorem sQ {w : World} {base : Nat} {e : TypeId} {size n : Nat} {v : Value} {xs : List Value} (h : w.ownsRow base e size v n xs) (k : Nat) (hk : v.ownBlock = some k) : ∃ cells, w.heap[k]? = some (.cells cells e (0, 0)) := by
  rcases h.2 with ⟨rfl, _⟩ | ⟨g, cap, cur, rfl, hg, hh, r⟩
  · simp [Value.ownBlock] at hk
  · have : g = k := by simpa [Value.ownBlock] using hk
    subst this
    exact ⟨cur, hh⟩
namespace Kd
def C {α : Type} (d : Kd α) (w : World) (A : Option Addr) (n : Nat) (xs : List α) : Prop := nu (d.K w) d.sz w A n xs
def R {α : Type} (d : Kd α) (e : Nat) (w : World) (base : Nat) (ok : Nat → Prop) (v : Value) (xs : List α) : Prop :=
  (∀ k, v.ownBlock = some k → ok k) ∧ pK (d.M w base (fun k => ok k ∧ some k ≠ v.ownBlock)) e d.sz w base v xs
section
variable {α : Type} {d : Kd α} {e : Nat} {w w1 : World} {base : Nat} {ok ok' : Nat → Prop} {v : Value} {xs : List α}
theorem dS {A : Option Addr} {n : Nat} (h : d.C w A n xs) (hb : Below w.heap.size w w1) : d.C w1 A n xs := nu.uj h hb (fun _ _ hp => d.K_below hb hp)
theorem pu (d : Kd α) (e : Nat) (w : World) (base : Nat) (ok : Nat → Prop) : d.R e w base ok (.slice none 0 0) [] := ⟨fun k hk => by simp [Value.ownBlock] at hk, pK.none_ _ _ _ _ _⟩
theorem bG (h : d.R e w base ok v xs) (hok : ∀ k, ok k → ok' k) : d.R e w base ok' v xs := ⟨fun k hk => hok k (h.1 k hk), h.2.uj (fun _ _ hp => d.M_mono (fun k hk => ⟨hok k hk.1, hk.2⟩) hp)⟩
theorem nR (h : d.R e w base ok v xs) : d.R e w base (fun k => ok k ∧ base ≤ k ∧ k < w.heap.size ∧ ∃ q, q ∈ e :: d.E ∧ ∃ cells, w.heap[k]? = some (.cells cells q (0, 0))) v xs := by
  obtain ⟨h0, inner, ho, hr⟩ := h
  refine ⟨fun k hk => ?_, inner, ho, hr.uj (fun _ _ hp => d.M_mono (fun k hk => ?_) (d.M_bound hp))⟩
  · obtain ⟨cells, hc⟩ := sQ ho k hk
    exact ⟨h0 k hk, qG ho k hk, xQ ho k hk, e, List.mem_cons_self, cells, hc⟩
  · obtain ⟨⟨h1, h2⟩, h3, h4, q, hq, hc⟩ := hk
    exact ⟨⟨h1, h3, h4, q, List.mem_cons_of_mem _ hq, hc⟩, h2⟩
theorem sS (h : d.R e w base ok v xs) (hm : ∀ k, ok k → w1.heap[k]? = w.heap[k]?) : d.R e w1 base ok v xs := by
  obtain ⟨h0, inner, ho, hr⟩ := h
  exact ⟨h0, inner, Ag ho (fun k hk => hm k (h0 k hk)), hr.uj (fun _ _ hp => d.M_move (fun k hk => hm k hk.1) hp)⟩
theorem bz {base' : Nat} (h : d.R e w base ok v xs) (hb : base' ≤ base) : d.R e w base' ok v xs := by
  obtain ⟨h0, inner, ho, hr⟩ := h
  exact ⟨h0, inner, xS ho hb, hr.uj (fun _ _ hp => d.M_lower hb hp)⟩
theorem uE (h : d.R e w base ok v xs) (hm : ∀ k, ok k → k < w.heap.size → w1.heap[k]? = w.heap[k]?) : d.R e w1 base ok v xs :=
  bG (sS (nR h) (fun k hk => hm k hk.1 hk.2.2.1)) (fun _ hk => hk.1)
theorem Ed {x : α} {cs : List Value} (h : d.M w base ok x cs) (hm : ∀ k, ok k → k < w.heap.size → w1.heap[k]? = w.heap[k]?) : d.M w1 base ok x cs :=
  d.M_mono (fun _ hk => hk.1) (d.M_move (fun k hk => hm k hk.1 hk.2.2.1) (d.M_bound h))
theorem aI (h : d.R e w base ok v xs) (hb : Below w.heap.size w w1) : d.R e w1 base ok v xs := uE h (fun k _ hk => hb.block k hk)
theorem BU {x : α} {cs : List Value} (h : d.M w base ok x cs) (hb : Below w.heap.size w w1) : d.M w1 base ok x cs := Ed h (fun k _ hk => hb.block k hk)
theorem bH (h : d.R e w base ok v xs) {p : Addr} (hok : ∀ k, ok k → k ≠ p.block) (u : Value) : d.R e (w.setCell p u) base ok v xs := uE h (fun k ho _ => Below.heap_setCell w p u k (hok k ho))
theorem bU (h : d.R e w base ok v xs) {g t : Nat} {cells : Array Value} (hb : w.heap[g]? = some (.cells cells t (0, 0))) (ht : ∀ q, q ∈ e :: d.E → q ≠ t) : d.R e w base (fun k => ok k ∧ k ≠ g) v xs :=
  bG (nR h) (fun k hk => ⟨hk.1, by
    obtain ⟨_, _, _, q, hq, cells', hc⟩ := hk
    rintro rfl
    rw [hc] at hb
    injection hb with hb
    injection hb with _ hb
    exact ht q hq hb⟩)
theorem wB (h : d.R e w base ok v xs) : ∃ A c, v = .slice A xs.length c ∧ xs.length ≤ c ∧ d.C w A xs.length xs := by
  obtain ⟨A, c, he, hl, hr⟩ := pK.reads h.2
  exact ⟨A, c, he, hl, hr.uj (Below.refl _ _) (fun _ _ hp => d.K_of_M hp)⟩
theorem bD (h : d.R e w base ok v xs) : ∃ A c, v = .slice A xs.length c := by
  obtain ⟨A, c, he, _⟩ := wB h
  exact ⟨A, c, he⟩
theorem wV (h : d.R e w base ok v xs) : ∃ inner, w.ownsRow base e d.sz v xs.length inner := by
  obtain ⟨_, inner, ho, _⟩ := h
  exact ⟨inner, ho⟩
end
def scalar {α : Type} (enc : α → Value) (h1 : ∀ x, (enc x).oneCell' = true) : Kd α where
  sz := 1
  E := []
  K := fun _ x cs => cs = [enc x]
  M := fun _ _ _ x cs => cs = [enc x]
  K_len := fun h => by rw [h]; rfl
  K_one := fun h u hu => by
    rw [h] at hu
    rw [List.mem_singleton.1 hu]
    exact h1 _
  K_below := fun _ h => h
  K_of_M := fun h => h
  M_mono := fun _ h => h
  M_bound := fun h => h
  M_move := fun _ h => h
  M_lower := fun _ h => h
def int (k : IntKind) : Kd Int := scalar (Value.int k) (fun _ => rfl)
def string : Kd ByteArray := scalar Value.string (fun _ => rfl)
def slice {α : Type} (e : Nat) (d : Kd α) : Kd (List α) where
  sz := 1
  E := e :: d.E
  K := fun w xs cs => ∃ A c, cs = [.slice A xs.length c] ∧ xs.length ≤ c ∧ d.C w A xs.length xs
  M := fun w base ok xs cs => ∃ v, cs = [v] ∧ d.R e w base ok v xs
  K_len := by
    rintro w x cs ⟨A, c, rfl, _⟩
    rfl
  K_one := by
    rintro w x cs ⟨A, c, rfl, _⟩ u hu
    rw [List.mem_singleton.1 hu]
    rfl
  K_below := by
    rintro w w1 x cs hb ⟨A, c, rfl, hl, hr⟩
    exact ⟨A, c, rfl, hl, dS hr hb⟩
  K_of_M := by
    rintro w base ok x cs ⟨v, rfl, h⟩
    obtain ⟨A, c, rfl, hl, hr⟩ := wB h
    exact ⟨A, c, rfl, hl, hr⟩
  M_mono := by
    rintro w base ok ok' x cs hok ⟨v, rfl, h⟩
    exact ⟨v, rfl, bG h hok⟩
  M_bound := by
    rintro w base ok x cs ⟨v, rfl, h⟩
    exact ⟨v, rfl, nR h⟩
  M_move := by
    rintro w w1 base ok x cs hm ⟨v, rfl, h⟩
    exact ⟨v, rfl, sS h hm⟩
  M_lower := by
    rintro w base base' ok x cs hb ⟨v, rfl, h⟩
    exact ⟨v, rfl, bz h hb⟩
def bot {α : Type} (sz : Nat) (E : List Nat) : Kd α where
  sz := sz
  E := E
  K := fun _ _ _ => False
  M := fun _ _ _ _ _ => False
  K_len := fun h => h.elim
  K_one := fun h => h.elim
  K_below := fun _ h => h
  K_of_M := fun h => h
  M_mono := fun _ h => h
  M_bound := fun h => h
  M_move := fun _ h => h
  M_lower := fun _ h => h
def upto {α : Type} (F : Kd α → Kd α) (sz : Nat) (E : List Nat) : Nat → Kd α
  | 0 => bot sz E
  | n + 1 => F (upto F sz E n)
theorem FC {α : Type} {d : Kd α} {w : World} {A : Option Addr} {n : Nat} {xs : List α} (h : d.C w A n xs) (z : α) (i : Int) (h0 : 0 ≤ i) (h1 : i < n) :
    ∃ ad c, A = some ad ∧ c.length = d.sz ∧ d.K w (xs.getD i.toNat z) c ∧ ∀ j u, c[j]? = some u → w.cell? (ad.add (i.toNat * d.sz + j)) = some u := nu.I4 h z i h0 h1
theorem xU {α : Type} {d : Kd α} {e base : Nat} {ok okp : Nat → Prop} {W w1 : World} {v v1 : Value} {xs : List α} {p : α} {inner cs : List Value} (h0 : ∀ k, v.ownBlock = some k → ok k) (hr : iB (d.M W base (fun k => ok k ∧ some k ≠ v.ownBlock)) d.sz xs inner) (hp : d.M W base okp p cs) (hokp : ∀ k, okp k → ok k ∧ some k ≠ v.ownBlock) (hfresh : ∀ k, W.heap.size ≤ k → ok k)
    (hown : w1.ownsRow base e d.sz v1 (xs.length + 1) (inner ++ cs)) (hg : W.grownBy w1 v.ownBlock) (hat : v1.ownBlock = v.ownBlock ∨ ∃ b, v1.ownBlock = some b ∧ W.heap.size ≤ b) : d.R e w1 base ok v1 (xs ++ [p]) := by
  have hne : ∀ k, some k ≠ v.ownBlock → k < W.heap.size → some k ≠ v1.ownBlock := by
    intro k hk hlt
    rcases hat with hat | ⟨b, hb, hle⟩
    · rw [hat]; exact hk
    · rw [hb]
      intro he
      injection he with he
      omega
  have step : ∀ {q : α} {c : List Value} {o : Nat → Prop}, d.M W base o q c → (∀ k, o k → ok k ∧ some k ≠ v.ownBlock) → d.M w1 base (fun k => ok k ∧ some k ≠ v1.ownBlock) q c := by
    intro q c o hq ho
    have h1 := d.M_move (w1 := w1) (fun k hk => hg.block k hk.2.2.1 (ho k hk.1).2) (d.M_bound hq)
    exact d.M_mono (fun k hk => ⟨(ho k hk.1).1, hne k (ho k hk.1).2 hk.2.2.1⟩) h1
  refine ⟨fun k hk => ?_, inner ++ cs, by rw [List.length_append, List.length_singleton]; exact hown, ?_⟩
  · rcases hat with hat | ⟨b, hb, hle⟩
    · exact h0 k (hat ▸ hk)
    · rw [hb] at hk
      injection hk with hk
      exact hfresh k (by omega)
  · exact (hr.uj (fun _ _ hq => step hq (fun _ hk => hk))).snoc (step hp hokp) (d.K_len (d.K_of_M hp))
section
variable {P : Program} {ops : Array Oper} {rest : List Oper} {o : Oper} {a : Act} {Q : Exit → Act → World → Prop} {α : Type}
theorem uF (d : Kd α) {w0 W : World} (base : Nat) (hgd : o.guard = none) (s x : Operand) (t e : TypeId) (z : Value) (bytes : Nat)
    (ho : o.op = .call { callee := .builtin .append, args := #[s, x], argTypes := #[t, t] })
    (ht : P.underlying t = some (.slice e)) (hinfo : (P.info? e).map (fun i => (i.zero, i.size, i.bytes)) = some (some z, d.sz, bytes)) (hz : z.cells.size = d.sz) (hs0 : 0 < d.sz) (hb0 : 0 < bytes)
    (v : Value) (xs : List α) (p : α) (cs : List Value) (ok okp : Nat → Prop) (hs : a.eval s = v) (hx : a.eval x = .slice (some ⟨W.heap.size, 0, none⟩) 1 1) (hp : d.M W base okp p cs) (hokp : ∀ k, okp k → ok k ∧ some k ≠ v.ownBlock) (hfresh : ∀ k, W.heap.size ≤ k → ok k)
    (HO : d.R e W base ok v xs) (HB : Below base w0 W) (hbase : base ≤ W.heap.size) (hl : (xs.length + 1) * bytes ≤ 140737488355328)
    (h : ∀ v1 w1, d.R e w1 base ok v1 (xs ++ [p]) → Below base w0 w1 → W.grownBy w1 v.ownBlock → (v1.ownBlock = v.ownBlock ∨ ∃ b, v1.ownBlock = some b ∧ W.heap.size ≤ b) → wpList P ops Q rest (a.put o.dst v1) w1) :
    wpList P ops Q (o :: rest) a (W.alloc (.cells cs.toArray e)) := by
  obtain ⟨h0, inner, hown, hr⟩ := HO
  refine rO base hgd s x t e z d.sz bytes ho ht hinfo hz hs0 hb0 v xs.length inner cs hs hx (d.K_len (d.K_of_M hp)) (d.K_one (d.K_of_M hp)) hown HB hbase hl ?_
  intro v1 w1 hown1 hb1 hg1 hat1
  exact h v1 w1 (xU h0 hr hp hokp hfresh hown1 hg1 hat1) hb1 hg1 hat1
end
section
variable {P : Program} {ops : Array Oper} {o : Oper} {a : Act} {Q : Exit → Act → World → Prop} {Kc : Act → World → Prop} {α : Type}
end
theorem wW {α : Type} {enc : α → Value} (xs : List α) : iB (fun (x : α) (cs : List Value) => cs = [enc x]) 1 xs (encs enc xs) := by
  refine ⟨by simp [encs], fun j p hj => ?_⟩
  obtain ⟨hl, hp⟩ := List.getElem?_eq_some_iff.1 hj
  have hl' : j < (encs enc xs).length := by rw [tK]; exact hl
  rw [Nat.mul_one, List.drop_eq_getElem_cons hl']
  simp [encs, hp]
theorem uG {α : Type} {enc : α → Value} {h1 : ∀ x, (enc x).oneCell' = true} {e : Nat} {w : World} {base : Nat} {ok : Nat → Prop} {v : Value} {xs : List α} (ho : w.ownsRow base e 1 v xs.length (encs enc xs)) (hok : ∀ k, v.ownBlock = some k → ok k) : (scalar enc h1).R e w base ok v xs := ⟨hok, encs enc xs, ho, wW xs⟩
theorem qH {α : Type} {enc : α → Value} {h1 : ∀ x, (enc x).oneCell' = true} {e : Nat} {w : World} {base : Nat} {ok : Nat → Prop} {v : Value} {xs : List α} (h : (scalar enc h1).R e w base ok v xs) : w.ownsRow base e 1 v xs.length (encs enc xs) := by
  obtain ⟨_, inner, ho, hr⟩ := h
  have : inner = encs enc xs := by
    apply List.ext_getElem?
    intro j
    rcases Nat.lt_or_ge j xs.length with hj | hj
    · have h2 := hr.2 j _ (List.getElem?_eq_getElem hj)
      have hl : j < inner.length := by have := hr.1; simp [scalar] at this; omega
      have h3 : (inner.drop (j * 1)).take 1 = [enc xs[j]] := h2
      rw [Nat.mul_one, List.drop_eq_getElem_cons hl] at h3
      have h4 : inner[j] = enc xs[j] := by
        have h5 := congrArg List.head? h3
        rw [List.take_succ_cons] at h5
        exact Option.some.inj h5
      rw [List.getElem?_eq_getElem hl, h4]
      simp [encs, List.getElem?_eq_getElem hj]
    · have h3 : inner.length = xs.length := by have := hr.1; simp [scalar] at this; omega
      rw [List.getElem?_eq_none (by omega), List.getElem?_eq_none (by rw [tK]; omega)]
  rw [← this]
  exact ho
theorem rP {α : Type} {enc : α → Value} {d : α} {h1 : ∀ x, (enc x).oneCell' = true} {w : World} {A : Option Addr} {n : Nat} {xs : List α} (h : jY enc d w A n xs) : (scalar enc h1).C w A n xs := by
  refine ⟨h.1, h.2.1, fun hn => ?_⟩
  obtain ⟨ad, e, hc⟩ := h.2.2 hn
  refine ⟨ad, e, fun j p hj => ⟨[enc p], rfl, rfl, fun i u hu => ?_⟩⟩
  obtain ⟨hl, hp⟩ := List.getElem?_eq_some_iff.1 hj
  have h2 := hc j (by have := h.1; omega)
  rw [List.getD_eq_getElem?_getD, hj] at h2
  cases i with
  | zero =>
    have : enc p = u := by simpa using hu
    subst this
    simpa [scalar] using h2
  | succ i => simp at hu
theorem nO {α : Type} {enc : α → Value} {d : α} {h1 : ∀ x, (enc x).oneCell' = true} {w : World} {A : Option Addr} {n : Nat} {xs : List α} (h : (scalar enc h1).C w A n xs) : jY enc d w A n xs := by
  refine ⟨h.1, h.2.1, fun hn => ?_⟩
  obtain ⟨ad, e, hc⟩ := h.2.2 hn
  refine ⟨ad, e, fun j hj => ?_⟩
  have hl : j < xs.length := by have := h.1; omega
  obtain ⟨c, _, hK, hcell⟩ := hc j _ (List.getElem?_eq_getElem hl)
  have hK' : c = [enc xs[j]] := hK
  subst hK'
  have := hcell 0 _ rfl
  simpa [scalar, List.getD_eq_getElem?_getD, List.getElem?_eq_getElem hl] using this
end Kd
namespace Kd
section
variable {α : Type} {F : Kd α → Kd α} {sz : Nat} {E : List Nat} {hs : ∀ n, (upto F sz E n).sz = sz} {hE : ∀ n q, q ∈ (upto F sz E n).E → q ∈ E}
end
end Kd
namespace Kd
theorem q8 {α : Type} {d : Kd α} {e base : Nat} {ok : Nat → Prop} {W w1 : World} {u v v1 : Value} {xs : List α} (h : d.R e W base (fun k => ok k ∧ some k ≠ v.ownBlock) u xs) (hg : W.grownBy w1 v.ownBlock) (hat : v1.ownBlock = v.ownBlock ∨ ∃ b, v1.ownBlock = some b ∧ W.heap.size ≤ b) : d.R e w1 base (fun k => ok k ∧ some k ≠ v1.ownBlock) u xs := by
  refine bG (sS (nR h) (fun k hk => hg.block k hk.2.2.1 hk.1.2)) (fun k hk => ⟨hk.1.1, ?_⟩)
  rcases hat with hat | ⟨b, hb, hle⟩
  · rw [hat]; exact hk.1.2
  · rw [hb]
    intro he
    injection he with he
    have := hk.2.2.1
    omega
end Kd
namespace Kd
section
variable {α β : Type} {d : Kd α} {d' : Kd β} {e e' : Nat} {w w1 W : World} {base b b' : Nat} {ok ok' okv oku : Nat → Prop} {v u : Value} {xs : List α} {ys : List β}
theorem bu (h : d.R e w base ok v xs) (o : Obj) : d.R e (w.alloc o) base ok v xs := aI h (aM (Below.refl _ _) o)
theorem bg (h : d.R e w base ok v xs) : d.R e w.drew base ok v xs := aI h (uD (Below.refl _ _))
theorem bv (h : d.R e w base ok v xs) (m : Nat) : d.R e (w.drewN m) base ok v xs := aI h (aD (Below.refl _ _) m)
theorem q9 {A : Option Addr} {n : Nat} (h : d.C w A n xs) (o : Obj) : d.C (w.alloc o) A n xs := dS h (aM (Below.refl _ _) o)
theorem sU {A : Option Addr} {n : Nat} (h : d.C w A n xs) : d.C w.drew A n xs := dS h (uD (Below.refl _ _))
theorem rf {A : Option Addr} {n : Nat} (h : d.C w A n xs) (m : Nat) : d.C (w.drewN m) A n xs := dS h (aD (Below.refl _ _) m)
theorem ak {A : Option Addr} {n c : Nat} (h : d.R e w base ok (.slice A n c) xs) : n = xs.length ∧ n ≤ c ∧ d.C w A xs.length xs := by
  obtain ⟨A', c', he, hl, hr⟩ := wB h
  injection he with h1 h2 h3
  subst h1
  exact ⟨h2, by omega, hr⟩
theorem aY (h : d.R e w base ok v xs) : ∀ k, v.ownBlock = some k → k < w.heap.size := by
  obtain ⟨inner, ho⟩ := wV h
  exact xQ ho
theorem az (h : d.R e w base ok v xs) : ∀ k, v.ownBlock = some k → base ≤ k := by
  obtain ⟨inner, ho⟩ := wV h
  exact qG ho
theorem nP (h : d.R e w base ok v xs) (hp : 0 < xs.length) : ∃ g cap, v = .slice (some ⟨g, 0, none⟩) xs.length cap ∧ base ≤ g ∧ g < w.heap.size ∧ ∃ cells, w.heap[g]? = some (.cells cells e (0, 0)) := by
  obtain ⟨inner, ho⟩ := wV h
  obtain ⟨g, cap, he, hb, hl⟩ := ho.form hp
  obtain ⟨cells, hc⟩ := sQ ho g (by rw [he]; simp [Value.ownBlock])
  exact ⟨g, cap, he, hb, hl, cells, hc⟩
theorem I1 (hu : d'.R e' W b oku u ys) (h : d.R e w1 W.heap.size okv v xs) (hb : Below W.heap.size W w1) : d'.R e' w1 b (fun k => oku k ∧ some k ≠ v.ownBlock) u ys := by
  obtain ⟨inner, ho⟩ := wV h
  exact bG (sS (nR hu) (fun k hk => hb.block k hk.2.2.1)) (fun k hk => ⟨hk.1, fun he => by have := qG ho k he.symm; have := hk.2.2.1; omega⟩)
end
section
variable {w W : World} {A : Option Addr} {n : Nat}
theorem gH {k : IntKind} {xs : List Int} (h : (Kd.int k).C w A n xs) (i : Int) (h0 : 0 ≤ i) (h1 : i < n) : ∃ ad, A = some ad ∧ w.cell? (ad.add i.toNat) = some (.int k (rd xs i)) :=
  jY.at_ (nO (enc := Value.int k) (d := (0 : Int)) (h1 := fun _ => rfl) h) i h0 h1
theorem zB {xs : List ByteArray} (h : Kd.string.C w A n xs) (i : Int) (h0 : 0 ≤ i) (h1 : i < n) : ∃ ad, A = some ad ∧ w.cell? (ad.add i.toNat) = some (.string (vo ByteArray.empty xs i)) :=
  jY.at_ (nO (enc := Value.string) (d := ByteArray.empty) (h1 := fun _ => rfl) h) i h0 h1
variable {α : Type} {enc : α → Value} {h1 : ∀ x, (enc x).oneCell' = true} {e base g cap : Nat} {ok : Nat → Prop} {xs : List α}
theorem Ee (d : α) (h : (scalar enc h1).R e W base ok (.slice (some ⟨g, 0, none⟩) xs.length cap) xs) (i : Int) (h0 : 0 ≤ i) (hi : i < xs.length) : W.cell? ⟨g, i.toNat, none⟩ = some (enc (vo d xs i)) ∧ W.frozen? ⟨g, i.toNat, none⟩ = false := zA (qH h) i h0 hi
theorem Df (h : (scalar enc h1).R e W base ok (.slice (some ⟨g, 0, none⟩) xs.length cap) xs) (i : Int) (x : α) : (scalar enc h1).R e (W.setCell ⟨g, i.toNat, none⟩ (enc x)) base ok (.slice (some ⟨g, 0, none⟩) xs.length cap) (xs.set i.toNat x) ∧ W.grownBy (W.setCell ⟨g, i.toNat, none⟩ (enc x)) (some g) := by
  obtain ⟨ho, hg⟩ := wz (qH h) i x
  exact ⟨uG (by rw [List.length_set]; exact ho) h.1, hg⟩
end
section
variable {P : Program} {ops : Array Oper} {rest : List Oper} {o : Oper} {a : Act} {Q : Exit → Act → World → Prop}
theorem sV {W w1 : World} {v : Value} (hgd : o.guard = none) (hrun : (execOp a.eval o).run P W = .ok (.value v) w1) (h : wpList P ops Q rest (a.put o.dst v) w1) : wpList P ops Q (o :: rest) a W := by
  refine wpList_plain hgd fun K hK => ?_
  unfold Oper.wp
  rw [hrun]
  exact hK _ _ h
variable {α : Type}
theorem yS (d : Kd α) {w0 W : World} (base e : Nat) (hgd : o.guard = none) {N : Tmp} (_hd : o.dst = some N) {xs : List α} {inner : List Value} {ok okp : Nat → Prop}
    (hrun : (execOp a.eval o).run P W = .ok (.value (.slice (some ⟨W.heap.size, 0, none⟩) xs.length xs.length)) (W.alloc (.cells inner.toArray e)))
    (hrep : iB (d.M W base okp) d.sz xs inner) (hok : ∀ k, okp k → ok k) (hfresh : ok W.heap.size) (HB : Below base w0 W) (hbase : base ≤ W.heap.size) (hm : xs.length ≤ 9223372036854775807)
    (h : ∀ v1 w1, d.R e w1 base ok v1 xs → Below base w0 w1 → W.grownBy w1 none → (∃ b, v1.ownBlock = some b ∧ W.heap.size ≤ b) → wpList P ops Q rest (a.put o.dst v1) w1) : wpList P ops Q (o :: rest) a W := by
  refine sV hgd hrun (h _ _ ⟨fun k hk => ?_, inner, ?_, ?_⟩ (HB.alloc hbase _) (World.grownBy_alloc W _ none) ⟨W.heap.size, by simp [Value.ownBlock], Nat.le_refl _⟩)
  · have : W.heap.size = k := by simpa [Value.ownBlock] using hk
    subst this
    exact hfresh
  · have h2 := World.ownsRow_lit (base := base) (e := e) (size := d.sz) W inner.toArray xs.length hbase (by simpa [maxLen] using hm) (by simpa using hrep.1)
    simpa using h2
  · refine hrep.uj (fun p c hp => d.M_mono (fun k hk => ⟨hok k hk.1, fun he => ?_⟩) (BU (d.M_bound hp) (aM (Below.refl _ _) _)))
    have h3 : k = W.heap.size := by simpa [Value.ownBlock] using he
    have := hk.2.2.1
    omega
theorem zC {α : Type} {R : α → List Value → Prop} {z : Value} {size : Nat} {z0 : α} (hz : z.cells.size = size) (hs : 0 < size) (h0 : R z0 z.cells.toList) (m : Nat) : iB R size (List.replicate m z0) (madeCells z.cells (m * size)).toList := by
  refine ⟨by simp [size_madeCells], fun j p hj => ?_⟩
  obtain ⟨hjl, hp⟩ := List.getElem?_eq_some_iff.1 hj
  have hjm : j < m := by simpa using hjl
  have hp' : z0 = p := by simpa using hp
  subst hp'
  have hle : j * size + size ≤ m * size := by rw [← Nat.succ_mul]; exact Nat.mul_le_mul_right _ hjm
  have : ((madeCells z.cells (m * size)).toList.drop (j * size)).take size = z.cells.toList := by
    apply List.ext_getElem
    · simp [size_madeCells, hz]
      omega
    · intro i h1 h2
      have hi : i < size := by rw [Array.length_toList, hz] at h2; exact h2
      have hmod : (j * size + i) % size = i := by
        rw [Nat.mul_comm, Nat.mul_add_mod]
        exact Nat.mod_eq_of_lt hi
      simp [madeCells, hz, hmod]
      rw [getElem!_pos z.cells i (by omega)]
  rw [this]
  exact h0
theorem pM (d : Kd α) {w0 W : World} (base e : Nat) (hgd : o.guard = none) {N : Tmp} (hd : o.dst = some N) (t : TypeId) (x y : Operand) (ho : o.op = .makeSlice t x y) (n : Int) (hx : a.eval x = .int .i64 n) (hy : a.eval y = .int .i64 n)
    (ht : P.underlying t = some (.slice e)) (z : Value) (bytes : Nat) (hinfo : (P.info? e).map (fun i => (i.zero, i.size, i.bytes)) = some (some z, d.sz, bytes)) (hz : z.cells.size = d.sz) (hs0 : 0 < d.sz) (hb0 : 0 < bytes)
    (z0 : α) {ok okp : Nat → Prop} (hzero : d.M W base okp z0 z.cells.toList) (hok : ∀ k, okp k → ok k) (hfresh : ok W.heap.size) (h0 : 0 ≤ n) (hl : n.toNat * bytes ≤ 281474976710656) (HB : Below base w0 W) (hbase : base ≤ W.heap.size)
    (h : ∀ v1 w1, d.R e w1 base ok v1 (List.replicate n.toNat z0) → Below base w0 w1 → W.grownBy w1 none → (∃ b, v1.ownBlock = some b ∧ W.heap.size ≤ b) → wpList P ops Q rest (a.put o.dst v1) w1) : wpList P ops Q (o :: rest) a W := by
  obtain ⟨m, rfl⟩ := Int.eq_ofNat_of_zero_le h0
  simp only [Int.toNat_natCast] at hl h
  obtain ⟨i0, hi, hzz⟩ := Option.map_eq_some_iff.1 hinfo
  simp only [Prod.mk.injEq] at hzz
  obtain ⟨hz0, hz1, hz2⟩ := hzz
  have hm : m ≤ 281474976710656 := Nat.le_trans (Nat.le_mul_of_pos_right _ hb0) hl
  have hr := run_make (P := P) W t e i0 z ht hi hz0 .i64 .i64 (m : Int) (m : Int) (by omega) (by omega)
    (by
      have h3 : ((i0.bytes * m : Nat) : Int) ≤ 281474976710656 := by rw [hz2, Nat.mul_comm]; omega
      rwa [Int.natCast_mul] at h3) (by omega)
  simp only [Int.toNat_natCast] at hr
  rw [hz1] at hr
  refine yS d base e hgd hd (xs := List.replicate m z0) (inner := (madeCells z.cells (m * d.sz)).toList) (okp := okp) (ok := ok) ?_ (zC hz hs0 hzero m) hok hfresh HB hbase (by simp; omega) h
  simp [execOp, ho, hx, hy, hr]
end
end Kd
theorem Ah {w : World} {base n m c size : Nat} {e : TypeId} {A : Option Addr} {xs : List Value} (h : w.ownsRow base e size (.slice A n c) n xs) (hm : m ≤ n) : w.ownsRow base e size (.slice A m c) m (xs.take (m * size)) := by
  obtain ⟨h1, h2⟩ := h
  refine ⟨by rw [List.length_take, h1]; exact Nat.min_eq_left (Nat.mul_le_mul_right _ hm), ?_⟩
  rcases h2 with ⟨he, h0⟩ | ⟨g, cap, cur, he, hb, hh, hnc, hcm, hcs, ht⟩
  · injection he with ha _ hc
    subst ha; subst hc
    exact .inl ⟨by rw [show m = 0 by omega], by omega⟩
  · injection he with ha _ hc
    subst ha; subst hc
    refine .inr ⟨g, c, cur, rfl, hb, hh, by omega, hcm, hcs, ?_⟩
    rw [← ht, List.take_take, Nat.min_eq_left (Nat.mul_le_mul_right _ hm)]
section
variable {P : Program}
theorem xV (t e : TypeId) (kh : IntKind) {i : TypeInfo} (ht : P.underlying t = some (.slice e)) (hi : P.info? e = some i) (A : Option Addr) (n c : Nat) (j : Int) (h0 : 0 ≤ j) (hm : j ≤ n) (hc : n ≤ c) :
    ∀ W : World, (Instr.slice t (.slice A n c) none (some (.int kh j)) none).run P W = .ok (.slice A j.toNat c) W := by
  intro W
  have hel : P.elem t = e := by simp [Program.elem, ht]
  have hu : P.underlying t = some (.slice (P.elem t)) := by rw [hel]; exact ht
  have ha : (A.map fun x => x.add 0) = A := by cases A <;> simp [Addr.add]
  rw [run_slice_h W t A n c hu kh j h0 (by omega), hel]
  simp [sizeOf, typeInfo, hi, sliced, Result.andThen, ha]
end
def I5 (w : World) (base : Nat) (e : TypeId) (size : Nat) (v : Value) (n : Nat) (xs : List Value) : Prop :=
  xs.length = n * size ∧
  ((n = 0 ∧ ∃ A, v = .slice A 0 0 ∧ ∀ a, A = some a → base ≤ a.block ∧ ∃ cur, w.heap[a.block]? = some (.cells cur e (0, 0))) ∨
   ∃ g off cap cur, v = .slice (some ⟨g, off * size, none⟩) n cap ∧ base ≤ g ∧ w.heap[g]? = some (.cells cur e (0, 0)) ∧ n ≤ cap ∧ off + cap ≤ maxLen ∧ cur.size = (off + cap) * size ∧ (cur.toList.drop (off * size)).take (n * size) = xs)
section
variable {w w1 : World} {base n size : Nat} {e : TypeId} {v : Value} {xs : List Value}
theorem xW (g o j : Nat) : (⟨g, o, none⟩ : Addr).add j = ⟨g, o + j, none⟩ := by unfold Addr.add; split <;> simp_all
end
section
variable {P : Program}
end
namespace Kd
theorem zD {α : Type} {R : α → List Value → Prop} {size m : Nat} {ps : List α} {cs : List Value} (h : iB R size ps cs) (hm : m ≤ ps.length) : iB R size (ps.take m) (cs.take (m * size)) := by
  refine ⟨by rw [List.length_take, List.length_take, h.1, Nat.min_eq_left hm, Nat.min_eq_left (Nat.mul_le_mul_right _ hm)], fun j p hj => ?_⟩
  rw [List.getElem?_take] at hj
  split at hj
  · rename_i hjm
    have := h.2 j p hj
    have hle : j * size + size ≤ m * size := by rw [← Nat.succ_mul]; exact Nat.mul_le_mul_right _ hjm
    rw [List.drop_take, List.take_take, Nat.min_eq_left (by omega)]
    exact this
  · cases hj
theorem xX {α : Type} {d : Kd α} {e m n c : Nat} {w : World} {base : Nat} {ok : Nat → Prop} {A : Option Addr} {xs : List α} (h : d.R e w base ok (.slice A n c) xs) (hm : m ≤ xs.length) : d.R e w base ok (.slice A m c) (xs.take m) := by
  obtain ⟨h0, inner, ho, hr⟩ := h
  have hn : n = xs.length := by
    obtain ⟨A', c', he⟩ := zy ho
    injection he
  subst hn
  have hb : ∀ x y : Nat, (Value.slice A x c).ownBlock = (Value.slice A y c).ownBlock := by
    intro x y
    cases A <;> rfl
  refine ⟨fun k hk => h0 k (by rw [hb _ m]; exact hk), inner.take (m * d.sz), ?_, ?_⟩
  · rw [List.length_take, Nat.min_eq_left hm]
    exact Ah ho hm
  · rw [hb m xs.length]
    exact zD hr hm
def Q {α : Type} (d : Kd α) (e : Nat) (w : World) (base : Nat) (ok : Nat → Prop) (v : Value) (xs : List α) : Prop :=
  (∀ k, v.ownBlock = some k → ok k) ∧ ∃ inner, I5 w base e d.sz v xs.length inner ∧ iB (d.M w base (fun k => ok k ∧ some k ≠ v.ownBlock)) d.sz xs inner
section
variable {α : Type} {d : Kd α} {e : Nat} {w w1 W : World} {base : Nat} {ok ok' : Nat → Prop} {v : Value} {xs : List α}
end
section
variable {P : Program} {ops : Array Oper} {rest : List Oper} {o : Oper} {a : Act} {Q' : Exit → Act → World → Prop} {Kc : Act → World → Prop} {α : Type}
end
end Kd
namespace Kd
section
variable {α : Type} {d : Kd α} {e e' : Nat} {w w1 W : World} {base : Nat} {ok : Nat → Prop} {u v : Value} {xs : List α}
theorem yT (h : d.R e w base ok v xs) : ∀ k, v.ownBlock = some k → ∃ cells, w.heap[k]? = some (.cells cells e (0, 0)) := by
  obtain ⟨inner, ho⟩ := wV h
  exact fun k hk => sQ ho k hk
theorem yU (h : d.R e W base ok u xs) (hty : ∀ k, v.ownBlock = some k → ∃ cells, W.heap[k]? = some (.cells cells e' (0, 0))) (ht : ∀ q, q ∈ e :: d.E → q ≠ e') (hg : W.grownBy w1 v.ownBlock) : d.R e w1 base ok u xs := by
  refine bG (sS (nR h) (fun k hk => hg.block k hk.2.2.1 (fun he => ?_))) (fun _ hk => hk.1)
  obtain ⟨_, _, _, q, hq, cells, hc⟩ := hk
  obtain ⟨cells', hc'⟩ := hty k he.symm
  rw [hc] at hc'
  injection hc' with hc'
  injection hc' with _ hc'
  exact ht q hq hc'
theorem aj (hu : d.R e W base ok u xs) (hbase : ∀ k, v.ownBlock = some k → W.heap.size ≤ k) (hb : Below W.heap.size W w1) : d.R e w1 base (fun k => ok k ∧ some k ≠ v.ownBlock) u xs :=
  bG (sS (nR hu) (fun k hk => hb.block k hk.2.2.1)) (fun k hk => ⟨hk.1, fun he => by have := hbase k he.symm; have := hk.2.2.1; omega⟩)
theorem aA (h : d.R e w1 W.heap.size ok v xs) (hlt : ∀ k, u.ownBlock = some k → k < W.heap.size) : d.R e w1 W.heap.size (fun k => ok k ∧ some k ≠ u.ownBlock) v xs :=
  bG (nR h) (fun k hk => ⟨hk.1, fun he => by have := hlt k he.symm; have := hk.2.1; omega⟩)
theorem fresh' (hlt : ∀ k, u.ownBlock = some k → k < W.heap.size) : ∀ k, W.heap.size ≤ k → some k ≠ u.ownBlock := fun k hk he => by have := hlt k he.symm; omega
end
end Kd
namespace Kd
section
variable {α : Type} {d : Kd α} {e base g n cap : Nat} {ok okp : Nat → Prop} {W : World} {xs : List α}
end
end Kd
namespace Kd
section
variable {α : Type} {F : Kd α → Kd α} {sz : Nat} {E : List Nat} {hs : ∀ n, (upto F sz E n).sz = sz} {hE : ∀ n q, q ∈ (upto F sz E n).E → q ∈ E}
end
end Kd
namespace Kd
section
variable {P : Program} {ops : Array Oper} {rest : List Oper} {o : Oper} {a : Act} {Q : Exit → Act → World → Prop} {α : Type}
end
end Kd
namespace Kd
section
variable {P : Program} {ops : Array Oper} {rest : List Oper} {o : Oper} {a : Act} {Q : Exit → Act → World → Prop} {α : Type}
end
end Kd
namespace Kd
section
variable {α : Type} {k : Kd α} {w : World} {A : Option Addr} {xs : List α} {m c : Nat}
end
end Kd
section
variable {P : Program}
end
theorem aN {w W : World} (h : Below w.heap.size w W) : w.heap.size ≤ W.heap.size := h.size
theorem av {w W w2 : World} (h : Below w.heap.size w W) (k : Below W.heap.size W w2) : Below w.heap.size w w2 := xP h h.size k
theorem ji.nil (W : World) (k : IntKind) : ji W k none ([] : List Int).length [] := ⟨rfl, by simp, fun h => absurd h (Nat.lt_irrefl 0)⟩
theorem ji.ofRow {k : IntKind} {w : World} {a : Option Addr} {len cap : Nat} {zs : List Int} (h : (a = none ∧ len = 0 ∧ cap = 0 ∧ zs = []) ∨ ∃ x, a = some x ∧ len ≤ cap ∧ cap ≤ maxLen ∧ zs.length = cap ∧ (∀ i, i < zs.length → w.cell? (x.add i) = some (.int k (zs.getD i 0))) ∧ ∀ n ∈ zs, (Lit.int k n).wf = true) :
    ∃ l : List Int, len = l.length ∧ ji w k a l.length l ∧ l.length ≤ maxLen ∧ ∀ x ∈ l, (Lit.int k x).wf = true := by
  rcases h with ⟨rfl, rfl, rfl, rfl⟩ | ⟨x, rfl, hl, hm, hz, hc, hw⟩
  · exact ⟨[], rfl, ji.nil _ _, Nat.zero_le _, fun x hx => by simp at hx⟩
  · have e : (zs.take len).length = len := by simp; omega
    have hm' : len ≤ maxLen := Nat.le_trans hl hm
    refine ⟨zs.take len, e.symm, ⟨rfl, by rw [e]; simpa [maxLen] using hm', fun _ => ⟨x, rfl, fun j hj => ?_⟩⟩, by rw [e]; exact hm', fun y hy => hw y (List.mem_of_mem_take hy)⟩
    rw [e] at hj
    rw [hc j (by omega)]
    simp [List.getD, List.getElem?_take, hj]
theorem aQ {w W : World} {g j : Nat} {v : Value} (h : Below w.heap.size w W) (hg : w.heap.size ≤ g) : Below w.heap.size w (W.setCell ⟨g, j, none⟩ v) := h.setCell hg _
theorem cell_far {W : World} {p a : Addr} (h : a.block ≠ p.block) (u : Value) : (W.setCell p u).cell? a = W.cell? a := by
  have := Below.heap_setCell W p u a.block h
  simp [World.cell?, this]
theorem dG {w : World} {g : Nat} {t : TypeId} {cs cs' : Array Value} (h : w.heap[g]? = some (.cells cs t (0, 0))) (i : Nat) (u : Value) (e : cs.setIfInBounds i u = cs') : (w.setCell ⟨g, i, none⟩ u).heap[g]? = some (.cells cs' t (0, 0)) := e ▸ BR h i u
theorem ji.Ef {k : IntKind} {w : World} {a : Option Addr} {len cap : Nat} {zs : List Int} (h : (a = none ∧ len = 0 ∧ cap = 0 ∧ zs = []) ∨ ∃ x, a = some x ∧ len ≤ cap ∧ cap ≤ maxLen ∧ zs.length = cap ∧ (∀ i, i < zs.length → w.cell? (x.add i) = some (.int k (zs.getD i 0))) ∧ ∀ n ∈ zs, (Lit.int k n).wf = true) :
    ∃ l : List Int, len = l.length ∧ ji w k a l.length l ∧ l.length ≤ maxLen ∧ (∀ x ∈ l, (Lit.int k x).wf = true) ∧ l.length ≤ cap := by
  have hl : len ≤ cap := by
    rcases h with ⟨_, rfl, rfl, _⟩ | ⟨_, _, h, _⟩
    · exact Nat.le_refl _
    · exact h
  obtain ⟨l, e, h1, h2, h3⟩ := ji.ofRow h
  exact ⟨l, e, h1, h2, h3, e ▸ hl⟩
theorem aH {base : Nat} {w W : World} (h : Below base w W) : Below base w W.drew := h.drew
namespace Kd
section
variable {α β : Type} {d : Kd α} {d' : Kd β} {e e' base base' n : Nat} {ok ok' : Nat → Prop} {w W w1 W1 : World} {v u : Value} {xs : List α} {ys : List β} {A : Option Addr} {c : Nat}
end
section
variable {α : Type} {enc : α → Value} {h1 : ∀ x, (enc x).oneCell' = true} {w W : World} {A : Option Addr} {n g : Nat} {xs : List α}
end
end Kd
namespace Kd
section
variable {α : Type} {d : Kd α} {e base g : Nat} {ok : Nat → Prop} {w w1 : World} {v : Value} {xs : List α} {o : Obj}
end
end Kd
section
variable {P : Program} {ops : Array Oper} {rest : List Oper} {o : Oper} {a : Act} {Q : Exit → Act → World → Prop}
theorem bS {W : World} (hgd : o.guard = none) {N : Tmp} (_hd : o.dst = some N) {cs : Array Value} {t : TypeId}
    (hrun : (execOp a.eval o).run P W = .ok (.value (.pointer (some ⟨W.heap.size, 0, none⟩))) (W.alloc (.cells cs t (0, 0))))
    (h : ∀ g, g = W.heap.size → ∀ w1, w1.heap[g]? = some (.cells cs t (0, 0)) → Below W.heap.size W w1 → wpList P ops Q rest (a.put o.dst (.pointer (some ⟨g, 0, none⟩))) w1) : wpList P ops Q (o :: rest) a W :=
  Kd.sV hgd hrun (h _ rfl _ (BS W _) (aM (Below.refl _ _) _))
end
namespace Kd
section
variable {α : Type} {enc : α → Value} {h1 : ∀ x, (enc x).oneCell' = true} {e base g n cap : Nat} {ok : Nat → Prop} {W : World} {xs : List α}
theorem jk (d : α) (h : (scalar enc h1).R e W base ok (.slice (some ⟨g, 0, none⟩) n cap) xs) (i : Int) (h0 : 0 ≤ i) (hi : i < n) : W.cell? ⟨g, i.toNat, none⟩ = some (enc (vo d xs i)) ∧ W.frozen? ⟨g, i.toNat, none⟩ = false := by
  obtain ⟨rfl, _⟩ := ak h
  exact Ee d h i h0 hi
theorem xY (h : (scalar enc h1).R e W base ok (.slice (some ⟨g, 0, none⟩) n cap) xs) (i : Int) (x : α) : (scalar enc h1).R e (W.setCell ⟨g, i.toNat, none⟩ (enc x)) base ok (.slice (some ⟨g, 0, none⟩) n cap) (xs.set i.toNat x) := by
  obtain ⟨rfl, _⟩ := ak h
  exact (Df h i x).1
end
end Kd
section
variable {P : Program} {ops : Array Oper} {rest : List Oper} {o : Oper} {a : Act} {Q : Exit → Act → World → Prop}
theorem jq {W w1 : World} (hgd : o.guard = none) {t : TypeId} {p : Tmp} {v : Operand} (_ho : o.op = .store t (.tmp p) v) (hN : o.dst = none)
    (hrun : (execOp a.eval o).run P W = .ok .skip w1) (h : ∀ w', w' = w1 → wpList P ops Q rest a w') : wpList P ops Q (o :: rest) a W := by
  refine wpList_plain hgd fun K hK => ?_
  unfold Oper.wp
  rw [hrun]
  show K (a.put o.dst undef) w1
  rw [hN]
  exact hK _ _ (h _ rfl)
end
namespace Kd
section
variable {α : Type} {enc : α → Value} {h1 : ∀ x, (enc x).oneCell' = true} {e base g n cap : Nat} {ok : Nat → Prop} {W : World} {xs : List α}
theorem oq (h : (scalar enc h1).R e W base ok (.slice (some ⟨g, 0, none⟩) n cap) xs) (i : Int) (x : α) : (scalar enc h1).R e (W.setCell ⟨g, i.toNat, none⟩ (enc x)) base ok (.slice (some ⟨g, 0, none⟩) n cap) (xs.set i.toNat x) ∧ W.grownBy (W.setCell ⟨g, i.toNat, none⟩ (enc x)) (some g) := by
  obtain ⟨rfl, _⟩ := ak h
  exact Df h i x
end
end Kd
section
variable {P : Program} {ops : Array Oper} {rest : List Oper} {o : Oper} {a : Act} {Q : Exit → Act → World → Prop} {W : World}
theorem bR {N : Tmp} (_hN : o.dst = some N) (h : wpList P ops Q (o :: rest) a W) : wpList P ops Q (o :: rest) a W := h
theorem jL {t : TypeId} {p : Tmp} {v : Operand} (_ho : o.op = .store t (.tmp p) v) (h : wpList P ops Q (o :: rest) a W) : wpList P ops Q (o :: rest) a W := h
end
section
variable {P : Program} {ops : Array Oper} {o : Oper} {a : Act} {Q : Exit → Act → World → Prop} {Kc : Act → World → Prop}
namespace Kd
variable {α : Type}
end Kd
end
inductive xZ (P : Program) (tmps : Array Value) (w : World) : List ResultVar → List Value → Prop where
  | nil : xZ P tmps w [] []
  | tmp {u : Tmp} {rs : List ResultVar} {vs : List Value} (h : xZ P tmps w rs vs) : xZ P tmps w (.tmp u :: rs) (tmps.getD u undef :: vs)
  | cell {p : Tmp} {ty : TypeId} {rs : List ResultVar} {vs : List Value} (g : Nat) (t : TypeId) (cs : Array Value) (fr : Nat × Nat) (d : TypeDesc)
      (hp : tmps.getD p undef = .pointer (some ⟨g, 0, none⟩)) (hg : w.heap[g]? = some (.cells cs t fr))
      (hu : P.underlying ty = some d) (hd : (match d with | .struct _ | .array _ _ => true | _ => false) = true) (hi : (P.info? ty).map (·.size) = some cs.size)
      (h : xZ P tmps w rs vs) : xZ P tmps w (.cell p ty :: rs) (.agg cs :: vs)
section
variable {P : Program} {tmps : Array Value} {w : World}
theorem Ai {rs : List ResultVar} {vs : List Value} (hv : xZ P tmps w rs vs) (f : ResultVar → Sem Value) (hf : ∀ u, f (.tmp u) = pure (tmps.getD u undef)) (hc : ∀ a t, f (.cell a t) = (do loadVar t (← asAddr (tmps.getD a undef)))) :
    (rs.mapM f).run P w = .ok vs w := by
  induction hv with
  | nil => simp
  | tmp h ih => simp [List.mapM_cons, hf, ih]
  | cell g t cs fr d hp hg hu hd hi h ih =>
    rw [List.mapM_cons, hc, hp]
    simp [asAddr, run_loadVar_row w g t _ cs fr d hg hu hd hi, ih]
theorem qo {fn : Func} {rs : List ResultVar} {vs : List Value} (h : fn.results = rs.toArray) (hl : vs.length ≠ 1) (hv : xZ P tmps w rs vs) : (results fn tmps).run P w = .ok (.tuple vs.toArray) w := by
  unfold results
  rw [h, List.mapM_toArray]
  simp only [Sem.run_bind, Sem.run_map]
  rw [Ai hv]
  · simp [hl]
  · intro u
    rfl
  · intro a t
    rfl
end
namespace Kd
section
variable {P : Program} {α : Type}
end
section
variable {P : Program} {ops : Array Oper} {rest : List Oper} {o : Oper} {a : Act} {Q : Exit → Act → World → Prop} {Kc : Act → World → Prop} {α : Type}
end
end Kd
end Go.Proofs.YthfphdbebnkdpaaDoorW.aZ
end
section
namespace Go.Proofs.YthfphdbebnkdpaaDoorW.bL
section
variable {P : Program} {ops : Array Oper} {Q : Exit → Act → World → Prop} {md : Region.Mode} {S : World → Prop} {ds : List Nat}
def Region.ou (md : Region.Mode) (ops : Array Oper) (i : Nat) : Nat → Nat → Bool
  | 0, _ => false
  | fuel + 1, d => match ops[d]? with
    | some o => o.after.any fun e => Region.binds md e && (e.on == i || Region.ou md ops i fuel e.on)
    | none => false
def Region.rY (md : Region.Mode) (ops : Array Oper) (listed : Array Bool) : Bool :=
  (List.range ops.size).all fun j => !listed.getD j false || match ops[j]? with
    | some o => o.after.all fun e => !Region.binds md e || listed.getD e.on false
    | none => true
def Region.lastB (md : Region.Mode) (ops : Array Oper) (listed : Array Bool) (ds : List Nat) (i : Nat) : Bool :=
  ds.all fun d => listed.getD d true || Region.ou md ops i ops.size d
def kY (md : Region.Mode) (ops : Array Oper) (listed : Array Bool) : Prop :=
  ∀ j oj, ops[j]? = some oj → listed.getD j false = true → ∀ e ∈ oj.after, Region.binds md e = true → listed.getD e.on false = true
theorem Region.wC {listed : Array Bool} (h : Region.rY md ops listed = true) : kY md ops listed := by
  intro j oj hj hl e he hb
  have hlt : j < ops.size := (Array.getElem?_eq_some_iff.1 hj).1
  have h1 := List.all_eq_true.1 h j (List.mem_range.2 hlt)
  simp only [hl, hj, Bool.not_true, Bool.false_or] at h1
  have h2 := Array.all_eq_true_iff_forall_mem.1 h1 e he
  simpa [hb] using h2
theorem kY.set {listed : Array Bool} {i : Nat} (h : kY md ops listed) (hi : i ∈ Region.ready md ops listed) : kY md ops (listed.setIfInBounds i true) := by
  obtain ⟨_, oi, hoi, hall⟩ := mem_ready.1 hi
  intro j oj hj hl e he hb
  by_cases hij : i = j
  · subst hij
    have : oj = oi := Option.some.inj (hj.symm.trans hoi)
    subst this
    exact getD_set_true (hall e he hb)
  · rw [getD_set_ne false hij] at hl
    exact getD_set_true (h j oj hj hl e he hb)
theorem Region.rZ {listed : Array Bool} {i : Nat} (hc : kY md ops listed) : ∀ (fuel d : Nat), Region.ou md ops i fuel d = true → listed.getD d false = true → listed.getD i false = true
  | 0, _, h, _ => by simp [Region.ou] at h
  | fuel + 1, d, h, hl => by
    unfold Region.ou at h
    cases ho : ops[d]? with
    | none => rw [ho] at h; simp at h
    | some o =>
      rw [ho] at h
      obtain ⟨e, he, h1⟩ := Array.any_eq_true'.1 h
      simp only [Bool.and_eq_true, Bool.or_eq_true, beq_iff_eq] at h1
      have hle := hc d o ho hl e he h1.1
      rcases h1.2 with h2 | h2
      · rw [← h2]; exact hle
      · exact Region.rZ hc fuel e.on h2 hle
theorem Region.uk {listed : Array Bool} {i d fuel : Nat} (hc : kY md ops listed) (hr : Region.ou md ops i fuel d = true) (hun : listed.getD i true = false) : d ∉ Region.ready md ops listed := by
  intro hd
  obtain ⟨_, o, ho, hall⟩ := mem_ready.1 hd
  have hi : listed.getD i false = true := by
    cases fuel with
    | zero => simp [Region.ou] at hr
    | succ n =>
      unfold Region.ou at hr
      rw [ho] at hr
      obtain ⟨e, he, h1⟩ := Array.any_eq_true'.1 hr
      simp only [Bool.and_eq_true, Bool.or_eq_true, beq_iff_eq] at h1
      have hle := hall e he h1.1
      rcases h1.2 with h2 | h2
      · rw [← h2]; exact hle
      · exact Region.rZ hc n e.on h2 hle
  rcases Nat.lt_or_ge i listed.size with h' | h'
  · simp [h'] at hun hi
    rw [hun] at hi
    cases hi
  · simp [Array.getElem?_eq_none h'] at hun
def eO (P : Program) (md : Region.Mode) (ops : Array Oper) (Q : Exit → Act → World → Prop) (S : World → Prop) (ds : List Nat) : Nat → Array Bool → Act → World → Prop
  | 0, listed, a, w => Region.ready md ops listed = [] ∧ Q .normal a w
  | fuel + 1, listed, a, w =>
    (Region.ready md ops listed = [] → Q .normal a w) ∧
    ∀ i ∈ Region.ready md ops listed, wpOp P ops Q i (fun a' w' => (i ∉ ds → S w → S w') ∧ eO P md ops Q S ds fuel (listed.setIfInBounds i true) a' w') a w
theorem rG : ∀ (fuel : Nat) (listed : Array Bool) (a : Act) (w : World), eO P md ops Q S ds fuel listed a w → wpAny P md ops Q fuel listed a w
  | 0, _, _, _, h => h
  | fuel + 1, _, _, _, h => ⟨h.1, fun i hi => wpOp_mono (fun a' w' h' => rG fuel _ a' w' h'.2) (h.2 i hi)⟩
theorem ul {i : Nat} {oi : Oper} {v : Value} (hi : ops[i]? = some oi) (hsel : ∀ (j : Nat) (o : Oper) cs b, ops[j]? = some o → o.op ≠ .select cs b)
    (hQ : ∀ c a w, Q (.panic c) (a.put oi.dst v) w → Q (.panic c) a w) (n : Nat) :
    ∀ (fuel : Nat) (listed : Array Bool) (a : Act) (w : World),
      (∀ j oj, ops[j]? = some oj → j ≠ i → listed.getD j true = false → (∀ e ∈ oj.after, Region.binds md e = true → e.on ≠ i) → oi.apart ops oj = true) →
      kY md ops listed → (∀ d ∈ ds, listed.getD d true = false → Region.ou md ops i n d = true) →
      i ∈ Region.ready md ops listed → YieldsIf P ops S oi v a → S w →
      eO P md ops Q S ds fuel (listed.setIfInBounds i true) (a.put oi.dst v) w → eO P md ops Q S ds (fuel + 1) listed a w := by
  intro fuel
  induction fuel with
  | zero =>
    intro listed a w _ _ _ hr hy hS H
    refine ⟨fun h => (by rw [h] at hr; cases hr), fun j hj => ?_⟩
    by_cases hji : j = i
    · subst hji; exact hy.wpOp hi hS ⟨fun _ h => h, H⟩
    · have := ready_mono hj hji
      rw [H.1] at this
      cases this
  | succ fuel ih =>
    intro listed a w hfree hc hd hr hy hS H
    refine ⟨fun h => (by rw [h] at hr; cases hr), fun j hj => ?_⟩
    by_cases hji : j = i
    · subst hji; exact hy.wpOp hi hS ⟨fun _ h => h, H⟩
    · have h1 := H.2 j (ready_mono hj hji)
      obtain ⟨hjun, oj, hoj, hall⟩ := mem_ready.1 hj
      have hiun := (mem_ready.1 hr).1
      have hnot : ∀ e ∈ oj.after, Region.binds md e = true → e.on ≠ i := fun e he hb heq => by
        have h1 := hall e he hb
        rw [heq] at h1
        rcases Nat.lt_or_ge i listed.size with h' | h'
        · simp [h'] at hiun h1; rw [hiun] at h1; cases h1
        · simp [Array.getElem?_eq_none h'] at h1
      have hjd : j ∉ ds := fun hm => Region.uk hc (hd j hm hjun) hiun hj
      have h2 := wpOp_putIf hoj (hfree j oj hoj hji hjun hnot) (fun cs b => hsel i oi cs b hi) (fun cs b => hsel j oj cs b hoj) hQ hy h1
      have hfree' : ∀ k ok, ops[k]? = some ok → k ≠ i → (listed.setIfInBounds j true).getD k true = false →
          (∀ e ∈ ok.after, Region.binds md e = true → e.on ≠ i) → oi.apart ops ok = true := fun k ok hk hki hun hno => by
        refine hfree k ok hk hki ?_ hno
        by_cases hjk : j = k
        · subst hjk; exact hjun
        · rw [getD_set_ne true hjk] at hun; exact hun
      have hd' : ∀ d ∈ ds, (listed.setIfInBounds j true).getD d true = false → Region.ou md ops i n d = true := fun d hm hun => by
        refine hd d hm ?_
        by_cases hjk : j = d
        · subst hjk; exact hjun
        · rw [getD_set_ne true hjk] at hun; exact hun
      refine wpOp_mono (fun a' w' h3 => ⟨h3.2.1, ih (listed.setIfInBounds j true) a' w' hfree' (hc.set hj) hd' (ready_mono hr (Ne.symm hji)) h3.1 (h3.2.1 hjd hS) ?_⟩) h2
      rw [Array.setIfInBounds_comm _ _ hji]
      exact h3.2.2
theorem vz {i : Nat} {oi : Oper} {v : Value} (hi : ops[i]? = some oi) (hsel : ∀ (j : Nat) (o : Oper) cs b, ops[j]? = some o → o.op ≠ .select cs b)
    (hQ : ∀ c a w, Q (.panic c) (a.put oi.dst v) w → Q (.panic c) a w) :
    ∀ (fuel : Nat) (listed : Array Bool) (a : Act) (w : World),
      (∀ j oj, ops[j]? = some oj → j ≠ i → listed.getD j true = false → (∀ e ∈ oj.after, Region.binds md e = true → e.on ≠ i) → oi.apart ops oj = true) →
      i ∈ Region.ready md ops listed → Yields P ops oi v a →
      eO P md ops Q S ds fuel (listed.setIfInBounds i true) (a.put oi.dst v) w → eO P md ops Q S ds (fuel + 1) listed a w := by
  intro fuel
  induction fuel with
  | zero =>
    intro listed a w _ hr hy H
    refine ⟨fun h => (by rw [h] at hr; cases hr), fun j hj => ?_⟩
    by_cases hji : j = i
    · subst hji; exact (hy.yieldsIf (S := fun _ => True)).wpOp hi trivial ⟨fun _ h => h, H⟩
    · have := ready_mono hj hji
      rw [H.1] at this
      cases this
  | succ fuel ih =>
    intro listed a w hfree hr hy H
    refine ⟨fun h => (by rw [h] at hr; cases hr), fun j hj => ?_⟩
    by_cases hji : j = i
    · subst hji; exact (hy.yieldsIf (S := fun _ => True)).wpOp hi trivial ⟨fun _ h => h, H⟩
    · have h1 := H.2 j (ready_mono hj hji)
      obtain ⟨hjun, oj, hoj, hall⟩ := mem_ready.1 hj
      have hiun := (mem_ready.1 hr).1
      have hnot : ∀ e ∈ oj.after, Region.binds md e = true → e.on ≠ i := fun e he hb heq => by
        have h1 := hall e he hb
        rw [heq] at h1
        rcases Nat.lt_or_ge i listed.size with h' | h'
        · simp [h'] at hiun h1; rw [hiun] at h1; cases h1
        · simp [Array.getElem?_eq_none h'] at h1
      have h2 := wpOp_put hoj (hfree j oj hoj hji hjun hnot) (fun cs b => hsel i oi cs b hi) (fun cs b => hsel j oj cs b hoj) hQ hy h1
      have hfree' : ∀ k ok, ops[k]? = some ok → k ≠ i → (listed.setIfInBounds j true).getD k true = false →
          (∀ e ∈ ok.after, Region.binds md e = true → e.on ≠ i) → oi.apart ops ok = true := fun k ok hk hki hun hno => by
        refine hfree k ok hk hki ?_ hno
        by_cases hjk : j = k
        · subst hjk; exact hjun
        · rw [getD_set_ne true hjk] at hun; exact hun
      refine wpOp_mono (fun a' w' h3 => ⟨h3.2.1, ih (listed.setIfInBounds j true) a' w' hfree' (ready_mono hr (Ne.symm hji)) h3.1 ?_⟩) h2
      rw [Array.setIfInBounds_comm _ _ hji]
      exact h3.2.2
theorem uH {i : Nat} {oi : Oper} {v : Value} {fuel : Nat} {listed : Array Bool} {a : Act} {w : World} (hi : ops[i]? = some oi)
    (hs : Region.noSelect ops = true) (hf : Region.free md ops listed i = true) (hr : (Region.ready md ops listed).contains i = true)
    (hc : Region.rY md ops listed = true) (hl : Region.lastB md ops listed ds i = true)
    (hQ : ∀ c a w, Q (.panic c) (a.put oi.dst v) w → Q (.panic c) a w) (hy : YieldsIf P ops S oi v a) (hS : S w)
    (h : eO P md ops Q S ds fuel (listed.setIfInBounds i true) (a.put oi.dst v) w) : eO P md ops Q S ds (fuel + 1) listed a w :=
  ul hi (Region.noSelect_spec hs) hQ ops.size fuel listed a w (Region.free_spec hi hf) (Region.wC hc)
    (fun d hm hun => by have := List.all_eq_true.1 hl d hm; rw [hun] at this; simpa using this) (by simpa using hr) hy hS h
theorem vD {rs : List Nat} {fuel : Nat} {listed : Array Bool} {a : Act} {w : World} (hr : Region.ready md ops listed = rs) (hne : rs ≠ [])
    (h : ∀ i ∈ rs, wpOp P ops Q i (fun a' w' => (i ∉ ds → S w → S w') ∧ eO P md ops Q S ds fuel (listed.setIfInBounds i true) a' w') a w) : eO P md ops Q S ds (fuel + 1) listed a w :=
  ⟨fun h0 => absurd (hr ▸ h0) hne, hr ▸ h⟩
theorem uI {listed : Array Bool} {a : Act} {w : World} (hr : Region.ready md ops listed = []) (h : Q .normal a w) :
    ∀ fuel, eO P md ops Q S ds fuel listed a w
  | 0 => ⟨hr, h⟩
  | _ + 1 => ⟨fun _ => h, by rw [hr]; simp⟩
theorem uJ {id : Nat} {a : Act} {w : World} (hm : P.follows .mixedOrders = true)
    (h : eO P .any ops Q S ds ops.size (Array.replicate ops.size false) a { w with drawn := w.drawn + 1 }) : (Code.region id ops true).wp P Q a w :=
  wp_region_any hm (rG _ _ _ _ h)
end
section
variable {P : Program} {ops : Array Oper} {Q : Exit → Act → World → Prop} {md : Region.Mode} {S : World → Prop} {ds : List Nat}
def jV (P : Program) (md : Region.Mode) (ops : Array Oper) (Q : Exit → Act → World → Prop) (S : World → Prop) (ds : List Nat) (fuel : Nat) (listed : Array Bool) (a : Act) (w : World) (rs : List Nat) : Prop :=
  ∀ i ∈ rs, wpOp P ops Q i (fun a' w' => (i ∉ ds → S w → S w') ∧ eO P md ops Q S ds fuel (listed.setIfInBounds i true) a' w') a w
theorem jV.nil {fuel : Nat} {listed : Array Bool} {a : Act} {w : World} : jV P md ops Q S ds fuel listed a w [] := fun _ h => by cases h
theorem jV.cons {fuel : Nat} {listed : Array Bool} {a : Act} {w : World} {i : Nat} {o : Oper} {rs : List Nat} (ho : ops[i]? = some o) (hd : i ∉ ds)
    (h : ∀ K' : Act → World → Prop, Shut (∀ a w, S w → (S w → eO P md ops Q S ds fuel (listed.setIfInBounds i true) a w) → K' a w) → if Region.wanted o (yielded ops a.tmps) = true then Oper.wp P o a w K' Q else K' (a.put o.dst undef) w)
    (hs : jV P md ops Q S ds fuel listed a w rs) : jV P md ops Q S ds fuel listed a w (i :: rs) := fun j hj => by
  rcases List.mem_cons.1 hj with rfl | hj
  · exact wpOp_step ho (fun K' hK => h K' (fun a w hS hW => hK a w ⟨fun _ _ => hS, hW hS⟩))
  · exact hs j hj
theorem jV.zF {fuel : Nat} {listed : Array Bool} {a : Act} {w : World} {i : Nat} {o : Oper} {rs : List Nat} (ho : ops[i]? = some o) (hd : i ∈ ds)
    (h : ∀ K' : Act → World → Prop, Shut (∀ a w, eO P md ops Q S ds fuel (listed.setIfInBounds i true) a w → K' a w) → if Region.wanted o (yielded ops a.tmps) = true then Oper.wp P o a w K' Q else K' (a.put o.dst undef) w)
    (hs : jV P md ops Q S ds fuel listed a w rs) : jV P md ops Q S ds fuel listed a w (i :: rs) := fun j hj => by
  rcases List.mem_cons.1 hj with rfl | hj
  · exact wpOp_step ho (fun K' hK => h K' (fun a w hW => hK a w ⟨fun hn => absurd hd hn, hW⟩))
  · exact hs j hj
theorem qA {rs : List Nat} {fuel : Nat} {listed : Array Bool} {a : Act} {w : World} (hr : Region.ready md ops listed = rs) (hne : rs ≠ [])
    (h : jV P md ops Q S ds fuel listed a w rs) : eO P md ops Q S ds (fuel + 1) listed a w := vD hr hne h
theorem j6 {id n : Nat} {a : Act} {w : World} (l : Array Bool) (hm : P.follows .mixedOrders = true) (hn : ops.size = n) (hl : Array.replicate n false = l) (hS : S w.drew)
    (h : S w.drew → eO P .any ops Q S ds n l a w.drew) : (Code.region id ops true).wp P Q a w := by
  subst hn
  subst hl
  exact uJ hm (h hS)
def takeB (md : Region.Mode) (ops : Array Oper) (ds : List Nat) (l l' : Array Bool) (i : Nat) : Bool :=
  Region.noSelect ops && Region.free md ops l i && (Region.ready md ops l).contains i && Region.rY md ops l && Region.lastB md ops l ds i && (l.setIfInBounds i true == l')
theorem oV {i : Nat} {N : Option Tmp} {oi : Oper} {v : Value} {fuel : Nat} {l : Array Bool} {a : Act} {w : World} (l' : Array Bool) (hi : ops[i]? = some oi) (hN : oi.dst = N) (hc : takeB md ops ds l l' i = true)
    (hQ : ∀ c a w, Q (.panic c) (a.put oi.dst v) w → Q (.panic c) a w) (hy : YieldsIf P ops S oi v a) (hS : S w) {a' : Act} (ha : a.put N v = a')
    (h : eO P md ops Q S ds fuel l' a' w) : eO P md ops Q S ds (fuel + 1) l a w := by
  subst ha
  subst hN
  simp only [takeB, Bool.and_eq_true, beq_iff_eq] at hc
  obtain ⟨⟨⟨⟨⟨h1, h2⟩, h3⟩, h4⟩, h5⟩, h6⟩ := hc
  subst h6
  exact uH hi h1 h2 h3 h4 h5 hQ hy hS h
def BV (md : Region.Mode) (ops : Array Oper) (l l' : Array Bool) (i : Nat) : Bool :=
  Region.noSelect ops && Region.free md ops l i && (Region.ready md ops l).contains i && (l.setIfInBounds i true == l')
theorem tL {i : Nat} {N : Option Tmp} {oi : Oper} {v : Value} {fuel : Nat} {l : Array Bool} {a : Act} {w : World} (l' : Array Bool) (hi : ops[i]? = some oi) (hN : oi.dst = N) (hc : BV md ops l l' i = true)
    (hQ : ∀ c a w, Q (.panic c) (a.put oi.dst v) w → Q (.panic c) a w) (hy : Yields P ops oi v a) {a' : Act} (ha : a.put N v = a')
    (h : eO P md ops Q S ds fuel l' a' w) : eO P md ops Q S ds (fuel + 1) l a w := by
  subst ha
  subst hN
  simp only [BV, Bool.and_eq_true, beq_iff_eq] at hc
  obtain ⟨⟨⟨h1, h2⟩, h3⟩, h6⟩ := hc
  subst h6
  exact vz hi (Region.noSelect_spec h1) hQ fuel l a w (Region.free_spec hi h2) (by simpa using h3) hy h
def sW (md : Region.Mode) (ops : Array Oper) (l l' : Array Bool) (i : Nat) : Bool := (Region.ready md ops l == [i]) && (l.setIfInBounds i true == l')
theorem vE {i : Nat} {N : Option Tmp} {oi : Oper} {fuel : Nat} {l : Array Bool} {a : Act} {w : World} (l' : Array Bool) (hi : ops[i]? = some oi) (hN : oi.dst = N) (hc : sW md ops l l' i = true) (hd : i ∉ ds)
    (h : ∀ K : Act → World → Prop, Shut (∀ a' w', S w' → (S w' → eO P md ops Q S ds fuel l' a' w') → K a' w') → if Region.wanted oi (yielded ops a.tmps) = true then Oper.wp P oi a w K Q else K (a.put N undef) w) :
    eO P md ops Q S ds (fuel + 1) l a w := by
  subst hN
  simp only [sW, Bool.and_eq_true, beq_iff_eq] at hc
  obtain ⟨h1, h2⟩ := hc
  subst h2
  exact qA h1 (by simp) (jV.cons hi hd (fun K hK => h K hK) jV.nil)
theorem vW {i : Nat} {N : Option Tmp} {oi : Oper} {fuel : Nat} {l : Array Bool} {a : Act} {w : World} (l' : Array Bool) (hi : ops[i]? = some oi) (hN : oi.dst = N) (hc : sW md ops l l' i = true) (hd : i ∈ ds)
    (h : ∀ K : Act → World → Prop, Shut (∀ a' w', eO P md ops Q S ds fuel l' a' w' → K a' w') → if Region.wanted oi (yielded ops a.tmps) = true then Oper.wp P oi a w K Q else K (a.put N undef) w) :
    eO P md ops Q S ds (fuel + 1) l a w := by
  subst hN
  simp only [sW, Bool.and_eq_true, beq_iff_eq] at hc
  obtain ⟨h1, h2⟩ := hc
  subst h2
  exact qA h1 (by simp) (jV.zF hi hd (fun K hK => h K hK) jV.nil)
theorem wX {l : Array Bool} {a : Act} {w : World} {n : Nat} (hr : (Region.ready md ops l == []) = true) (h : Q .normal a w) : eO P md ops Q S ds n l a w := uI (by simpa using hr) h n
theorem FD {fuel : Nat} {l : Array Bool} {a a' : Act} {w : World} (ha : a = a') (h : eO P md ops Q S ds fuel l a' w) : eO P md ops Q S ds fuel l a w := by
  subst ha
  exact h
theorem call_ {oi : Oper} {N : Option Tmp} {a : Act} {w : World} {K : Act → World → Prop} (f : FuncId) (args : Array Value) (hw : Region.wanted oi (yielded ops a.tmps) = true) (hN : oi.dst = N) (hrun : (execOp a.eval oi).run P w = .ok (.enter f args) w)
    (h : Calls P f args w fun e w' => ∃ v, e = .returned v ∧ K (a.put N v) w') : if Region.wanted oi (yielded ops a.tmps) = true then Oper.wp P oi a w K Q else K (a.put N undef) w := by
  rw [if_pos hw]
  subst hN
  unfold Oper.wp
  rw [hrun, Oper.upon_enter]
  refine h.mono fun e w'' hh => ?_
  obtain ⟨v, rfl, hk⟩ := hh
  exact hk
theorem yV {f : FuncId} {fn : Func} (hf : P.funcs[f]? = some fn) (hname : (fn.name == "runtime.NumGoroutine") = false) (hb : fn.body.isSome = true) (args : Array Value) (w : World) : (callFunc f args).run P w = .ok (.enter f args) w := by
  have h1 : fn.name ≠ "runtime.NumGoroutine" := by simpa using hname
  obtain ⟨c, hc⟩ := Option.isSome_iff_exists.1 hb
  simp [callFunc, hf, h1, hc]
theorem wY {oi : Oper} {N : Option Tmp} {a : Act} {w : World} {K : Act → World → Prop} {f : FuncId} {fn : Func} {aa : Array Operand} {ts : Array TypeId} (hf : P.funcs[f]? = some fn) (hname : (fn.name == "runtime.NumGoroutine") = false) (hb : fn.body.isSome = true) (args : Array Value)
    (hw : Region.wanted oi (yielded ops a.tmps) = true) (hN : oi.dst = N) (hop : oi.op = .call { callee := .value (.func f), args := aa, argTypes := ts }) (hargs : aa.map a.eval = args)
    (h : Calls P f args w fun e w' => ∃ v, e = .returned v ∧ K (a.put N v) w') : if Region.wanted oi (yielded ops a.tmps) = true then Oper.wp P oi a w K Q else K (a.put N undef) w := by
  refine call_ f args hw hN ?_ h
  have he := yV hf hname hb args w
  unfold execOp
  simp [hop, resolve, Deferred.ofValue, invoke, Act.eval, hargs, he]
theorem cO {rest : List Oper} {oi : Oper} {a : Act} {w : World} (N : Option Tmp) (hd : oi.dst = N) (hg : oi.guard = none) {f : FuncId} {fn : Func} {aa : Array Operand} {ts : Array TypeId} (hf : P.funcs[f]? = some fn) (hname : (fn.name == "runtime.NumGoroutine") = false) (hb : fn.body.isSome = true) (args : Array Value)
    (hop : oi.op = .call { callee := .value (.func f), args := aa, argTypes := ts }) (hargs : aa.map a.eval = args)
    (h : Calls P f args w fun e w' => ∃ v, e = .returned v ∧ wpList P ops Q rest (a.put N v) w') : wpList P ops Q (oi :: rest) a w := by
  refine wpList_plain hg fun K hK => ?_
  have he := yV hf hname hb args w
  have hrun : (execOp a.eval oi).run P w = .ok (.enter f args) w := by
    unfold execOp
    simp [hop, resolve, Deferred.ofValue, invoke, Act.eval, hargs, he]
  unfold Oper.wp
  rw [hrun, Oper.upon_enter]
  refine h.mono fun e w'' hh => ?_
  obtain ⟨v, rfl, hk⟩ := hh
  subst hd
  exact hK _ _ hk
theorem pX {oi : Oper} {a : Act} {w w1 : World} {K : Act → World → Prop} (hw : Region.wanted oi (yielded ops a.tmps) = true) (hN : oi.dst = none) (hrun : (execOp a.eval oi).run P w = .ok .skip w1)
    (h : K a w1) : if Region.wanted oi (yielded ops a.tmps) = true then Oper.wp P oi a w K Q else K (a.put none undef) w := by
  rw [if_pos hw]
  unfold Oper.wp
  rw [hrun]
  show K (a.put oi.dst undef) w1
  rw [hN]
  exact h
theorem gT (n : Int) : IntKind.i64.wrap n = Go.RowKit.wrap64 n := by unfold Go.RowKit.wrap64; exact IntKind.wrap_i64 n
theorem oW (n : Int) : IntKind.i32.wrap n = Go.RowKit.wrap32 n := by unfold Go.RowKit.wrap32; exact IntKind.wrap_i32 n
end
end Go.Proofs.YthfphdbebnkdpaaDoorW.bL
end
section
namespace Go.Proofs.YthfphdbebnkdpaaDoorW.aZ
open Go.RowKit
namespace Kd
def tag {α : Type} (f : Nat → Nat) (d : Kd α) : Kd (α × Nat) where
  sz := d.sz
  E := d.E
  K := fun w x cs => d.K w x.1 cs
  M := fun w base ok x cs => d.M w base (fun k => ok k ∧ f k = x.2) x.1 cs
  K_len := fun h => d.K_len h
  K_one := fun h => d.K_one h
  K_below := fun hb h => d.K_below hb h
  K_of_M := fun h => d.K_of_M h
  M_mono := fun hok h => d.M_mono (fun k hk => ⟨hok k hk.1, hk.2⟩) h
  M_bound := fun h => d.M_mono (fun _ hk => ⟨⟨hk.1.1, hk.2⟩, hk.1.2⟩) (d.M_bound h)
  M_move := fun hm h => d.M_move (fun k hk => hm k hk.1) h
  M_lower := fun hb h => d.M_lower hb h
def raw (sz : Nat) : Kd (List Value) where
  sz := sz
  E := []
  K := fun _ x cs => cs = x ∧ cs.length = sz ∧ ∀ u ∈ cs, u.oneCell' = true
  M := fun _ _ _ x cs => cs = x ∧ cs.length = sz ∧ ∀ u ∈ cs, u.oneCell' = true
  K_len := fun h => h.2.1
  K_one := fun h => h.2.2
  K_below := fun _ h => h
  K_of_M := fun h => h
  M_mono := fun _ h => h
  M_bound := fun h => h
  M_move := fun _ h => h
  M_lower := fun _ h => h
def S {α : Type} (d : Kd α) (e : Nat) (w : World) (base : Nat) (ok : Nat → Prop) (v : Value) (xs : List α) : Prop := ∃ f, (tag f d).R e w base ok v xs.zipIdx
section
variable {α β : Type} {d : Kd α} {d' : Kd β} {e e' : Nat} {w w1 W : World} {base b : Nat} {ok ok' okv oku : Nat → Prop} {u v : Value} {xs : List α} {ys : List β}
theorem nD (hE : d.E = []) (h : d.R e w base ok v xs) : d.R e w base (fun k => some k = v.ownBlock) v xs := by
  obtain ⟨h0, inner, ho, hr⟩ := h
  refine ⟨fun k hk => hk.symm, inner, ho, hr.uj (fun p c hp => d.M_mono (fun k hk => ?_) (d.M_bound hp))⟩
  obtain ⟨_, _, _, q, hq, _⟩ := hk
  rw [hE] at hq
  cases hq
end
section
variable {α β : Type} {d : Kd α} {d' : Kd β} {e e' g : Nat} {w w1 W : World} {base b : Nat} {ok ok' okv oku : Nat → Prop} {u v : Value} {xs : List α} {ys : List β}
end
section
variable {P : Program} {ops : Array Oper} {rest : List Oper} {o : Oper} {a : Act} {Q : Exit → Act → World → Prop} {Kc : Act → World → Prop} {α : Type}
end
section
variable {α β : Type} {d : Kd α} {e e' g n cap : Nat} {w w1 W : World} {base : Nat} {ok ok' oki okp : Nat → Prop} {u v : Value} {xs : List α} {i : Int} {c : List Value}
end
section
variable {P : Program} {ops : Array Oper} {rest : List Oper} {o : Oper} {a : Act} {Q : Exit → Act → World → Prop} {α : Type}
end
end Kd
end Go.Proofs.YthfphdbebnkdpaaDoorW.aZ
end
section
namespace Go.Proofs.YthfphdbebnkdpaaDoorW.aZ
open Go.RowKit
def Kept (w W : World) (S : Nat → Prop) : Prop := w.heap.size ≤ W.heap.size ∧ ∀ i, i < w.heap.size → ¬ S i → W.heap[i]? = w.heap[i]?
section
variable {w W W2 : World} {S S2 S' : Nat → Prop}
theorem Kept.refl (w : World) (S : Nat → Prop) : Kept w w S := ⟨Nat.le_refl _, fun _ _ _ => rfl⟩
theorem Kept.Dg (h : Kept w W S) (k : Kept W W2 S2) (hs : ∀ k, S2 k → S k ∨ w.heap.size ≤ k) : Kept w W2 S :=
  ⟨Nat.le_trans h.1 k.1, fun i hi hn => (k.2 i (Nat.lt_of_lt_of_le hi h.1) (fun h2 => (hs i h2).elim hn (fun h3 => by omega))).trans (h.2 i hi hn)⟩
theorem Kept.Aj {row : Option Nat} (hg : W.grownBy W2 row) (h : Kept w W S) (hr : ∀ k, row = some k → S k ∨ w.heap.size ≤ k) : Kept w W2 S :=
  h.Dg (S2 := fun k => row = some k) ⟨hg.size, fun i hi hn => hg.block i hi (fun he => hn he.symm)⟩ hr
theorem Kept.drew (h : Kept w W S) : Kept w W.drew S := h
theorem Kept.drewN (h : Kept w W S) (m : Nat) : Kept w (W.drewN m) S := h
theorem Kept.setCell (h : Kept w W S) {p : Addr} (hp : S p.block ∨ w.heap.size ≤ p.block) (u : Value) : Kept w (W.setCell p u) S :=
  h.Dg (S2 := fun k => k = p.block) ⟨by simp [World.setCell], fun i _ hn => Below.heap_setCell W p u i hn⟩ (fun k hk => by rw [hk]; exact hp)
end
namespace Kd
section
variable {α : Type} {d : Kd α} {e base n c : Nat} {ok oki S S2 : Nat → Prop} {w w0 W W1 W2 : World} {v : Value} {A : Option Addr} {xs : List α} {i : Int} {cs : List Value}
theorem Ak (h : d.R e W base ok v xs) (hk : Kept W W2 S) (hne : ∀ k, ok k → ¬ S k) : d.R e W2 base ok v xs := uE h (fun k ho hlt => hk.2 k hlt (hne k ho))
theorem qp (h : d.R e W base ok (.slice A n c) xs) (hok : ∀ k, ok k → ¬ S k) : ∀ W', Kept W W' S → d.C W' A n xs := fun W' hk => by
  have h2 := ak (Ak h hk hok)
  rw [h2.1]
  exact h2.2.2
theorem uK (h : ∀ W', Kept w W' S → d.C W' A n xs) (hk : Kept w W S) : d.C W A n xs := h W hk
end
end Kd
end Go.Proofs.YthfphdbebnkdpaaDoorW.aZ
end
section
namespace Go.Proofs.YthfphdbebnkdpaaDoorW.aZ
open Go.RowKit
def rQ (P : World → Prop) (W : World) (ok : Nat → Prop) : Prop := ∀ W' : World, (∀ k, ok k → k < W.heap.size → W'.heap[k]? = W.heap[k]?) → P W'
theorem BX {W W1 : World} {k : Nat} (h : W1.heap[k]? = W.heap[k]?) (hlt : k < W.heap.size) : k < W1.heap.size := by
  rw [Array.getElem?_eq_getElem hlt] at h
  exact (Array.getElem?_eq_some_iff.1 h).1
namespace rQ
variable {P Q : World → Prop} {W W1 : World} {ok ok' : Nat → Prop}
theorem now (h : rQ P W ok) : P W := h W (fun _ _ _ => rfl)
theorem mono (h : rQ P W ok) (hok : ∀ k, ok k → ok' k) : rQ P W ok' := fun W' hW => h W' (fun k hk hlt => hW k (hok k hk) hlt)
theorem bound (h : rQ P W ok) : rQ P W (fun k => ok k ∧ k < W.heap.size) := fun W' hW => h W' (fun k hk hlt => hW k ⟨hk, hlt⟩ hlt)
theorem step (h : rQ P W ok) (hm : ∀ k, ok k → k < W.heap.size → W1.heap[k]? = W.heap[k]?) : rQ P W1 ok := fun W' hW => h W' (fun k hk hlt => (hW k hk (BX (hm k hk hlt) hlt)).trans (hm k hk hlt))
end rQ
namespace Kd
def F {α : Type} (d : Kd α) (W : World) (ok : Nat → Prop) (A : Option Addr) (n : Nat) (xs : List α) : Prop := rQ (fun W => d.C W A n xs) W ok
def FK {α : Type} (d : Kd α) (W : World) (ok : Nat → Prop) (x : α) (c : List Value) : Prop := rQ (fun W => d.K W x c) W ok
section
variable {α β : Type} {d : Kd α} {e base n n' cc g N : Nat} {ok ok' okp S : Nat → Prop} {w w0 w1 W W1 : World} {A A' : Option Addr} {u v v1 : Value} {xs : List α} {xs' : List β} {d' : Kd β} {x : α} {c : List Value}
theorem R_F (h : d.R e W base ok (.slice A n cc) xs) : F d W ok A n xs := fun W' hW => by
  have h2 := ak (uE h hW)
  rw [h2.1]
  exact h2.2.2
theorem yc (h : FK d W ok x c) : d.K W x c := rQ.now h
theorem wD (h : FK d W ok x c) (hok : ∀ k, ok k → ok' k) : FK d W ok' x c := rQ.mono h hok
theorem wZ (h : FK d W ok x c) : FK d W (fun k => ok k ∧ k < W.heap.size) x c := rQ.bound h
theorem yX (h : FK d W ok x c) (hm : ∀ k, ok k → k < W.heap.size → W1.heap[k]? = W.heap[k]?) : FK d W1 ok x c := rQ.step h hm
end
end Kd
end Go.Proofs.YthfphdbebnkdpaaDoorW.aZ
end
section
namespace Go.Proofs.YthfphdbebnkdpaaDoorW.aZ
open Go.RowKit
namespace Kd
def chunks (sz : Nat) (n : Nat) (inner : List Value) : List (List Value) := (List.range n).map fun j => (inner.drop (j * sz)).take sz
theorem lS (sz n : Nat) (inner : List Value) : (chunks sz n inner).length = n := by simp [chunks]
theorem zG {sz n : Nat} {inner : List Value} {j : Nat} (hj : j < n) : (chunks sz n inner)[j]? = some ((inner.drop (j * sz)).take sz) := by simp [chunks, hj]
theorem uL {sz n : Nat} {inner : List Value} {j : Nat} {c : List Value} (h : (chunks sz n inner)[j]? = some c) : c = (inner.drop (j * sz)).take sz := by
  have hj : j < n := by have := (List.getElem?_eq_some_iff.1 h).1; rwa [lS] at this
  rw [zG hj] at h
  injection h with h
  exact h.symm
theorem Al {α : Type} {Rr : α → List Value → Prop} {sz : Nat} {xs : List α} {inner : List Value} (h : iB Rr sz xs inner) (hR : ∀ x c, Rr x c → c.length = sz ∧ ∀ u ∈ c, u.oneCell' = true) : iB (fun x cs => cs = x ∧ cs.length = sz ∧ ∀ u ∈ cs, u.oneCell' = true) sz (chunks sz xs.length inner) inner := by
  refine ⟨by rw [lS]; exact h.1, fun j p hj => ?_⟩
  have hjl : j < xs.length := by have := (List.getElem?_eq_some_iff.1 hj).1; rwa [lS] at this
  have hp := uL hj
  exact ⟨hp.symm, hR _ _ (h.2 j _ (List.getElem?_eq_getElem hjl))⟩
section
variable {α : Type} {d : Kd α} {e base n cc g : Nat} {ok ok' okp S : Nat → Prop} {w w1 W W1 : World} {A : Option Addr} {u v v1 : Value} {xs : List α} {x : α} {c : List Value}
def N {α : Type} (d : Kd α) (e : Nat) (w : World) (base : Nat) (ok : Nat → Prop) (v : Value) (xs : List α) : Prop :=
  (∀ k, v.ownBlock = some k → ok k) ∧ ∃ rows : List (List Value), rows.length = xs.length ∧ (raw d.sz).R e w base (fun k => some k = v.ownBlock) v rows ∧ ∀ (j : Nat) (x : α) (c : List Value), xs[j]? = some x → rows[j]? = some c → FK d w (fun k => ok k ∧ some k ≠ v.ownBlock) x c
theorem zH {sz : Nat} {rows : List (List Value)} (h : (raw sz).R e w base ok v rows) : (raw sz).R e w base (fun k => some k = v.ownBlock) v rows := nD rfl h
theorem Eg (h : N d e w base ok v xs) (hok : ∀ k, ok k → ok' k) : N d e w base ok' v xs := by
  obtain ⟨h0, rows, hl, hR, hf⟩ := h
  exact ⟨fun k hk => hok k (h0 k hk), rows, hl, hR, fun j x c hx hc => wD (hf j x c hx hc) (fun k hk => ⟨hok k hk.1, hk.2⟩)⟩
theorem I6 (h : N d e w base ok v xs) : ∀ k, v.ownBlock = some k → k < w.heap.size := by
  obtain ⟨_, rows, _, hR, _⟩ := h
  exact aY hR
theorem BZ (h : N d e w base ok v xs) : N d e w base (fun k => ok k ∧ k < w.heap.size) v xs := by
  have hlt := I6 h
  obtain ⟨h0, rows, hl, hR, hf⟩ := h
  exact ⟨fun k hk => ⟨h0 k hk, hlt k hk⟩, rows, hl, hR, fun j x c hx hc => wD (wZ (hf j x c hx hc)) (fun k hk => ⟨⟨hk.1.1, hk.2⟩, hk.1.2⟩)⟩
theorem Ca {base' : Nat} (h : N d e w base ok v xs) (hb : base' ≤ base) : N d e w base' ok v xs := by
  obtain ⟨h0, rows, hl, hR, hf⟩ := h
  exact ⟨h0, rows, hl, bz hR hb, hf⟩
theorem Eh (h : N d e w base ok v xs) (hm : ∀ k, ok k → k < w.heap.size → w1.heap[k]? = w.heap[k]?) : N d e w1 base ok v xs := by
  obtain ⟨h0, rows, hl, hR, hf⟩ := h
  exact ⟨h0, rows, hl, uE hR (fun k hk hlt => hm k (h0 k hk.symm) hlt), fun j x c hx hc => yX (hf j x c hx hc) (fun k hk hlt => hm k hk.1 hlt)⟩
theorem Cb (h : N d e w base ok v xs) (hb : Below w.heap.size w w1) : N d e w1 base ok v xs := Eh h (fun k _ hk => hb.block k hk)
theorem Am (h : N d e W base ok v xs) (hbase : ∀ k, u.ownBlock = some k → W.heap.size ≤ k) (hb : Below W.heap.size W w1) : N d e w1 base (fun k => ok k ∧ some k ≠ u.ownBlock) v xs :=
  Eg (Cb (BZ h) hb) (fun k hk => ⟨hk.1, fun he => by have := hbase k he.symm; have := hk.2; omega⟩)
theorem Cc (h : N d e w base ok v xs) : ∃ A c, v = .slice A xs.length c := by
  obtain ⟨_, rows, hl, hR, _⟩ := h
  obtain ⟨A, c, he⟩ := bD hR
  exact ⟨A, c, by rw [he, hl]⟩
theorem xc {n c : Nat} (h : N d e w base ok (.slice A n c) xs) : n = xs.length ∧ n ≤ c ∧ d.C w A xs.length xs := by
  obtain ⟨_, rows, hl, hR, hf⟩ := h
  obtain ⟨hn, hc, hC⟩ := ak hR
  refine ⟨by omega, hc, ?_⟩
  rw [hl] at hC
  refine ⟨rfl, hC.2.1, fun hp => ?_⟩
  obtain ⟨ad, he, hcell⟩ := hC.2.2 hp
  refine ⟨ad, he, fun j p hj => ?_⟩
  have hjl : j < rows.length := by have := (List.getElem?_eq_some_iff.1 hj).1; omega
  obtain ⟨c', hcl, hK, hcc⟩ := hcell j _ (List.getElem?_eq_getElem hjl)
  have hk := yc (hf j p _ hj (List.getElem?_eq_getElem hjl))
  refine ⟨c', hcl, ?_, hcc⟩
  rw [show c' = rows[j] from hK.1]
  exact hk
end
end Kd
end Go.Proofs.YthfphdbebnkdpaaDoorW.aZ
end
section
namespace Go.Proofs.YthfphdbebnkdpaaDoorW.aZ
open Go.RowKit
namespace Kd
section
variable {α : Type} {d : Kd α} {e base n cap g : Nat} {ok ok' okp : Nat → Prop} {w w1 W : World} {v v1 : Value} {xs ys : List α}
theorem Ei {rows : List (List Value)} (hR : (raw d.sz).R e w1 base (fun k => k = W.heap.size) v1 rows) (hg : W.grownBy w1 none) (hat : ∃ b, v1.ownBlock = some b ∧ W.heap.size ≤ b) (hl : rows.length = xs.length) (hf : ∀ (j : Nat) (x : α) (c : List Value), xs[j]? = some x → rows[j]? = some c → FK d W okp x c)
    (hok : ∀ k, okp k → ok k) (hfresh : ok W.heap.size) : N d e w1 base ok v1 xs := by
  obtain ⟨b, hb, hle⟩ := hat
  refine ⟨fun k hk => by rw [hR.1 k hk]; exact hfresh, rows, hl, zH hR, fun j x c hx hc => ?_⟩
  refine wD (yX (wZ (hf j x c hx hc)) (fun k hk hlt => hg.block k hlt (by simp))) (fun k hk => ⟨hok k hk.1, fun he => ?_⟩)
  rw [hb] at he
  injection he with he
  have := hk.2
  omega
end
section
variable {P : Program} {ops : Array Oper} {rest : List Oper} {o : Oper} {a : Act} {Q : Exit → Act → World → Prop} {Kc : Act → World → Prop} {α : Type}
theorem FE (d : Kd α) {w0 W : World} (base e : Nat) (hgd : o.guard = none) {N' : Tmp} (_hd : o.dst = some N') {xs : List α} {inner : List Value} {ok okp : Nat → Prop}
    (hrun : (execOp a.eval o).run P W = .ok (.value (.slice (some ⟨W.heap.size, 0, none⟩) xs.length xs.length)) (W.alloc (.cells inner.toArray e)))
    (hrep : iB (FK d W okp) d.sz xs inner) (hok : ∀ k, okp k → ok k) (hfresh : ok W.heap.size) (HB : Below base w0 W) (hbase : base ≤ W.heap.size) (hm : xs.length ≤ 9223372036854775807)
    (h : ∀ v1 w1, N d e w1 base ok v1 xs → Below base w0 w1 → W.grownBy w1 none → (∃ b, v1.ownBlock = some b ∧ W.heap.size ≤ b) → wpList P ops Q rest (a.put o.dst v1) w1) :
    wpList P ops Q (o :: rest) a W := by
  refine yS (raw d.sz) base e hgd _hd (xs := chunks d.sz xs.length inner) (inner := inner) (ok := fun k => k = W.heap.size) (okp := fun _ => False) (by rw [lS]; exact hrun) (Al hrep (fun y c hk => ⟨d.K_len (yc hk), d.K_one (yc hk)⟩)) (fun _ hk => hk.elim) rfl HB hbase (by rw [lS]; exact hm) ?_
  intro v1 w1 hr hb hg hat
  exact h v1 w1 (Ei hr hg hat (lS _ _ _) (fun j y c hy hc => by rw [uL hc]; exact hrep.2 j y hy) hok hfresh) hb hg hat
end
end Kd
end Go.Proofs.YthfphdbebnkdpaaDoorW.aZ
end
section
namespace Go.Proofs.YthfphdbebnkdpaaDoorW.dC
open Go.RowKit Go.Proofs.YthfphdbebnkdpaaDoorW.aZ
namespace Kd
open Go.Proofs.YthfphdbebnkdpaaDoorW.aZ.Kd
end Kd
namespace Kd
open Go.Proofs.YthfphdbebnkdpaaDoorW.aZ.Kd
section
variable {α : Type} {d : Kd α} {e base g N : Nat} {ok : Nat → Prop} {W w1 : World} {u v : Value} {xs : List α}
theorem mo (hu : d.R e W base ok u xs) (hb : Below W.heap.size W w1) : d.R e w1 base (fun k => ok k ∧ k < W.heap.size) u xs :=
  bG (aI (nR hu) hb) (fun _ h => ⟨h.1, h.2.2.1⟩)
theorem gQ (h : d.R e w1 base (fun k => ok k ∧ k < N) u xs) (hbase : ∀ k, v.ownBlock = some k → N ≤ k) : d.R e w1 base (fun k => (ok k ∧ some k ≠ v.ownBlock) ∧ k < N) u xs :=
  bG h (fun k hk => ⟨⟨hk.1, fun e => Nat.lt_irrefl _ (Nat.lt_of_lt_of_le hk.2 (hbase k e.symm))⟩, hk.2⟩)
end
end Kd
theorem dZ (k k' : IntKind) (x y : Int) : Builtin.max2 (.int k x) (.int k' y) = pure (.int k (if x < y then y else x)) := by simp only [Builtin.max2, gt_iff_lt]
theorem d9 (k k' : IntKind) (x y : Int) : Builtin.min2 (.int k x) (.int k' y) = pure (.int k (if y < x then y else x)) := by simp only [Builtin.min2]
theorem fA (ats : Array TypeId) (ty : TypeId) (a b : Value) : Builtin.max_ ats ty #[a, b] = (Builtin.max2 a b >>= fun s => pure s) := by simp only [Builtin.max_, List.foldlM_cons, List.foldlM_nil]
theorem fB (ats : Array TypeId) (ty : TypeId) (a b : Value) : Builtin.min_ ats ty #[a, b] = (Builtin.min2 a b >>= fun s => pure s) := by simp only [Builtin.min_, List.foldlM_cons, List.foldlM_nil]
theorem dH (ats : Array TypeId) (ty : TypeId) (a b c : Value) : Builtin.max_ ats ty #[a, b, c] = (Builtin.max2 a b >>= fun s => Builtin.max2 s c >>= fun s => pure s) := by simp only [Builtin.max_, List.foldlM_cons, List.foldlM_nil]
theorem dI (ats : Array TypeId) (ty : TypeId) (a b c : Value) : Builtin.min_ ats ty #[a, b, c] = (Builtin.min2 a b >>= fun s => Builtin.min2 s c >>= fun s => pure s) := by simp only [Builtin.min_, List.foldlM_cons, List.foldlM_nil]
theorem ed (ats : Array TypeId) (ty : TypeId) (a b c d : Value) : Builtin.max_ ats ty #[a, b, c, d] = (Builtin.max2 a b >>= fun s => Builtin.max2 s c >>= fun s => Builtin.max2 s d >>= fun s => pure s) := by simp only [Builtin.max_, List.foldlM_cons, List.foldlM_nil]
theorem ek (ats : Array TypeId) (ty : TypeId) (a b c d : Value) : Builtin.min_ ats ty #[a, b, c, d] = (Builtin.min2 a b >>= fun s => Builtin.min2 s c >>= fun s => Builtin.min2 s d >>= fun s => pure s) := by simp only [Builtin.min_, List.foldlM_cons, List.foldlM_nil]
end Go.Proofs.YthfphdbebnkdpaaDoorW.dC
namespace Go.Proofs.YthfphdbebnkdpaaDoorW.aZ
open Go.RowKit
section
variable {P : Program} {ops : Array Oper} {rest : List Oper} {o : Oper} {a : Act} {Q : Exit → Act → World → Prop} {W : World}
theorem aW {f : FuncId} {aa : Array Operand} {ts : Array TypeId} (_ho : o.op = .call { callee := .value (.func f), args := aa, argTypes := ts }) (h : wpList P ops Q (o :: rest) a W) : wpList P ops Q (o :: rest) a W := h
theorem nH {b : Builtin} {xs : Array Operand} {ts : Array TypeId} (_ho : o.op = .call { callee := .builtin b, args := xs, argTypes := ts }) (h : wpList P ops Q (o :: rest) a W) : wpList P ops Q (o :: rest) a W := h
end
def mx (a b : Int) : Int := if a < b then b else a
def mn (a b : Int) : Int := if b < a then b else a
def shl (k : IntKind) (x y : Int) : Int := k.wrap (x * 2 ^ min y.toNat k.bits)
def shr (k : IntKind) (x y : Int) : Int := x / 2 ^ min y.toNat k.bits
theorem zI {k : IntKind} {x y j : Int} (h : shl k x y = j) (hy : y ≤ k.bits) : k.wrap (x * 2 ^ y.toNat) = j := by rw [← h]; unfold shl; rw [Nat.min_eq_left (by omega)]
theorem vX {k : IntKind} {x y j : Int} (h : shr k x y = j) (hy : y ≤ k.bits) : x / 2 ^ y.toNat = j := by rw [← h]; unfold shr; rw [Nat.min_eq_left (by omega)]
theorem kD (w : World) (n : Nat) : w.drewN n = w.drewN n := rfl
namespace Kd
section
variable {α : Type} {d : Kd α} {e base : Nat} {ok : Nat → Prop} {W w1 : World} {v : Value} {xs : List α}
end
section
variable {α : Type} {d : Kd α} {e base g n cap : Nat} {ok oki okp : Nat → Prop} {W : World} {xs : List α} {i : Int} {c : List Value}
end
section
variable {α : Type} {d : Kd α} {e base b b' g N : Nat} {ok ok1 : Nat → Prop} {W W2 w1 : World} {u v : Value} {xs ys : List α} {S : Nat → Prop}
theorem wE (hE : d.E = []) (h : d.R e W base ok1 v xs) (hok : ∀ k, v.ownBlock = some k → ok k) : d.R e W base ok v xs := bG (nD hE h) (fun k hk => hok k hk.symm)
theorem pz (h : d.R e W base ok v xs) (hk : Kept W W2 S) (hne : ∀ k, ok k → ¬ S k) : d.R e W2 base (fun k => ok k ∧ (¬ S k ∧ k < W.heap.size)) v xs :=
  Ak (bG (nR h) (fun k hk => ⟨hk.1, hne k hk.1, hk.2.2.1⟩)) hk (fun _ hk => hk.2.1)
end
end Kd
end Go.Proofs.YthfphdbebnkdpaaDoorW.aZ
namespace Go.Proofs.YthfphdbebnkdpaaDoorW.aZ
open Go.RowKit
namespace Kd
def V {α : Type} (d : Kd α) (_e : Nat) (W : World) (_base : Nat) (ok : Nat → Prop) (v : Value) (xs : List α) : Prop := ∃ A c, v = .slice A xs.length c ∧ xs.length ≤ c ∧ F d W ok A xs.length xs
section
variable {α β : Type} {d : Kd α} {e base base' n m c g N' lo hi : Nat} {ok ok' S : Nat → Prop} {w W w1 : World} {A : Option Addr} {ad : Addr} {u v v1 : Value} {xs : List α}
theorem qI {l : List α} (hl : l.length ≤ c) (hf : F d W ok A l.length l) : FK (Kd.slice e d) W ok l [.slice A l.length c] := fun W' hW => ⟨A, c, rfl, hl, hf W' hW⟩
end
end Kd
end Go.Proofs.YthfphdbebnkdpaaDoorW.aZ
end
section
namespace Go.Proofs.YthfphdbebnkdpaaDoorW.bL
open Go.Proofs.YthfphdbebnkdpaaDoorW.aZ (ae)
def rq (md : Region.Mode) (o : Oper) : List Nat := (o.after.toList.filter (fun e => Region.binds md e)).map (fun e => e.on)
def wF (md : Region.Mode) (ops : Array Oper) (i : Nat) (oi : Oper) : List Nat := (List.range ops.size).filter fun j => !(j == i) && match ops[j]? with
  | some oj => !(oj.after.any (fun e => Region.binds md e && e.on == i) || oi.apart ops oj)
  | none => false
def mi (md : Region.Mode) (ops : Array Oper) : Bool × List (List Nat × List Nat) := (Region.noSelect ops, (List.range ops.size).map fun i => match ops[i]? with
  | some o => (rq md o, wF md ops i o)
  | none => ([], []))
def pE (T : List (List Nat × List Nat)) (l : List Bool) (i : Nat) : Bool := !l.getD i true && match T[i]? with
  | some r => r.1.all (fun j => l.getD j false)
  | none => false
def rR (T : List (List Nat × List Nat)) (l : List Bool) : List Nat := (List.range T.length).filter (pE T l)
def xe (T : List (List Nat × List Nat)) (l : List Bool) (i : Nat) : Bool := match T[i]? with
  | some r => r.2.all (fun j => l.getD j true)
  | none => false
def uC (T : List (List Nat × List Nat)) (l : List Bool) : Bool := (List.range T.length).all fun j => !l.getD j false || match T[j]? with
  | some r => r.1.all (fun k => l.getD k false)
  | none => true
def sZ (T : List (List Nat × List Nat)) (i : Nat) : Nat → Nat → Bool
  | 0, _ => false
  | fuel + 1, d => match T[d]? with
    | some r => r.1.any fun j => j == i || sZ T i fuel j
    | none => false
def lastT (T : List (List Nat × List Nat)) (l : List Bool) (ds : List Nat) (i : Nat) : Bool := ds.all fun d => l.getD d true || sZ T i T.length d
section
variable {md : Region.Mode} {ops : Array Oper} {T : Bool × List (List Nat × List Nat)} {l l' li lj lk : Array Bool} {ds : List Nat} {i j k : Nat}
theorem gd (l : Array Bool) (j : Nat) (b : Bool) : l.getD j b = l.toList.getD j b := by simp [Array.getD_eq_getD_getElem?, List.getD_eq_getElem?_getD]
theorem vY (o : Oper) (p : Nat → Bool) : o.after.all (fun e => !Region.binds md e || p e.on) = (rq md o).all p := by
  unfold rq
  rw [← Array.all_toList]
  induction o.after.toList with
  | nil => rfl
  | cons e r ih =>
    rw [List.all_cons, ih, List.filter_cons]
    cases h : Region.binds md e <;> simp
theorem zJ (o : Oper) (p : Nat → Bool) : o.after.any (fun e => Region.binds md e && p e.on) = (rq md o).any p := by
  unfold rq
  rw [← Array.any_toList]
  induction o.after.toList with
  | nil => rfl
  | cons e r ih =>
    rw [List.any_cons, ih, List.filter_cons]
    cases h : Region.binds md e <;> simp
theorem pF : (mi md ops).2.length = ops.size := by simp [mi]
theorem ru {o : Oper} (h : ops[i]? = some o) : (mi md ops).2[i]? = some (rq md o, wF md ops i o) := by
  have hi := (Array.getElem?_eq_some_iff.1 h).1
  unfold mi
  rw [List.getElem?_map, List.getElem?_range hi, Option.map_some, h]
theorem ry (h : ops[i]? = none) : (mi md ops).2[i]? = none := by
  have hi : ops.size ≤ i := Array.getElem?_eq_none_iff.1 h
  exact List.getElem?_eq_none (by rw [pF]; exact hi)
theorem yf : pE (mi md ops).2 l.toList i = (!l.getD i true && ((ops[i]?).map (·.after.all fun e => !Region.binds md e || l.getD e.on false)).getD false) := by
  unfold pE
  rw [gd]
  cases h : ops[i]? with
  | none => rw [ry h]; rfl
  | some o =>
    rw [ru h]
    simp only [Option.map_some, Option.getD_some]
    rw [← vY]
    simp only [gd]
theorem ready_eq : Region.ready md ops l = rR (mi md ops).2 l.toList := by
  unfold Region.ready rR
  rw [pF]
  refine List.filter_congr (fun i _ => ?_)
  rw [yf]
theorem free_eq : Region.free md ops l i = xe (mi md ops).2 l.toList i := by
  unfold Region.free xe
  cases h : ops[i]? with
  | none => rw [ry h]
  | some oi =>
    rw [ru h]
    simp only [wF]
    rw [List.all_filter]
    congr 1
    funext j
    rw [gd]
    cases hj : ops[j]? with
    | none => cases (j == i) <;> cases (l.toList.getD j true) <;> simp
    | some oj =>
      cases (j == i) <;> cases (l.toList.getD j true) <;> cases (oj.after.any (fun e => Region.binds md e && e.on == i) || oi.apart ops oj) <;> simp_all
theorem zK : Region.rY md ops l = uC (mi md ops).2 l.toList := by
  unfold Region.rY uC
  rw [pF]
  congr 1
  funext j
  rw [gd]
  cases h : ops[j]? with
  | none => rw [ry h]
  | some o =>
    rw [ru h]
    simp only
    rw [← vY]
    simp only [gd]
theorem xg : ∀ (fuel d : Nat), Region.ou md ops i fuel d = sZ (mi md ops).2 i fuel d
  | 0, _ => rfl
  | fuel + 1, d => by
    unfold Region.ou sZ
    cases h : ops[d]? with
    | none => rw [ry h]
    | some o =>
      rw [ru h]
      simp only
      rw [← zJ]
      congr 1
      funext e
      rw [xg fuel]
theorem Ce : Region.lastB md ops l ds i = lastT (mi md ops).2 l.toList ds i := by
  unfold Region.lastB lastT
  rw [pF]
  congr 1
  funext d
  rw [gd, xg]
theorem tN (h : pE T.2 l.toList i = true) (hT : mi md ops = T) : (Region.ready md ops l).contains i = true := by
  subst hT
  rw [ready_eq]
  unfold rR
  rw [List.contains_iff_mem, List.mem_filter, List.mem_range]
  refine ⟨?_, h⟩
  unfold pE at h
  rw [Bool.and_eq_true] at h
  cases hq : (mi md ops).2[i]? with
  | none => rw [hq] at h; simp at h
  | some r => exact (List.getElem?_eq_some_iff.1 hq).1
theorem yg (h : (l.toList.set i true == l'.toList) = true) : (l.setIfInBounds i true == l') = true := by
  rw [beq_iff_eq] at h ⊢
  apply Array.ext'
  rw [Array.toList_setIfInBounds]
  exact h
def Cf (T : Bool × List (List Nat × List Nat)) (l l' : List Bool) (i : Nat) : Bool := T.1 && xe T.2 l i && pE T.2 l i && (l.set i true == l')
theorem Ao (hT : mi md ops = T) (h : Cf T l.toList l'.toList i = true) : BV md ops l l' i = true := by
  simp only [Cf, Bool.and_eq_true] at h
  obtain ⟨⟨⟨h1, h2⟩, h3⟩, h4⟩ := h
  have h5 := tN h3 hT
  have h6 := yg h4
  subst hT
  simp only [BV, Bool.and_eq_true]
  exact ⟨⟨⟨h1, by rw [free_eq]; exact h2⟩, h5⟩, h6⟩
def Ap (T : Bool × List (List Nat × List Nat)) (ds : List Nat) (l l' : List Bool) (i : Nat) : Bool := T.1 && xe T.2 l i && pE T.2 l i && uC T.2 l && lastT T.2 l ds i && (l.set i true == l')
theorem Cg (hT : mi md ops = T) (h : Ap T ds l.toList l'.toList i = true) : takeB md ops ds l l' i = true := by
  simp only [Ap, Bool.and_eq_true] at h
  obtain ⟨⟨⟨⟨⟨h1, h2⟩, h3⟩, h4⟩, h5⟩, h6⟩ := h
  have h7 := tN h3 hT
  have h8 := yg h6
  subst hT
  simp only [takeB, Bool.and_eq_true]
  exact ⟨⟨⟨⟨⟨h1, by rw [free_eq]; exact h2⟩, h7⟩, by rw [zK]; exact h4⟩, by rw [Ce]; exact h5⟩, h8⟩
theorem rT (hT : mi md ops = T) (h : (rR T.2 l.toList == [i] && l.toList.set i true == l'.toList) = true) : sW md ops l l' i = true := by
  simp only [Bool.and_eq_true] at h
  obtain ⟨h1, h2⟩ := h
  subst hT
  simp only [sW, Bool.and_eq_true]
  exact ⟨by rw [ready_eq]; exact h1, yg h2⟩
theorem Ch (hT : mi md ops = T) (h : (rR T.2 l.toList == []) = true) : (Region.ready md ops l == []) = true := by
  subst hT
  rw [ready_eq]
  exact h
def upM (B : List Nat) (d : Nat) : List Nat → Nat
  | [] => 0
  | n :: r => (2 ^ n ||| (if n < d then B.getD n 0 else 0)) ||| upM B d r
def kJ (T : List (List Nat × List Nat)) (B : List Nat) : Bool := (List.range T.length).all fun d => match T[d]? with
  | some r => (B.getD d 0 ||| upM B d r.1) == upM B d r.1
  | none => false
theorem yY {B : List Nat} {d i : Nat} : ∀ {ns : List Nat}, (upM B d ns).testBit i = true → ∃ n ∈ ns, n = i ∨ (n < d ∧ (B.getD n 0).testBit i = true)
  | [], h => by simp [upM] at h
  | n :: r, h => by
    unfold upM at h
    rw [Nat.testBit_or, Nat.testBit_or, Bool.or_eq_true, Bool.or_eq_true] at h
    rcases h with (h | h) | h
    · rw [Nat.testBit_two_pow] at h
      exact ⟨n, List.mem_cons_self, .inl (by simpa using h)⟩
    · by_cases hn : n < d
      · rw [if_pos hn] at h
        exact ⟨n, List.mem_cons_self, .inr ⟨hn, h⟩⟩
      · rw [if_neg hn] at h
        simp at h
    · obtain ⟨m, hm, h2⟩ := yY h
      exact ⟨m, List.mem_cons_of_mem _ hm, h2⟩
theorem vZ {T : List (List Nat × List Nat)} {B : List Nat} (hB : kJ T B = true) : ∀ (fuel d : Nat), d < fuel → d < T.length → (B.getD d 0).testBit i = true → sZ T i fuel d = true
  | 0, d, h, _, _ => by omega
  | fuel + 1, d, h, hd, hb => by
    have h1 := List.all_eq_true.1 hB d (List.mem_range.2 hd)
    cases hr : T[d]? with
    | none => rw [hr] at h1; simp at h1
    | some r =>
      rw [hr] at h1
      simp only [beq_iff_eq] at h1
      have h2 : (upM B d r.1).testBit i = true := by rw [← h1, Nat.testBit_or, hb, Bool.true_or]
      obtain ⟨n, hn, h3⟩ := yY h2
      unfold sZ
      rw [hr]
      simp only
      rw [List.any_eq_true]
      refine ⟨n, hn, ?_⟩
      rcases h3 with rfl | ⟨h4, h5⟩
      · simp
      · rw [vZ hB fuel n (by omega) (by omega) h5, Bool.or_true]
def Dh (T : List (List Nat × List Nat)) (B : List Nat) (l : List Bool) (ds : List Nat) (i : Nat) : Bool := ds.all fun d => l.getD d true || (decide (d < T.length) && (B.getD d 0).testBit i)
def Aq (T : Bool × List (List Nat × List Nat)) (B : List Nat) (ds : List Nat) (l l' : List Bool) (i : Nat) : Bool := T.1 && xe T.2 l i && pE T.2 l i && uC T.2 l && Dh T.2 B l ds i && (l.set i true == l')
theorem r9 {B : List Nat} (hT : mi md ops = T) (hB : kJ T.2 B = true) (h : Aq T B ds l.toList l'.toList i = true) : takeB md ops ds l l' i = true := by
  refine Cg hT ?_
  simp only [Aq, Ap, Bool.and_eq_true] at h ⊢
  obtain ⟨⟨⟨⟨⟨h1, h2⟩, h3⟩, h4⟩, h5⟩, h6⟩ := h
  refine ⟨⟨⟨⟨⟨h1, h2⟩, h3⟩, h4⟩, ?_⟩, h6⟩
  unfold Dh at h5
  unfold lastT
  rw [List.all_eq_true] at h5 ⊢
  intro d hd
  have h7 := h5 d hd
  rw [Bool.or_eq_true, Bool.and_eq_true, decide_eq_true_eq] at h7
  rcases h7 with h7 | ⟨h8, h9⟩
  · rw [h7, Bool.true_or]
  · rw [vZ hB _ d h8 h8 h9, Bool.or_true]
theorem iQ {P : Program} {Q : Exit → Act → World → Prop} {S : World → Prop} {n : Nat} {a : Act} {w : World} {B : List Nat} (hT : mi md ops = T) (hB : kJ T.2 B = true) (h : ae (mi md ops = T) → ae (kJ T.2 B = true) → eO P md ops Q S ds n l a w) : eO P md ops Q S ds n l a w := h ⟨hT⟩ ⟨hB⟩
end
def rH : Code → Nat → Option (Array Oper)
  | .region id ops _, k => if id == k then some ops else none
  | .seq a b, k => match rH a k with
    | some o => some o
    | none => rH b k
  | .cond _ a b, k => match rH a k with
    | some o => some o
    | none => rH b k
  | .block _ c, k => rH c k
  | .loop c, k => rH c k
  | .scope c, k => rH c k
  | .rangeFunc _ _ a b, k => match rH a k with
    | some o => some o
    | none => rH b k
  | _, _ => none
def opsOf (f : Func) (k : Nat) : Array Oper := ((f.body.bind fun c => rH c k)).getD #[]
end Go.Proofs.YthfphdbebnkdpaaDoorW.bL
end
section
namespace Go.Proofs.YthfphdbebnkdpaaDoorW.bL
open Go.RowKit Go.Proofs.YthfphdbebnkdpaaDoorW.aZ
section
variable {P : Program} {ops : Array Oper} {Q : Exit → Act → World → Prop} {md : Region.Mode} {S : World → Prop} {ds : List Nat} {T : Bool × List (List Nat × List Nat)} {B : List Nat} {oi : Oper} {v : Value} {fuel : Nat} {l : Array Bool} {a a' : Act} {w : World}
theorem eU (i : Nat) (N : Option Tmp) (HT : ae (mi md ops = T)) (HW : ae (kJ T.2 B = true)) (hS : S w)
    (h : eO P md ops Q S ds fuel (l.setIfInBounds i true) a' w) (hi : ops[i]? = some oi := by exact rfl) (hN : oi.dst = N := by exact rfl)
    (hc : Aq T B ds l.toList (l.setIfInBounds i true).toList i = true := by kernel_rfl) (hQ : ∀ c a w, Q (.panic c) (a.put oi.dst v) w → Q (.panic c) a w := by exact fun _ _ _ h => h)
    (hw : Region.wanted oi (yielded ops a.tmps) = true := by exact rfl) (hv : ∀ w', S w' → (execOp a.eval oi).run P w' = .ok (.value v) w' := by (intro w' s_; (repeat (obtain ⟨_, s_⟩ := s_)); go_simp; with_reducible rfl))
    (ha : a.put N v = a' := by (simp only [Act.put, List.setIfInBounds_toArray, List.set_cons_zero, List.set_cons_succ, gT, oW]; rfl)) : eO P md ops Q S ds (fuel + 1) l a w :=
  oV (l.setIfInBounds i true) hi hN (r9 HT.out HW.out hc) hQ (.inl ⟨hw, hv⟩) hS ha h
theorem cZ (i : Nat) (N : Option Tmp) (HT : ae (mi md ops = T))
    (h : eO P md ops Q S ds fuel (l.setIfInBounds i true) a' w) (hi : ops[i]? = some oi := by exact rfl) (hN : oi.dst = N := by exact rfl)
    (hc : Cf T l.toList (l.setIfInBounds i true).toList i = true := by kernel_rfl) (hQ : ∀ c a w, Q (.panic c) (a.put oi.dst v) w → Q (.panic c) a w := by exact fun _ _ _ h => h)
    (hw : Region.wanted oi (yielded ops a.tmps) = true := by exact rfl) (hv : ∀ w', (execOp a.eval oi).run P w' = .ok (.value v) w' := by (intro w'; go_simp; with_reducible rfl))
    (ha : a.put N v = a' := by (simp only [Act.put, List.setIfInBounds_toArray, List.set_cons_zero, List.set_cons_succ, gT, oW]; rfl)) : eO P md ops Q S ds (fuel + 1) l a w :=
  tL (l.setIfInBounds i true) hi hN (Ao HT.out hc) hQ (.inl ⟨hw, hv⟩) ha h
theorem fe (i : Nat) (N : Option Tmp) (HT : ae (mi md ops = T))
    (h : eO P md ops Q S ds fuel (l.setIfInBounds i true) a' w) (hi : ops[i]? = some oi := by exact rfl) (hN : oi.dst = N := by exact rfl)
    (hc : Cf T l.toList (l.setIfInBounds i true).toList i = true := by kernel_rfl) (hQ : ∀ c a w, Q (.panic c) (a.put oi.dst undef) w → Q (.panic c) a w := by exact fun _ _ _ h => h)
    (hw : Region.wanted oi (yielded ops a.tmps) = false := by exact rfl)
    (ha : a.put N undef = a' := by (simp only [Act.put, List.setIfInBounds_toArray, List.set_cons_zero, List.set_cons_succ, gT, oW]; rfl)) : eO P md ops Q S ds (fuel + 1) l a w :=
  tL (l.setIfInBounds i true) hi hN (Ao HT.out hc) hQ (.inr ⟨hw, rfl⟩) ha h
theorem gU (i : Nat) (N : Option Tmp) (HT : ae (mi md ops = T))
    (h : ∀ K : Act → World → Prop, Shut (∀ a' w', S w' → (S w' → eO P md ops Q S ds fuel (l.setIfInBounds i true) a' w') → K a' w') → if Region.wanted oi (yielded ops a.tmps) = true then Oper.wp P oi a w K Q else K (a.put N undef) w)
    (hi : ops[i]? = some oi := by exact rfl) (hN : oi.dst = N := by exact rfl) (hc : (rR T.2 l.toList == [i] && l.toList.set i true == (l.setIfInBounds i true).toList) = true := by kernel_rfl) (hd : i ∉ ds := by decide) :
    eO P md ops Q S ds (fuel + 1) l a w := vE (l.setIfInBounds i true) hi hN (rT HT.out hc) hd h
theorem nM {n : Nat} (HT : ae (mi md ops = T)) (h : Q .normal a w) (hc : (rR T.2 l.toList == []) = true := by kernel_rfl) : eO P md ops Q S ds n l a w := wX (Ch HT.out hc) h
theorem eY (N : Option Tmp) {b : Act} {u : Value} (h : eO P md ops Q S ds fuel l a' w) (ha : Act.put b N u = a' := by (simp only [Act.put, List.setIfInBounds_toArray, List.set_cons_zero, List.set_cons_succ, gT, oW]; rfl)) : eO P md ops Q S ds fuel l (Act.put b N u) w := FD ha h
end
theorem qt {p : Prop} (h : p := by ((try simp only [List.map_toArray, List.map_cons, List.map_nil]); first | done | rfl | (simp only [List.length_drop, List.length_take]; rfl))) : p := h
theorem qa {p : Prop} (h : p := by first | (with_reducible assumption) | assumption) : p := h
theorem qJ {α : Type} {x y : α} (h : x = y := by (simp only [Act.put, List.setIfInBounds_toArray, List.set_cons_zero, List.set_cons_succ, gT, oW]; rfl)) : x = y := h
theorem qr {p q : Prop} (h : ae p) (k : p → q := by (intro h_; (with_reducible repeat (first | apply Kd.bu | apply Kd.bv | apply Kd.bg)); exact h_)) : q := k h.out
theorem qb {p q : Prop} (h : ae p) (k : p → q := by (intro h_; (with_reducible repeat (first | refine bP ?_ _ | refine bf ?_ | refine bO ?_ _)); exact h_)) : q := k h.out
theorem qw {p q : Prop} (h : ae p) (k : p → q := by (intro h_; repeat (first | (with_reducible first | exact h_ | apply aM | apply aD | apply aH | refine aQ ?_ (ae.out (by assumption))) | exact h_))) : q := k h.out
theorem qs {p q : Prop} (h : p) (k : p → q := by (intro h_; repeat (first | exact h_ | (with_reducible refine Kd.q9 ?_ _) | (with_reducible refine Kd.rf ?_ _) | (with_reducible refine Kd.sU ?_)))) : q := k h
theorem qbb {w W w1 : World} {g : Nat} {o : Obj} (h : ae (w.heap[g]? = some o)) (hb : Below W.heap.size W w1) (k : w.heap[g]? = some o → W.heap[g]? = some o := by (intro h_; (with_reducible repeat (first | refine bP ?_ _ | refine bf ?_ | refine bO ?_ _)); exact h_)) : ae (w1.heap[g]? = some o) := ⟨pW (k h.out) hb⟩
theorem qge {w W W1 : World} {B g : Nat} (h : ae (Below B w W)) (hg : g = W1.heap.size) (k : Below B w W → Below w.heap.size w W1 := by (intro h_; repeat (first | (with_reducible first | exact h_ | apply aM | apply aD | apply aH | refine aQ ?_ (ae.out (by assumption))) | exact h_))) : ae (w.heap.size ≤ g) := ⟨by rw [hg]; exact aN (k h.out)⟩
theorem qnl {w W : World} {g gb : Nat} {o : Obj} (h : ae (w.heap[g]? = some o)) (hg : gb = W.heap.size) (k : w.heap[g]? = some o → W.heap[g]? = some o := by (intro h_; (with_reducible repeat (first | refine bP ?_ _ | refine bf ?_ | refine bO ?_ _)); exact h_)) : ae (g ≠ gb) := ⟨by rw [hg]; exact Nat.ne_of_lt (ww (k h.out))⟩
theorem qng {w W : World} {g gb : Nat} {o : Obj} (h : ae (w.heap[g]? = some o)) (hg : gb = W.heap.size) (k : w.heap[g]? = some o → W.heap[g]? = some o := by (intro h_; (with_reducible repeat (first | refine bP ?_ _ | refine bf ?_ | refine bO ?_ _)); exact h_)) : ae (gb ≠ g) := ⟨by rw [hg]; exact Nat.ne_of_gt (ww (k h.out))⟩
abbrev bT : Bool := true
abbrev bF : Bool := false
section
variable {P : Program} {Q : Exit → Act → World → Prop} {oi : Oper} {N : Option Tmp} {a : Act} {w : World} {K : Act → World → Prop} {f : FuncId} {fn : Func} {aa : Array Operand} {ts : Array TypeId} {ops : Array Oper}
theorem fo (hf : P.funcs[f]? = some fn) (args : Array Value) (h : Calls P f args w fun e w' => ∃ v, e = .returned v ∧ K (a.put N v) w')
    (hw : Region.wanted oi (yielded ops a.tmps) = true := by exact rfl) (hN : oi.dst = N := by exact rfl) (hop : oi.op = .call { callee := .value (.func f), args := aa, argTypes := ts } := by exact rfl)
    (hname : (fn.name == "runtime.NumGoroutine") = false := by kernel_rfl) (hb : fn.body.isSome = true := by exact rfl)
    (hargs : aa.map a.eval = args := by ((try simp only [List.map_toArray, List.map_cons, List.map_nil]); first | done | rfl | (simp only [List.length_drop, List.length_take]; rfl))) : if Region.wanted oi (yielded ops a.tmps) = true then Oper.wp P oi a w K Q else K (a.put N undef) w :=
  wY hf hname hb args hw hN hop hargs h
end
end Go.Proofs.YthfphdbebnkdpaaDoorW.bL
end
section
namespace Go.Proofs.YthfphdbebnkdpaaDoor.Laid
open Go.RowKit Go.Lib
noncomputable def put (h : Array Obj) (g : Nat) (cs : Array Value) : Array Obj := h.modify g fun
    | .cells _ t frozen => .cells cs t frozen
    | o => o
noncomputable def world (os : Os) : World :=
  let w0 := World.holding Tryd.prog os ⟨#[], #[], []⟩
  let h1 := put w0.heap 4 (firstTab.map fun z => Value.int .u8 z).toArray
  let h2 := put h1 5 ((List.range 16).flatMap fun i => [Value.int .u8 (accLo i), Value.int .u8 (accHi i)]).toArray
  { w0 with heap := h2 }
abbrev l2 : List (String × DataW Unit) := [("unicode/utf8.acceptRanges", Rows.laid_unicode_utf8_acceptRanges), ("unicode/utf8.first", Rows.laid_unicode_utf8_first)]
theorem I7 (os : Os) (args : Array Value) : laidMetH Tryd.prog l2 ((world os).forCall (fun _ _ => 0) ⟨#[], args, []⟩).memory :=
  laidMetH_of_parts3 (fuel := 8) (laidMet_of_run' 8 (by kernel_rfl) (by kernel_rfl)) (by kernel_rfl) (by kernel_rfl)
end Go.Proofs.YthfphdbebnkdpaaDoor.Laid
end
section
namespace Go.Proofs.YthfphdbebnkdpaaDoor.Pn
def vl : List Int → Nat
  | [] => 0
  | x :: xs => x.toNat + 4294967296 * vl xs
def dg (n : Nat) : List Int := if h : n = 0 then [] else ((n % 4294967296 : Nat) : Int) :: dg (n / 4294967296)
termination_by n
decreasing_by omega
def OKL (l : List Int) : Prop := ∀ x ∈ l, 0 ≤ x ∧ x < 4294967296
def pY (l : List Int) : List Int := (l.reverse.dropWhile (fun x => x == 0)).reverse
theorem iL : dg 0 = [] := by rw [dg]; simp
theorem qx {n : Nat} (h : n ≠ 0) : dg n = ((n % 4294967296 : Nat) : Int) :: dg (n / 4294967296) := by rw [dg]; simp [h]
theorem pO {n : Nat} : dg n = [] ↔ n = 0 := by
  constructor
  · intro h
    by_cases h0 : n = 0
    · exact h0
    · rw [qx h0] at h; cases h
  · rintro rfl; exact iL
theorem mq (n : Nat) : vl (dg n) = n := by
  induction n using Nat.strongRecOn with
  | _ n ih =>
    by_cases h : n = 0
    · subst h; rw [iL]; rfl
    · rw [qx h, vl, ih (n / 4294967296) (by omega)]; omega
theorem wG : OKL [] := by intro x hx; cases hx
theorem p8 {x : Int} {l : List Int} : OKL (x :: l) ↔ (0 ≤ x ∧ x < 4294967296) ∧ OKL l := by simp [OKL]
theorem qy {a b : List Int} : OKL (a ++ b) ↔ OKL a ∧ OKL b := by
  simp only [OKL, List.mem_append]
  constructor
  · intro h; exact ⟨fun x hx => h x (.inl hx), fun x hx => h x (.inr hx)⟩
  · rintro ⟨h1, h2⟩ x (hx | hx)
    · exact h1 x hx
    · exact h2 x hx
theorem kZ (n : Nat) : OKL (dg n) := by
  induction n using Nat.strongRecOn with
  | _ n ih =>
    by_cases h : n = 0
    · subst h; rw [iL]; exact wG
    · rw [qx h, p8]; exact ⟨by omega, ih _ (by omega)⟩
theorem qK {l : List Int} (h : OKL l) (n : Nat) : OKL (l.take n) := fun x hx => h x (List.mem_of_mem_take hx)
theorem Ar {l : List Int} (h : OKL l) (n : Nat) : OKL (l.drop n) := fun x hx => h x (List.mem_of_mem_drop hx)
theorem oI (n : Nat) : OKL (List.replicate n 0) := by intro x hx; rw [List.mem_replicate] at hx; rw [hx.2]; decide
theorem lT (a b : List Int) : vl (a ++ b) = vl a + 4294967296 ^ a.length * vl b := by
  induction a with
  | nil => simp [vl]
  | cons x a ih => rw [List.cons_append, vl, vl, ih, List.length_cons, Nat.pow_succ, Nat.mul_add, Nat.add_assoc, ← Nat.mul_assoc, Nat.mul_comm (4294967296 ^ a.length) 4294967296]
theorem rJ {l : List Int} (h : OKL l) : vl l < 4294967296 ^ l.length := by
  induction l with
  | nil => simp [vl]
  | cons x l ih =>
    rw [p8] at h
    have := ih h.2
    rw [vl, List.length_cons, Nat.pow_succ]
    have h2 : x.toNat < 4294967296 := by omega
    calc x.toNat + 4294967296 * vl l < 4294967296 + 4294967296 * vl l := by omega
      _ = (vl l + 1) * 4294967296 := by rw [Nat.add_mul, Nat.mul_comm]; omega
      _ ≤ 4294967296 ^ l.length * 4294967296 := Nat.mul_le_mul_right _ this
theorem uM (n : Nat) : vl (List.replicate n 0) = 0 := by
  induction n with
  | zero => rfl
  | succ n ih => rw [List.replicate_succ, vl, ih]; rfl
theorem lc {n L : Nat} (h : n < 4294967296 ^ L) : (dg n).length ≤ L := by
  induction L generalizing n with
  | zero => simp at h; subst h; rw [iL]; simp
  | succ L ih =>
    by_cases h0 : n = 0
    · subst h0; rw [iL]; simp
    · rw [qx h0, List.length_cons]
      have : n / 4294967296 < 4294967296 ^ L := by rw [Nat.pow_succ] at h; exact Nat.div_lt_of_lt_mul (by rw [Nat.mul_comm]; exact h)
      have := ih this
      omega
theorem qL (n : Nat) : n < 4294967296 ^ (dg n).length := by
  have := rJ (kZ n)
  rwa [mq] at this
theorem p9 {n L : Nat} (h : (dg n).length ≤ L) : n < 4294967296 ^ L := Nat.lt_of_lt_of_le (qL n) (Nat.pow_le_pow_right (by decide) h)
theorem Di {n : Nat} (h : n ≠ 0) : 4294967296 ^ ((dg n).length - 1) ≤ n := by
  by_cases h2 : n < 4294967296 ^ ((dg n).length - 1)
  · have h3 := lc h2
    have h4 : (dg n).length ≠ 0 := by intro h5; exact h (pO.1 (List.eq_nil_of_length_eq_zero h5))
    omega
  · omega
theorem ow (l : List Int) : pY (l ++ [0]) = pY l := by simp [pY]
theorem rU (l : List Int) {x : Int} (h : x ≠ 0) : pY (l ++ [x]) = l ++ [x] := by simp [pY, h]
theorem FH {l : List Int} (h : OKL l) (hl : ∀ a x, l = a ++ [x] → x ≠ 0) : dg (vl l) = l := by
  induction l with
  | nil => exact iL
  | cons x l ih =>
    rw [p8] at h
    have ih := ih h.2 (fun a y e => hl (x :: a) y (by rw [e]; rfl))
    have h0 : vl (x :: l) ≠ 0 := by
      rw [vl]
      intro e
      have e1 : x = 0 := by omega
      have e2 : vl l = 0 := by omega
      rw [e2, iL] at ih
      subst ih
      exact hl [] x rfl e1
    rw [qx h0, vl]
    have e1 : (x.toNat + 4294967296 * vl l) / 4294967296 = vl l := by omega
    have e2 : (((x.toNat + 4294967296 * vl l) % 4294967296 : Nat) : Int) = x := by omega
    rw [e1, ih, e2]
theorem nS {l : List Int} (h : OKL l) : pY l = dg (vl l) := by
  induction hl : l.length generalizing l with
  | zero => rw [List.eq_nil_of_length_eq_zero hl]; exact iL.symm
  | succ n ih =>
    obtain ⟨a, x, rfl⟩ : ∃ a x, l = a ++ [x] := ⟨l.dropLast, l.getLast (by intro h; subst h; cases hl), (List.dropLast_concat_getLast _).symm⟩
    by_cases h0 : x = 0
    · subst h0; rw [ow, ih (qy.1 h).1 (by simpa using hl), lT]; simp [vl]
    · rw [rU a h0]
      refine (FH h (fun b y e => ?_)).symm
      have := List.append_inj' e rfl
      have h3 : x = y := by simpa using this.2
      rw [← h3]; exact h0
theorem Ej {n m : Nat} (h : dg n = dg m) : n = m := by rw [← mq n, h, mq]
theorem zL (l : List Int) : (pY l).length ≤ l.length := by
  unfold pY
  rw [List.length_reverse]
  have := (List.dropWhile_sublist (fun x : Int => x == 0) (l := l.reverse)).length_le
  simpa using this
theorem si (n i : Nat) : (dg n).getD i 0 = ((n / 4294967296 ^ i % 4294967296 : Nat) : Int) := by
  induction i generalizing n with
  | zero =>
    by_cases h : n = 0
    · subst h; rw [iL]; simp
    · rw [qx h]; simp
  | succ i ih =>
    by_cases h : n = 0
    · subst h; rw [iL]; simp
    · rw [qx h, List.getD_cons_succ, ih, Nat.pow_succ, Nat.mul_comm, Nat.div_div_eq_div_mul]
theorem sj {l : List Int} (h : OKL l) (i : Nat) : (l.getD i 0) = ((vl l / 4294967296 ^ i % 4294967296 : Nat) : Int) := by
  induction l generalizing i with
  | nil => simp [vl]
  | cons x l ih =>
    rw [p8] at h
    cases i with
    | zero => simp [vl]; omega
    | succ i =>
      rw [List.getD_cons_succ, ih h.2, vl, Nat.pow_succ, Nat.mul_comm (4294967296 ^ i), ← Nat.div_div_eq_div_mul]
      rw [show (x.toNat + 4294967296 * vl l) / 4294967296 = vl l by omega]
theorem qz (l : List Int) (n : Nat) (h : n ≤ l.length) : vl l = vl (l.take n) + 4294967296 ^ n * vl (l.drop n) := by
  have := lT (l.take n) (l.drop n)
  rw [List.take_append_drop, List.length_take, Nat.min_eq_left h] at this
  exact this
end Go.Proofs.YthfphdbebnkdpaaDoor.Pn
end
section
namespace Go.Proofs.YthfphdbebnkdpaaDoorW.aZ
theorem iB.one {α : Type} {R : α → List Value → Prop} {ps : List α} {cs : List Value} {p : α} {v : Value} (hp : R p [v]) (h : iB R 1 ps cs) : iB R 1 (p :: ps) (v :: cs) := by
  refine ⟨by simp [h.1], fun j q hq => ?_⟩
  cases j with
  | zero =>
    simp only [List.getElem?_cons_zero, Option.some.injEq] at hq
    subst hq
    simpa using hp
  | succ j =>
    simp only [List.getElem?_cons_succ] at hq
    have h1 := h.2 j q hq
    simpa [Nat.mul_one] using h1
theorem iB.front {α : Type} {R : α → List Value → Prop} {size : Nat} {ps : List α} {cs c all : List Value} {p : α} (hp : R p c) (hc : c.length = size) (h : iB R size ps cs) (ha : c ++ cs = all) : iB R size (p :: ps) all := by
  subst ha
  refine ⟨by rw [List.length_append, hc, h.1, List.length_cons, Nat.succ_mul, Nat.add_comm], fun j q hq => ?_⟩
  cases j with
  | zero =>
    simp only [List.getElem?_cons_zero, Option.some.injEq] at hq
    subst hq
    rw [Nat.zero_mul, List.drop_zero, List.take_append_of_le_length (by omega), List.take_of_length_le (by omega)]
    exact hp
  | succ j =>
    simp only [List.getElem?_cons_succ] at hq
    have h1 := h.2 j q hq
    rw [Nat.succ_mul, List.drop_append, List.drop_of_length_le (by rw [hc]; exact Nat.le_add_left _ _), List.nil_append, hc, Nat.add_sub_cancel]
    exact h1
theorem iB.c2 {α : Type} {R : α → List Value → Prop} {ps : List α} {cs : List Value} {p : α} {va vb : Value} (hp : R p [va, vb]) (h : iB R 2 ps cs) : iB R 2 (p :: ps) (va :: vb :: cs) := iB.front hp rfl h rfl
theorem iB.c3 {α : Type} {R : α → List Value → Prop} {ps : List α} {cs : List Value} {p : α} {va vb vc : Value} (hp : R p [va, vb, vc]) (h : iB R 3 ps cs) : iB R 3 (p :: ps) (va :: vb :: vc :: cs) := iB.front hp rfl h rfl
theorem iB.c4 {α : Type} {R : α → List Value → Prop} {ps : List α} {cs : List Value} {p : α} {va vb vc vd : Value} (hp : R p [va, vb, vc, vd]) (h : iB R 4 ps cs) : iB R 4 (p :: ps) (va :: vb :: vc :: vd :: cs) := iB.front hp rfl h rfl
theorem iB.c5 {α : Type} {R : α → List Value → Prop} {ps : List α} {cs : List Value} {p : α} {va vb vc vd ve : Value} (hp : R p [va, vb, vc, vd, ve]) (h : iB R 5 ps cs) : iB R 5 (p :: ps) (va :: vb :: vc :: vd :: ve :: cs) := iB.front hp rfl h rfl
theorem iB.c6 {α : Type} {R : α → List Value → Prop} {ps : List α} {cs : List Value} {p : α} {va vb vc vd ve vf : Value} (hp : R p [va, vb, vc, vd, ve, vf]) (h : iB R 6 ps cs) : iB R 6 (p :: ps) (va :: vb :: vc :: vd :: ve :: vf :: cs) := iB.front hp rfl h rfl
theorem iB.c7 {α : Type} {R : α → List Value → Prop} {ps : List α} {cs : List Value} {p : α} {va vb vc vd ve vf vg : Value} (hp : R p [va, vb, vc, vd, ve, vf, vg]) (h : iB R 7 ps cs) : iB R 7 (p :: ps) (va :: vb :: vc :: vd :: ve :: vf :: vg :: cs) := iB.front hp rfl h rfl
theorem iB.c8 {α : Type} {R : α → List Value → Prop} {ps : List α} {cs : List Value} {p : α} {va vb vc vd ve vf vg vh : Value} (hp : R p [va, vb, vc, vd, ve, vf, vg, vh]) (h : iB R 8 ps cs) : iB R 8 (p :: ps) (va :: vb :: vc :: vd :: ve :: vf :: vg :: vh :: cs) := iB.front hp rfl h rfl
theorem iB.c9 {α : Type} {R : α → List Value → Prop} {ps : List α} {cs : List Value} {p : α} {va vb vc vd ve vf vg vh vi : Value} (hp : R p [va, vb, vc, vd, ve, vf, vg, vh, vi]) (h : iB R 9 ps cs) : iB R 9 (p :: ps) (va :: vb :: vc :: vd :: ve :: vf :: vg :: vh :: vi :: cs) := iB.front hp rfl h rfl
theorem iB.c10 {α : Type} {R : α → List Value → Prop} {ps : List α} {cs : List Value} {p : α} {va vb vc vd ve vf vg vh vi vj : Value} (hp : R p [va, vb, vc, vd, ve, vf, vg, vh, vi, vj]) (h : iB R 10 ps cs) : iB R 10 (p :: ps) (va :: vb :: vc :: vd :: ve :: vf :: vg :: vh :: vi :: vj :: cs) := iB.front hp rfl h rfl
end Go.Proofs.YthfphdbebnkdpaaDoorW.aZ
end
section
namespace Go.Proofs.YthfphdbebnkdpaaDoorW.aZ
open Go.RowKit
section
variable {P : Program} {ops : Array Oper} {rest : List Oper} {o : Oper} {a : Act} {Q : Exit → Act → World → Prop} {W : World}
theorem iw (hw : Region.wanted o (yielded ops a.tmps) = true) (h : wpList P ops Q ({ o with guard := none } :: rest) a W) : wpList P ops Q (o :: rest) a W := by
  have h1 : Region.wanted { o with guard := none } (yielded ops a.tmps) = true := rfl
  unfold wpList at h ⊢
  rw [if_pos h1] at h
  rw [if_pos hw]
  exact h
end
end Go.Proofs.YthfphdbebnkdpaaDoorW.aZ
end
section
namespace Go.Proofs.YthfphdbebnkdpaaDoor.P
open Go.RowKit Go.Proofs.YthfphdbebnkdpaaDoorW.aZ Go.Proofs.YthfphdbebnkdpaaDoorW.bL Go.Proofs.YthfphdbebnkdpaaDoorW.dC
attribute [local go_sem] dZ d9 fA fB dH dI ed ek
set_option linter.unusedVariables false
set_option linter.unusedSimpArgs false
theorem info5 : (Tryd.prog.info? 5).map (fun i => (i.zero, i.size, i.bytes)) = some (some (.int .u8 0), 1, 1) := by kernel_rfl
theorem lX : (Tryd.prog.info? 64).map (fun i => (i.zero, i.size, i.bytes)) = some (some (.int .u64 0), 1, 8) := by kernel_rfl
def rM (xs : List (List Int)) (i : Int) : (List Int) := xs.getD i.toNat ([] : List Int)
theorem FI {w : World} {A : Option Addr} {n : Nat} {xs : List (List Int)} (h : Kd.C (Kd.slice 64 (Kd.int .u64)) w A n xs) (i : Int) (h0 : 0 ≤ i) (h1 : i < n) : ∃ ad A0 c0, A = some ad ∧ w.cell? (ad.add i.toNat) = some (.slice A0 (rM xs i).length c0) ∧ (rM xs i).length ≤ c0 ∧ (Kd.int .u64).C w A0 (rM xs i).length (rM xs i) := by
 obtain ⟨ad, c, e, _, hK, hc0⟩ := Kd.FC h ([] : List Int) i h0 h1
 have hc : ∀ j u, c[j]? = some u → w.cell? (ad.add (i.toNat * 1 + j)) = some u := hc0
 obtain ⟨A0, c0, rfl, l0, g0⟩ := hK
 exact ⟨ad, A0, c0, e, by have hq := hc 0 _ rfl; rwa [Nat.mul_one, Nat.add_zero] at hq, l0, g0⟩
end Go.Proofs.YthfphdbebnkdpaaDoor.P
end
section
namespace Go.Proofs.YthfphdbebnkdpaaDoor.P
open Go.RowKit Go.Proofs.YthfphdbebnkdpaaDoorW.aZ Go.Proofs.YthfphdbebnkdpaaDoorW.bL Go.Proofs.YthfphdbebnkdpaaDoorW.dC
attribute [local go_sem] dZ d9 fA fB dH dI ed ek
set_option linter.unusedVariables false
set_option linter.unusedSimpArgs false
def eu.l0 : Nat → List Int → Int → Option (List Int)
 | 0, _, _ => none
 | k + 1, x0, x3 => if x3 > 0 then (if 0 ≤ (wrap64 (x3 - 1)) then (if (wrap64 (x3 - 1)) < (x0.length : Int) then (if (rd x0 (wrap64 (x3 - 1))) = 0 then (eu.l0 k x0 (wrap64 (x3 - 1))) else (if 0 ≤ x3 then (if x3 ≤ (x0.length : Int) then (some (x0.take (x3 : Int).toNat)) else (none)) else (none))) else (none)) else (none)) else (if 0 ≤ x3 then (if x3 ≤ (x0.length : Int) then (some (x0.take (x3 : Int).toNat)) else (none)) else (none))
def eu.f (k : Nat) (l0 : List Int) : Option (List Int) := eu.l0 k l0 (l0.length : Int)
theorem eu.mr : ∀ k, (∀ y0 y1, LeO (eu.l0 k y0 y1) (eu.l0 (k + 1) y0 y1))
 | 0 => fun _ _ r h => by simp [eu.l0] at h
 | k + 1 => by
  have ih0 := eu.mr k
  ·intro y0 y1
   unfold eu.l0
   repeat' first
   | (with_reducible exact ih0 _ _)
   | (with_reducible exact LeO.refl _)
   | (with_reducible exact LeO.none _)
   | (with_reducible refine LeO.ite ?_ ?_)
   | (with_reducible refine LeO.bind ?_ (fun _ => ?_))
   | exact ih0 _ _
   | exact LeO.none _
   | refine LeO.ite ?_ ?_
   | refine LeO.bind ?_ (fun _ => ?_)
theorem eu.mono : ∀ a0 k, LeO (eu.f k a0) (eu.f (k + 1) a0) := by
 intro a0 k
 have ih0 := eu.mr k
 unfold eu.f
 repeat' first
   | (with_reducible exact ih0 _ _)
   | (with_reducible exact LeO.refl _)
   | (with_reducible exact LeO.none _)
   | (with_reducible refine LeO.ite ?_ ?_)
   | (with_reducible refine LeO.bind ?_ (fun _ => ?_))
   | exact ih0 _ _
   | exact LeO.none _
   | refine LeO.ite ?_ ?_
   | refine LeO.bind ?_ (fun _ => ?_)
set_option maxHeartbeats 8000000 in
set_option maxRecDepth 100000 in
theorem eu.calls (k : Nat) (P0_ : Nat → Prop) (u9000_ : Value) (l0 : List Int) (r : List Int) (w0 w : World) (hB : Below w0.heap.size w0 w) (ho0 : Kd.R (Kd.int .u64) 64 w w0.heap.size P0_ u9000_ l0) (h : eu.f k l0 = some r) :
  Calls Tryd.prog 55 #[u9000_] w fun e w' => ∃ v0_ : Value, e = .returned (v0_) ∧ Kd.R (Kd.int .u64) 64 w' w0.heap.size (fun k_ => (P0_ k_ ∨ w.heap.size ≤ k_)) v0_ r ∧ Below w0.heap.size w0 w' ∧ Kept w w' (fun k_ => P0_ k_) := by
 have HO0 := ae.mk (show Kd.R (Kd.int .u64) 64 w w0.heap.size (fun k_ => (P0_ k_ ∨ w.heap.size ≤ k_)) u9000_ l0 from Kd.bG ho0 (fun k_ hk => (.inl hk)))
 have HK := ae.mk (Kept.refl w (fun k_ => P0_ k_))
 have HW0 := ae.mk hB.size
 have HB := ae.mk hB
 clear hB
 have H : (eu.l0 k l0 (l0.length : Int)) = some r := h
 clear h
 have H' := ae.mk H
 clear H
 obtain ⟨Ao2, co2, eo2⟩ := Kd.bD HO0.out
 subst eo2
 go_enter Tryd.func55, Tryd.ntmps55
 go_wp2
 go_loopg [3] k (fun kq v3 w' => ∃ (kL : Int), v3 = .int .i64 kL ∧ ae (eu.l0 kq l0 kL = some r) ∧ ae (kq ≤ k) ∧ ae (Kd.R (Kd.int .u64) 64 w' w0.heap.size (fun k_ => (P0_ k_ ∨ w.heap.size ≤ k_)) (.slice Ao2 l0.length co2) l0) ∧ ae (Kept w w' (fun k_ => P0_ k_)) ∧ ae (Below w0.heap.size w0 w'))
 case atStart => exact ⟨((l0.length : Int)), (by first | rfl | (simp; done) | (simp [*]; done)), H', ⟨Nat.le_refl _⟩, ⟨by (with_reducible repeat (first | apply Kd.bu | apply Kd.bv | apply Kd.bg)); exact HO0.out⟩, ⟨by repeat (first | (with_reducible first | exact HK.out | apply Kept.alloc | apply Kept.drewN | apply Kept.drew) | exact HK.out)⟩, ⟨by repeat (first | (with_reducible first | exact HB.out | apply aM | apply aD | apply aH) | exact HB.out)⟩⟩
 case round =>
  clear H'
  try clear p2
  obtain ⟨kL, rfl, HA, HK1, lh, HK, HB⟩ := hrel
  cases gk with
  | zero => exact absurd HA.out (by simp [eu.l0])
  | succ k1 =>
   have H := HA.out
   clear HA
   simp only [eu.l0] at H
   by_cases c3 : kL > 0
   ·rw [if_pos c3] at H
    have nE : decide (0 < kL) = true := decide_eq_true c3
    clear c3
    obtain ⟨ji4, hji4⟩ : ∃ j_ : Int, (wrap64 (kL - 1)) = j_ := ⟨_, rfl⟩
    replace H : (if 0 ≤ (ji4) then (if (ji4) < (l0.length : Int) then (if (rd l0 (ji4)) = 0 then (eu.l0 k1 l0 ji4) else (if 0 ≤ kL then (if kL ≤ (l0.length : Int) then (some (l0.take (kL : Int).toNat)) else (none)) else (none))) else (none)) else (none)) = some r := by first | (rw [hji4] at H; exact H) | (simp only [hji4] at H ⊢; exact H)
    have hji4w : (IntKind.i64.wrap (kL - 1)) = ji4 := (gT _).trans hji4
    by_cases c5 : 0 ≤ (ji4)
    ·rw [if_pos c5] at H
     have jW : decide (0 ≤ (ji4)) = true := decide_eq_true c5
     clear c5
     by_cases c6 : (ji4) < (l0.length : Int)
     ·rw [if_pos c6] at H
      have oJ : decide ((ji4) < (l0.length : Int)) = true := decide_eq_true c6
      clear c6
      by_cases c7 : (rd l0 (ji4)) = 0
      ·rw [if_pos c7] at H
       have uN : ((rd l0 (ji4)) == 0) = true := beq_iff_eq.mpr c7
       have El : ((rd l0 (ji4)) != 0) = false := bne_eq_false_iff_eq.mpr c7
       clear c7
       have H' := ae.mk H
       clear H
       have p101 : 0 ≤ ((ji4) : Int) := of_decide_eq_true qa
       have q101 : (ji4) < (l0.length : Int) := of_decide_eq_true qa
       obtain ⟨ad101, e101, hx101_0⟩ := Kd.gH (Kd.ak lh.out).2.2 (ji4) p101 q101
       cases e101
       replace p101 := eq_true p101
       replace q101 := eq_true q101
       go_wp2
       go_roundg k1
       case measure => have := HK1.out; omega
       case rel => exact ⟨(ji4), (by first | rfl | (simp; done) | (simp only [← hji4] <;> (first | rfl | simp)) | (simp [*]; done)), H', ⟨by have := HK1.out; omega⟩, ⟨by (with_reducible repeat (first | apply Kd.bu | apply Kd.bv | apply Kd.bg)); exact lh.out⟩, ⟨by repeat (first | (with_reducible first | exact HK.out | apply Kept.alloc | apply Kept.drewN | apply Kept.drew) | exact HK.out)⟩, ⟨by repeat (first | (with_reducible first | exact HB.out | apply aM | apply aD | apply aH) | exact HB.out)⟩⟩
      ·rw [if_neg c7] at H
       have uN : ((rd l0 (ji4)) == 0) = false := beq_eq_false_iff_ne.mpr c7
       have El : ((rd l0 (ji4)) != 0) = true := bne_iff_ne.mpr c7
       by_cases c8 : 0 ≤ kL
       ·rw [if_pos c8] at H
        have oZ := eq_true c8
        have zM : decide (0 ≤ kL) = true := decide_eq_true c8
        clear c8
        by_cases c9 : kL ≤ (l0.length : Int)
        ·rw [if_pos c9] at H
         have qc := eq_true c9
         have yh : decide (kL ≤ (l0.length : Int)) = true := decide_eq_true c9
         clear c9
         obtain ⟨y102, hy102⟩ : ∃ y_ : List Int, y_ = (l0.take (kL : Int).toNat) := ⟨_, rfl⟩
         replace H : (some y102) = some r := by first | (rw [hy102]; with_reducible exact H) | (have H2_ := (Option.bind_some _ _).symm.trans H; rw [hy102]; with_reducible exact H2_) | (have H2_ := (Option.bind_some _ _).symm.trans H; with_reducible exact H2_) | with_reducible exact H | (rw [hy102]; exact H) | exact H
         have Ny102 := ae.mk hy102
         clear hy102
         obtain rfl := Option.some.inj H
         have p101 : 0 ≤ ((ji4) : Int) := of_decide_eq_true qa
         have q101 : (ji4) < (l0.length : Int) := of_decide_eq_true qa
         obtain ⟨ad101, e101, hx101_0⟩ := Kd.gH (Kd.ak lh.out).2.2 (ji4) p101 q101
         cases e101
         replace p101 := eq_true p101
         replace q101 := eq_true q101
         have q10 : (kL : Int) ≤ ((l0.length : Int) : Int) := of_decide_eq_true qa
         obtain ⟨i010, hi010, _, hsz10, _⟩ := info_parts lX
         have hcut10 := xV (P := Tryd.prog) 23 64 .i64 Tryd.underlying23 hi010 (some ad101) l0.length co2 kL (of_decide_eq_true qa) q10 (Kd.ak lh.out).2.1
         have hr10 := Kd.xX (m := (kL : Int).toNat) lh.out (by omega)
         have hy10 : y102.length = (kL : Int).toNat := (by rw [Ny102.out, List.length_take]; omega)
         rw [← Ny102.out] at hr10
         rw [← hy10] at hr10 hcut10
         clear hy10 hi010 hsz10 lh
         have fG := ae.mk hr10
         clear hr10
         replace q10 := eq_true q10
         go_wp2
         go_ret
         exact ⟨_, by first | rfl | (simp [errW_none, errW_some] <;> rfl) | (simp only [← hji4]; first | rfl | (simp [errW_none, errW_some] <;> rfl)) | (simp [*, errW_none, errW_some] <;> rfl), by (with_reducible repeat (first | apply Kd.bu | apply Kd.bv | apply Kd.bg)); exact fG.out, by repeat (first | (with_reducible first | exact HB.out | apply aM | apply aD | apply aH) | exact HB.out), by repeat (first | (with_reducible first | exact HK.out | apply Kept.alloc | apply Kept.drewN | apply Kept.drew) | exact HK.out)⟩
        ·rw [if_neg c9] at H
         exact absurd H (by simp)
       ·rw [if_neg c8] at H
        exact absurd H (by simp)
     ·rw [if_neg c6] at H
      exact absurd H (by simp)
    ·rw [if_neg c5] at H
     exact absurd H (by simp)
   ·rw [if_neg c3] at H
    have nE : decide (0 < kL) = false := decide_eq_false c3
    clear c3
    by_cases c11 : 0 ≤ kL
    ·rw [if_pos c11] at H
     have qB := eq_true c11
     have Dj : decide (0 ≤ kL) = true := decide_eq_true c11
     clear c11
     by_cases c12 : kL ≤ (l0.length : Int)
     ·rw [if_pos c12] at H
      have su := eq_true c12
      have Kh : decide (kL ≤ (l0.length : Int)) = true := decide_eq_true c12
      clear c12
      obtain ⟨y105, hy105⟩ : ∃ y_ : List Int, y_ = (l0.take (kL : Int).toNat) := ⟨_, rfl⟩
      replace H : (some y105) = some r := by first | (rw [hy105]; with_reducible exact H) | (have H2_ := (Option.bind_some _ _).symm.trans H; rw [hy105]; with_reducible exact H2_) | (have H2_ := (Option.bind_some _ _).symm.trans H; with_reducible exact H2_) | with_reducible exact H | (rw [hy105]; exact H) | exact H
      have Ny105 := ae.mk hy105
      clear hy105
      obtain rfl := Option.some.inj H
      have q13 : (kL : Int) ≤ ((l0.length : Int) : Int) := of_decide_eq_true qa
      obtain ⟨i013, hi013, _, hsz13, _⟩ := info_parts lX
      have hcut13 := xV (P := Tryd.prog) 23 64 .i64 Tryd.underlying23 hi013 Ao2 l0.length co2 kL (of_decide_eq_true qa) q13 (Kd.ak lh.out).2.1
      have hr13 := Kd.xX (m := (kL : Int).toNat) lh.out (by omega)
      have hy13 : y105.length = (kL : Int).toNat := (by rw [Ny105.out, List.length_take]; omega)
      rw [← Ny105.out] at hr13
      rw [← hy13] at hr13 hcut13
      clear hy13 hi013 hsz13 lh
      have gF := ae.mk hr13
      clear hr13
      replace q13 := eq_true q13
      go_wp2
      go_ret
      exact ⟨_, by first | rfl | (simp [errW_none, errW_some] <;> rfl) | (simp [*, errW_none, errW_some] <;> rfl), by (with_reducible repeat (first | apply Kd.bu | apply Kd.bv | apply Kd.bg)); exact gF.out, by repeat (first | (with_reducible first | exact HB.out | apply aM | apply aD | apply aH) | exact HB.out), by repeat (first | (with_reducible first | exact HK.out | apply Kept.alloc | apply Kept.drewN | apply Kept.drew) | exact HK.out)⟩
     ·rw [if_neg c12] at H
      exact absurd H (by simp)
    ·rw [if_neg c11] at H
     exact absurd H (by simp)
end Go.Proofs.YthfphdbebnkdpaaDoor.P
end
section
set_option linter.unusedVariables false
set_option linter.unusedSimpArgs false
namespace Go.Proofs.YthfphdbebnkdpaaDoorV
open Go.RowKit Go.Proofs.YthfphdbebnkdpaaDoorW.aZ Go.Proofs.YthfphdbebnkdpaaDoorW.bL Go.Proofs.YthfphdbebnkdpaaDoorW.dC
section
variable {P : Program} {ops : Array Oper} {rest : List Oper} {o : Oper} {a : Act} {Q : Exit → Act → World → Prop} {α : Type}
theorem Ci (d : Kd α) {w0 W : World} (base e : Nat) (hgd : o.guard = none) {N : Tmp} (hd : o.dst = some N) (t : TypeId) (x y : Operand) (ho : o.op = .makeSlice t x y) (n : Int) (hx : a.eval x = .int .i64 0) (hy : a.eval y = .int .i64 n)
    (ht : P.underlying t = some (.slice e)) (z : Value) (bytes : Nat) (hinfo : (P.info? e).map (fun i => (i.zero, i.size, i.bytes)) = some (some z, d.sz, bytes)) (hz : z.cells.size = d.sz) (hs0 : 0 < d.sz) (hb0 : 0 < bytes)
    {ok okp : Nat → Prop} (hfresh : ok W.heap.size) (h0 : 0 ≤ n) (hl : n.toNat * bytes ≤ 281474976710656) (HB : Below base w0 W) (hbase : base ≤ W.heap.size)
    (h : ∀ v1 w1, d.R e w1 base ok v1 [] → Below base w0 w1 → W.grownBy w1 none → (∃ b, v1.ownBlock = some b ∧ W.heap.size ≤ b) → wpList P ops Q rest (a.put o.dst v1) w1) : wpList P ops Q (o :: rest) a W := by
  obtain ⟨m, rfl⟩ := Int.eq_ofNat_of_zero_le h0
  simp only [Int.toNat_natCast] at hl h
  obtain ⟨i0, hi, hzz⟩ := Option.map_eq_some_iff.1 hinfo
  simp only [Prod.mk.injEq] at hzz
  obtain ⟨hz0, hz1, hz2⟩ := hzz
  have hm : m ≤ 281474976710656 := Nat.le_trans (Nat.le_mul_of_pos_right _ hb0) hl
  have hr := run_make (P := P) W t e i0 z ht hi hz0 .i64 .i64 (0 : Int) (m : Int) (by omega) (by omega)
    (by
      have h3 : ((i0.bytes * m : Nat) : Int) ≤ 281474976710656 := by rw [hz2, Nat.mul_comm]; omega
      rwa [Int.natCast_mul] at h3) (by omega)
  simp only [Int.toNat_natCast] at hr
  rw [hz1] at hr
  refine Kd.sV hgd (v := .slice (some ⟨W.heap.size, 0, none⟩) 0 m) (w1 := W.alloc (.cells (madeCells z.cells (m * d.sz)) e)) (by simp [execOp, ho, hx, hy, hr]) (h _ _ ⟨fun k hk => ?_, [], ?_, ?_⟩ (HB.alloc hbase _) (World.grownBy_alloc W _ none) ⟨W.heap.size, by simp [Value.ownBlock], Nat.le_refl _⟩)
  · have : W.heap.size = k := by simpa [Value.ownBlock] using hk
    subst this
    exact hfresh
  · have h2 := World.ownsRow_made (base := base) (e := e) (size := d.sz) W (madeCells z.cells (m * d.sz)) m hbase (by simp only [maxLen]; omega) (by simp [size_madeCells])
    simpa using h2
  · exact iB.none _ _
end
def qd (P : Program) (dT sT : TypeId) (dv sv : Value) (w : World) (K : Ending → World → Prop) : Prop :=
  ∀ (ops : Array Oper) (rest : List Oper) (o : Oper) (a : Act) (Q : Exit → Act → World → Prop) (d s : Operand), o.guard = none →
    o.op = .call { callee := .builtin .copy, args := #[d, s], argTypes := #[dT, sT] } → a.eval d = dv → a.eval s = sv →
    (∀ e w', K e w' → ∃ v, e = .returned v ∧ wpList P ops Q rest (a.put o.dst v) w') → wpList P ops Q (o :: rest) a w
theorem qd.mono {P : Program} {dT sT : TypeId} {dv sv : Value} {w : World} {K K' : Ending → World → Prop} (h : qd P dT sT dv sv w K) (hk : ∀ e w', K e w' → K' e w') : qd P dT sT dv sv w K' :=
  fun ops rest o a Q d s hg ho hd hs hh => h ops rest o a Q d s hg ho hd hs (fun e w' hK => hh e w' (hk e w' hK))
theorem Au {P : Program} {ops : Array Oper} {rest : List Oper} {oi : Oper} {a : Act} {w : World} {Q : Exit → Act → World → Prop} (N : Option Tmp) (hd : oi.dst = N) (hg : oi.guard = none) {d s : Operand} {dT sT : TypeId}
    (hop : oi.op = .call { callee := .builtin .copy, args := #[d, s], argTypes := #[dT, sT] }) (args : Array Value) {dv sv : Value} (hargs : #[a.eval d, a.eval s] = args) (he : args = #[dv, sv])
    (h : qd P dT sT dv sv w fun e w' => ∃ v, e = .returned v ∧ wpList P ops Q rest (a.put N v) w') : wpList P ops Q (oi :: rest) a w := by
  subst hd
  rw [he] at hargs
  simp only [Array.mk.injEq, List.cons.injEq, and_true] at hargs
  obtain ⟨h1, h2⟩ := hargs
  exact h ops rest oi a Q d s hg hop h1 h2 (fun e w' hK => hK)
def mI (xs ys : List Int) : Option (Int × List Int) := some ((min xs.length ys.length : Nat), ys.take xs.length ++ xs.drop ys.length)
theorem vF {P : Program} (k : IntKind) (e : Nat) (dT sT : TypeId) (hu : P.underlying dT = some (.slice e)) (hsz : (P.info? e).map (·.size) = some 1)
    (P0_ : Nat → Prop) (u9000_ : Value) (l0 : List Int) (A1 : Option Addr) (c1 : Nat) (l1 : List Int) (r1 : Int) (r2 : List Int) (w0 w : World) (hB : Below w0.heap.size w0 w)
    (ho0 : Kd.R (Kd.int k) e w w0.heap.size P0_ u9000_ l0) (hr1 : ∀ W_, Kept w W_ (fun k_ => P0_ k_) → Kd.C (Kd.int k) W_ A1 l1.length l1) (hc1 : l1.length ≤ c1) (h : mI l0 l1 = some (r1, r2)) :
    qd P dT sT u9000_ (.slice A1 l1.length c1) w fun e_ w' => e_ = .returned (.int .i64 r1) ∧ Kd.R (Kd.int k) e w' w0.heap.size (fun k_ => (P0_ k_ ∨ w.heap.size ≤ k_)) u9000_ r2 ∧ Below w0.heap.size w0 w' ∧ Kept w w' (fun k_ => P0_ k_) := by
  intro ops rest o a Q d s hg ho hd hs hK
  simp only [mI, Option.some.injEq, Prod.mk.injEq] at h
  obtain ⟨rfl, rfl⟩ := h
  have hown := Kd.qH ho0
  have hC := hr1 w (Kept.refl w _)
  by_cases hz : Nat.min l1.length l0.length = 0
  · have h3 : l1.take l0.length ++ l0.drop l1.length = l0 := by
      rcases Nat.min_eq_zero_iff.1 hz with h0 | h0
      · simp [List.eq_nil_of_length_eq_zero h0]
      · simp [List.eq_nil_of_length_eq_zero h0]
    have hform : ∃ dp dLen dCap, u9000_ = .slice dp dLen dCap ∧ dLen = l0.length := by
      rcases hown.2 with ⟨rfl, hn⟩ | ⟨g, cap, cur, rfl, _⟩
      · exact ⟨_, _, _, rfl, hn.symm⟩
      · exact ⟨_, _, _, rfl, rfl⟩
    obtain ⟨dp, dLen, dCap, rfl, rfl⟩ := hform
    refine wpList_copy_nothing hg d s dT sT ho e hu hsz dp A1 l0.length dCap l1.length c1 hd hs hz ?_
    obtain ⟨v, hv, hw⟩ := hK (.returned (.int .i64 (min l0.length l1.length : Nat))) w ⟨rfl, by rw [h3]; exact Kd.bG ho0 (fun k_ hk => Or.inl hk), hB, Kept.refl w _⟩
    cases hv
    rw [show min l0.length l1.length = 0 from by rw [Nat.min_comm]; exact hz] at hw
    exact hw
  · rcases hown.2 with ⟨rfl, hn⟩ | ⟨g, cap, cur, rfl, hbg, hgc, hcap, hmax, hsize, htake⟩
    · exact absurd (by rw [hn]; exact Nat.min_zero _) hz
    have hlen : (nums k (l1.take l0.length)).length = min l0.length l1.length := by simp [nums]
    have hpos' : 0 < l1.length := by have : Nat.min l1.length l0.length ≤ l1.length := Nat.min_le_left _ _; omega
    obtain ⟨ad, rfl, hc⟩ := (Kd.nO (enc := Value.int k) (d := (0 : Int)) (h1 := fun _ => rfl) hC).2.2 hpos'
    refine wpList_copy_own hg d s dT sT ho e hu hsz g 0 l0.length cap ad l1.length c1 hd hs cur e hgc (nums k (l1.take l0.length)) (by rw [hlen, Nat.min_comm]) ?_ (by rw [hlen, hsize]; omega) ?_ ?_
    · intro j v hj
      have hj2 := (List.getElem?_eq_some_iff.1 hj).1
      rw [hlen] at hj2
      have hjl : j < l1.length := by omega
      have hj0 : j < l0.length := by omega
      rw [hc j hjl]
      simp only [nums, List.getElem?_map, List.getElem?_take, if_pos hj0] at hj
      rw [List.getElem?_eq_getElem hjl] at hj
      simp only [Option.map_some] at hj
      rw [← hj]
      simp [List.getD_eq_getElem?_getD, List.getElem?_eq_getElem hjl]
    · intro v hv
      simp only [nums, List.mem_map] at hv
      obtain ⟨x, _, rfl⟩ := hv
      rfl
    · generalize hcs : (cur.toList.take 0 ++ (nums k (l1.take l0.length) ++ cur.toList.drop (0 + (nums k (l1.take l0.length)).length))).toArray = cs
      have hg2 := setRow_heap w g cur cs e (0, 0) hgc
      have hP := ho0.1
      have hl2 : (l1.take l0.length ++ l0.drop l1.length).length = l0.length := by simp; omega
      have hR : Kd.R (Kd.int k) e (w.setRow g cs) w0.heap.size (fun k_ => (P0_ k_ ∨ w.heap.size ≤ k_)) (.slice (some ⟨g, 0, none⟩) l0.length cap) (l1.take l0.length ++ l0.drop l1.length) := by
        refine Kd.uG (enc := Value.int k) (h1 := fun _ => rfl) ?_ (fun k_ hk => Or.inl (hP k_ hk))
        rw [hl2]
        refine ⟨by simp [encs]; omega, .inr ⟨g, cap, cs, rfl, hbg, hg2, hcap, hmax, ?_, ?_⟩⟩
        · rw [← hcs]; simp [hlen, hsize]; omega
        · rw [← hcs]
          simp only [List.take_zero, List.nil_append, Nat.zero_add, Nat.mul_one, hlen]
          rw [List.take_append, hlen]
          have h5 : (nums k (l1.take l0.length)).take l0.length = nums k (l1.take l0.length) := List.take_of_length_le (by rw [hlen]; omega)
          rw [h5]
          have h6 : encs (Value.int k) l0 = cur.toList.take l0.length := by rw [← htake, Nat.mul_one]
          have h7 : encs (Value.int k) (l1.take l0.length ++ l0.drop l1.length) = nums k (l1.take l0.length) ++ (encs (Value.int k) l0).drop l1.length := by simp [encs, nums]
          rw [h7, h6, List.drop_take]
          congr 1
          by_cases hle : l1.length ≤ l0.length
          · rw [show min l0.length l1.length = l1.length by omega]
          · rw [show l0.length - l1.length = 0 by omega, show l0.length - min l0.length l1.length = 0 by omega, List.take_zero, List.take_zero]
      have hKp : Kept w (w.setRow g cs) (fun k_ => P0_ k_) := by
        refine ⟨by simp, fun i hi hn => setRow_other w g i cs ?_⟩
        rintro rfl
        exact hn (hP i (by simp [Value.ownBlock]))
      obtain ⟨v, hv, hw⟩ := hK (.returned (.int .i64 (min l0.length l1.length : Nat))) (w.setRow g cs) ⟨rfl, hR, below_setRow hB hbg _, hKp⟩
      cases hv
      rw [show goInt (nums k (l1.take l0.length)).length = Value.int .i64 ((min l0.length l1.length : Nat) : Int) by rw [hlen]; rfl]
      exact hw
theorem um {P : Program} (k : IntKind) (e : Nat) (dT sT : TypeId) (hu : P.underlying dT = some (.slice e)) (hsz : (P.info? e).map (·.size) = some 1)
    (P0_ : Nat → Prop) (g cap off dl dc n : Nat) (l0 : List Int) (hn : n ≤ l0.length) (hdl : dl = l0.length - n) (hoff : 0 < dl → off = n) (A1 : Option Addr) (c1 : Nat) (l1 : List Int) (w0 w : World) (hB : Below w0.heap.size w0 w)
    (ho0 : Kd.R (Kd.int k) e w w0.heap.size P0_ (.slice (some ⟨g, 0, none⟩) l0.length cap) l0) (hC : Kd.C (Kd.int k) w A1 l1.length l1) (hc1 : l1.length ≤ c1) :
    qd P dT sT (.slice (some ⟨g, off, none⟩) dl dc) (.slice A1 l1.length c1) w fun e_ w' => e_ = .returned (.int .i64 ((min dl l1.length : Nat) : Int)) ∧
      Kd.R (Kd.int k) e w' w0.heap.size (fun k_ => (P0_ k_ ∨ w.heap.size ≤ k_)) (.slice (some ⟨g, 0, none⟩) l0.length cap) (l0.take n ++ (l1.take dl ++ (l0.drop n).drop l1.length)) ∧ Below w0.heap.size w0 w' ∧ Kept w w' (fun k_ => P0_ k_) := by
  intro ops rest o a Q d s hg ho hd hs hK
  subst hdl
  have hown := Kd.qH ho0
  have hl2 : (l0.take n ++ (l1.take (l0.length - n) ++ (l0.drop n).drop l1.length)).length = l0.length := by simp; omega
  by_cases hz : Nat.min l1.length (l0.length - n) = 0
  · have h3 : l0.take n ++ (l1.take (l0.length - n) ++ (l0.drop n).drop l1.length) = l0 := by
      rcases Nat.min_eq_zero_iff.1 hz with h0 | h0
      · simp [List.eq_nil_of_length_eq_zero h0]
      · rw [h0]; simp [show l0.drop n = [] from List.drop_of_length_le (by omega), List.take_of_length_le (show l0.length ≤ n by omega)]
    refine wpList_copy_nothing hg d s dT sT ho e hu hsz (some ⟨g, off, none⟩) A1 (l0.length - n) dc l1.length c1 hd hs hz ?_
    obtain ⟨v, hv, hw⟩ := hK (.returned (.int .i64 (min (l0.length - n) l1.length : Nat))) w ⟨rfl, by rw [h3]; exact Kd.bG ho0 (fun k_ hk => Or.inl hk), hB, Kept.refl w _⟩
    cases hv
    rw [show min (l0.length - n) l1.length = 0 from by rw [Nat.min_comm]; exact hz] at hw
    exact hw
  · rcases hown.2 with ⟨hv, _⟩ | ⟨g', cap', cur, hv, hbg, hgc, hcap, hmax, hsize, htake⟩
    · simp at hv
    simp only [Value.slice.injEq, Option.some.injEq, Addr.mk.injEq, and_true, true_and] at hv
    obtain ⟨rfl, rfl⟩ := hv
    have hlen : (nums k (l1.take (l0.length - n))).length = min (l0.length - n) l1.length := by simp [nums]
    have hmle : Nat.min l1.length (l0.length - n) ≤ l1.length ∧ Nat.min l1.length (l0.length - n) ≤ l0.length - n := ⟨Nat.min_le_left _ _, Nat.min_le_right _ _⟩
    have hpos' : 0 < l1.length := by omega
    obtain rfl := hoff (by omega)
    obtain ⟨ad, rfl, hc⟩ := (Kd.nO (enc := Value.int k) (d := (0 : Int)) (h1 := fun _ => rfl) hC).2.2 hpos'
    refine wpList_copy_own hg d s dT sT ho e hu hsz g off (l0.length - off) dc ad l1.length c1 hd hs cur e hgc (nums k (l1.take (l0.length - off))) (by rw [hlen, Nat.min_comm]) ?_ (by rw [hlen, hsize]; omega) ?_ ?_
    · intro j v hj
      have hj2 := (List.getElem?_eq_some_iff.1 hj).1
      rw [hlen] at hj2
      have hjl : j < l1.length := by omega
      have hj0 : j < l0.length - off := by omega
      rw [hc j hjl]
      simp only [nums, List.getElem?_map, List.getElem?_take, if_pos hj0] at hj
      rw [List.getElem?_eq_getElem hjl] at hj
      simp only [Option.map_some] at hj
      rw [← hj]
      simp [List.getD_eq_getElem?_getD, List.getElem?_eq_getElem hjl]
    · intro v hv
      simp only [nums, List.mem_map] at hv
      obtain ⟨x, _, rfl⟩ := hv
      rfl
    · generalize hcs : (cur.toList.take off ++ (nums k (l1.take (l0.length - off)) ++ cur.toList.drop (off + (nums k (l1.take (l0.length - off))).length))).toArray = cs
      have hg2 := setRow_heap w g cur cs e (0, 0) hgc
      have hP := ho0.1
      have hR : Kd.R (Kd.int k) e (w.setRow g cs) w0.heap.size (fun k_ => (P0_ k_ ∨ w.heap.size ≤ k_)) (.slice (some ⟨g, 0, none⟩) l0.length cap) (l0.take off ++ (l1.take (l0.length - off) ++ (l0.drop off).drop l1.length)) := by
        refine Kd.uG (enc := Value.int k) (h1 := fun _ => rfl) ?_ (fun k_ hk => Or.inl (hP k_ hk))
        rw [hl2]
        refine ⟨by rw [show encs (Value.int k) = List.map (Value.int k) from rfl, List.length_map, hl2, Nat.mul_one], .inr ⟨g, cap, cs, rfl, hbg, hg2, hcap, hmax, ?_, ?_⟩⟩
        · rw [← hcs]; simp [hlen, hsize]; omega
        · have hcl : cur.toList.length = cap := by rw [Array.length_toList, hsize, Nat.mul_one]
          have h6 : encs (Value.int k) l0 = cur.toList.take l0.length := by rw [← htake, Nat.mul_one]
          have h7 : encs (Value.int k) (l0.take off ++ (l1.take (l0.length - off) ++ (l0.drop off).drop l1.length)) = (encs (Value.int k) l0).take off ++ (nums k (l1.take (l0.length - off)) ++ ((encs (Value.int k) l0).drop off).drop l1.length) := by simp [encs, nums]
          rw [h7, h6, ← hcs]
          simp only [Nat.mul_one]
          rw [List.take_append, List.take_append, hlen, List.take_take, List.take_take, List.length_take, hcl, Nat.min_eq_right (show off ≤ l0.length by omega), Nat.min_eq_left (show off ≤ l0.length by omega), Nat.min_eq_left (show off ≤ cap by omega)]
          rw [List.take_of_length_le (show (nums k (l1.take (l0.length - off))).length ≤ l0.length - off by rw [hlen]; omega)]
          congr 2
          rw [List.drop_drop, List.drop_take]
          by_cases hle : l1.length ≤ l0.length - off
          · rw [show min (l0.length - off) l1.length = l1.length by omega, show l0.length - (off + l1.length) = l0.length - off - l1.length by omega]
          · rw [show l0.length - off - min (l0.length - off) l1.length = 0 by omega, show l0.length - (off + l1.length) = 0 by omega, List.take_zero, List.take_zero]
      have hKp : Kept w (w.setRow g cs) (fun k_ => P0_ k_) := by
        refine ⟨by simp, fun i hi hn => setRow_other w g i cs ?_⟩
        rintro rfl
        exact hn (hP i (by simp [Value.ownBlock]))
      obtain ⟨v, hv, hw⟩ := hK (.returned (.int .i64 (min (l0.length - off) l1.length : Nat))) (w.setRow g cs) ⟨rfl, hR, below_setRow hB hbg _, hKp⟩
      cases hv
      rw [show goInt (nums k (l1.take (l0.length - off))).length = Value.int .i64 ((min (l0.length - off) l1.length : Nat) : Int) by rw [hlen]; rfl]
      exact hw
theorem Cj {P : Program} (t e : TypeId) {i : TypeInfo} (ht : P.underlying t = some (.slice e)) (hi : P.info? e = some i) (hsz : i.size = 1) (g n c m : Nat) (hm : m ≤ n) :
    ∃ off : Nat, (∀ W : World, (Instr.slice t (.slice (some ⟨g, 0, none⟩) n c) (some (.int .i64 (m : Int))) none none).run P W = .ok (.slice (some ⟨g, off, none⟩) (n - m) (c - m)) W) ∧ (c ≠ m → off = m) := by
  refine ⟨if c = m then 0 else m, fun W => ?_, fun h => if_neg h⟩
  have hel : P.elem t = e := by simp [Program.elem, ht]
  have hu : P.underlying t = some (.slice (P.elem t)) := by rw [hel]; exact ht
  rw [run_slice_l W t (some ⟨g, 0, none⟩) n c hu .i64 (m : Int) (Int.natCast_nonneg _) (by omega), hel]
  by_cases hc : c = m
  · subst hc
    simp [sizeOf, typeInfo, hi, hsz, sliced, Result.andThen]
  · simp [sizeOf, typeInfo, hi, hsz, sliced, Result.andThen, hc, add_plain]
theorem zN {α : Type} {d : Kd α} {e : Nat} {w : World} {base : Nat} {ok : Nat → Prop} {v : Value} {xs : List α} {m : Nat} (h : d.R e w base ok v xs) (hn : ∃ b, v.ownBlock = some b ∧ m ≤ b) :
    ∃ g cap, v = .slice (some ⟨g, 0, none⟩) xs.length cap ∧ xs.length ≤ cap ∧ m ≤ g := by
  obtain ⟨b, hb, hmb⟩ := hn
  obtain ⟨_, inner, ho, hr⟩ := h
  rcases ho.2 with ⟨rfl, _⟩ | ⟨g, cap, cur, rfl, _, _, hc, _⟩
  · simp [Value.ownBlock] at hb
  · simp [Value.ownBlock] at hb
    subst hb
    exact ⟨g, cap, rfl, hc, hmb⟩
theorem Av {ys xs : List Int} {j v : Int} (h : ys = xs.set j.toNat v) (h0 : 0 ≤ j) (h1 : j < (xs.length : Int)) : rd ys j = v := by
  subst h
  have : j.toNat < xs.length := by omega
  simp [rd, this]
theorem xh (W : World) (T e : TypeId) : Lib.IsBuilder T e W.heap.size W.heap.size [] (W.alloc (.cells #[.pointer none, .slice none 0 0] T)) :=
  .inl ⟨Nat.le_refl _, .slice none 0 0, by simpa using heap_alloc_new W _, yR _ _ _ _, by simp [Value.ownBlock]⟩
end Go.Proofs.YthfphdbebnkdpaaDoorV
end
section
namespace Go.Proofs.YthfphdbebnkdpaaDoor.P
open Go.RowKit Go.Proofs.YthfphdbebnkdpaaDoorW.aZ Go.Proofs.YthfphdbebnkdpaaDoorW.bL Go.Proofs.YthfphdbebnkdpaaDoorW.dC
attribute [local go_sem] dZ d9 fA fB dH dI ed ek
set_option linter.unusedVariables false
set_option linter.unusedSimpArgs false
def dw.l0 : Nat → List Int → List Int → Int → Int → Option (List Int × Int)
 | 0, _, _, _, _ => none
 | k + 1, x4, x10, x11, x12 => if x12 < x11 then (if 0 ≤ x12 then (if x12 < (x10.length : Int) then (if (rd x10 x12) ≥ 4294967296 then (some (([] : List Int), 2)) else (if x4.length < 17592186044416 then (dw.l0 k (x4 ++ [rd x10 x12]) x10 x11 (wrap64 (x12 + 1))) else (none))) else (none)) else (none)) else ((eu.f k x4).bind fun jM => (some (jM, 0)))
def dw.f (k : Nat) (l0 : List Int) : Option (List Int × Int) := if 0 ≤ (l0.length : Int) then (if ((l0.length : Int) : Int).toNat ≤ 35184372088832 then (dw.l0 k (([] : List Int)) l0 (l0.length : Int) 0) else (none)) else (none)
theorem dw.mr : ∀ k, (∀ y0 y1 y2 y3, LeO (dw.l0 k y0 y1 y2 y3) (dw.l0 (k + 1) y0 y1 y2 y3))
 | 0 => fun _ _ _ _ r h => by simp [dw.l0] at h
 | k + 1 => by
  have ih0 := dw.mr k
  ·intro y0 y1 y2 y3
   unfold dw.l0
   repeat' first
   | (with_reducible exact ih0 _ _ _ _)
   | (with_reducible exact eu.mono _ _)
   | (with_reducible exact LeO.refl _)
   | (with_reducible exact LeO.none _)
   | (with_reducible refine LeO.ite ?_ ?_)
   | (with_reducible refine LeO.bind ?_ (fun _ => ?_))
   | exact ih0 _ _ _ _
   | exact eu.mono _ _
   | exact LeO.none _
   | refine LeO.ite ?_ ?_
   | refine LeO.bind ?_ (fun _ => ?_)
theorem dw.mono : ∀ a0 k, LeO (dw.f k a0) (dw.f (k + 1) a0) := by
 intro a0 k
 have ih0 := dw.mr k
 unfold dw.f
 repeat' first
   | (with_reducible exact ih0 _ _ _ _)
   | (with_reducible exact eu.mono _ _)
   | (with_reducible exact LeO.refl _)
   | (with_reducible exact LeO.none _)
   | (with_reducible refine LeO.ite ?_ ?_)
   | (with_reducible refine LeO.bind ?_ (fun _ => ?_))
   | exact ih0 _ _ _ _
   | exact eu.mono _ _
   | exact LeO.none _
   | refine LeO.ite ?_ ?_
   | refine LeO.bind ?_ (fun _ => ?_)
set_option maxHeartbeats 8000000 in
set_option maxRecDepth 100000 in
theorem dw.calls (k : Nat) (A0 : Option Addr) (c0 : Nat) (l0 : List Int) (r1 : List Int) (r2 : Int) (w : World) (hr0 : Kd.C (Kd.int .u64) w A0 l0.length l0) (hc0 : l0.length ≤ c0) (h : dw.f k l0 = some (r1, r2)) :
  Calls Tryd.prog 36 #[.slice A0 l0.length c0] w fun e w' => ∃ v0_ : Value, e = .returned (.tuple #[v0_, .int .i64 r2]) ∧ Kd.R (Kd.int .u64) 64 w' w.heap.size (fun _ => True) v0_ r1 ∧ Below w.heap.size w w' := by
 have HR0 := ae.mk hr0
 have HC0 := ae.mk hc0
 clear hr0 hc0
 have HB := ae.mk (Below.refl w.heap.size w)
 have H : (if 0 ≤ (l0.length : Int) then (if ((l0.length : Int) : Int).toNat ≤ 35184372088832 then (dw.l0 k (([] : List Int)) l0 (l0.length : Int) 0) else (none)) else (none)) = some (r1, r2) := h
 clear h
 by_cases c2 : 0 ≤ (l0.length : Int)
 ·rw [if_pos c2] at H
  have qM := eq_true c2
  have Em : decide (0 ≤ (l0.length : Int)) = true := decide_eq_true c2
  clear c2
  by_cases c3 : ((l0.length : Int) : Int).toNat ≤ 35184372088832
  ·rw [if_pos c3] at H
   have nE := eq_true c3
   have qD : decide (((l0.length : Int) : Int).toNat ≤ 35184372088832) = true := decide_eq_true c3
   clear c3
   obtain ⟨y101, hy101⟩ : ∃ y_ : List Int, y_ = (([] : List Int)) := ⟨_, rfl⟩
   replace H : (dw.l0 k y101 l0 (l0.length : Int) 0) = some (r1, r2) := by first | (rw [hy101]; with_reducible exact H) | (have H2_ := (Option.bind_some _ _).symm.trans H; rw [hy101]; with_reducible exact H2_) | (have H2_ := (Option.bind_some _ _).symm.trans H; with_reducible exact H2_) | with_reducible exact H | (rw [hy101]; exact H) | exact H
   have Ny101 := ae.mk hy101
   clear hy101
   have H' := ae.mk H
   clear H
   go_enter Tryd.func36, Tryd.ntmps36
   go_wp2_with (first | ((with_reducible refine bR (N := 9) rfl ?_); refine Go.Proofs.YthfphdbebnkdpaaDoorV.Ci (Kd.int .u64) _ 64 rfl (N := 9) rfl 23 _ _ rfl (l0.length : Int) rfl rfl Tryd.underlying23 (.int .u64 0) 8 lX rfl (by decide) (by omega) (ok := fun _ => True) (okp := fun _ => True) trivial (of_decide_eq_true qa) (Nat.le_trans (Nat.mul_le_mul_right _ (of_decide_eq_true qa : (l0.length : Int).toNat ≤ 35184372088832)) (by omega)) (Below.refl _ _) (Nat.le_refl _) ?_; intro v102 w4 ho5 hb hg_ hnew_; clear hg_ hnew_; (first | rw [← Ny101.out] at ho5 | (simp only [Int.reduceToNat] at ho5; rw [← Ny101.out] at ho5)); have nI := ae.mk (Kd.bz ho5 (aN (qw HB))); replace HB := ae.mk (av (qw HB) hb); clear hb ho5))
   go_loopg [4, 12] k (fun kq v4 v12 w' => ∃ (qE : List Int) (fK : Int), v12 = .int .i64 fK ∧ ae (dw.l0 kq qE l0 (l0.length : Int) fK = some (r1, r2)) ∧ ae (kq ≤ k) ∧ ae (Kd.R (Kd.int .u64) 64 w' w.heap.size (fun _ => True) v4 qE) ∧ ae (Below w.heap.size w w'))
   case atStart => exact ⟨(y101), (0), (by first | rfl | (simp; done) | (simp [*]; done)), H', ⟨Nat.le_refl _⟩, ⟨by (with_reducible repeat (first | apply Kd.bu | apply Kd.bv | apply Kd.bg)); exact nI.out⟩, ⟨by repeat (first | (with_reducible first | exact HB.out | apply aM | apply aD | apply aH) | exact HB.out)⟩⟩
   case round =>
    clear H'
    try clear c2
    try clear qM
    try clear Em
    try clear p2
    try clear c3
    try clear nE
    try clear qD
    obtain ⟨qE, fK, rfl, HA, HK1, Aw, HB⟩ := hrel
    cases gk with
    | zero => exact absurd HA.out (by simp [dw.l0])
    | succ k1 =>
     have H := HA.out
     clear HA
     simp only [dw.l0] at H
     by_cases c6 : fK < (l0.length : Int)
     ·rw [if_pos c6] at H
      have oJ : decide (fK < (l0.length : Int)) = true := decide_eq_true c6
      clear c6
      by_cases c7 : 0 ≤ fK
      ·rw [if_pos c7] at H
       have uN : decide (0 ≤ fK) = true := decide_eq_true c7
       clear c7
       by_cases c8 : fK < (l0.length : Int)
       ·rw [if_pos c8] at H
        have oZ : decide (fK < (l0.length : Int)) = true := decide_eq_true c8
        clear c8
        by_cases c9 : (rd l0 fK) ≥ 4294967296
        ·rw [if_pos c9] at H
         have qc : decide (4294967296 ≤ (rd l0 fK)) = true := decide_eq_true c9
         clear c9
         simp only [Option.some.injEq, Prod.mk.injEq] at H
         obtain ⟨rfl, rfl⟩ := H
         have p104 : 0 ≤ (fK : Int) := of_decide_eq_true qa
         have q104 : fK < (l0.length : Int) := of_decide_eq_true qa
         obtain ⟨ad104, e104, hx104_0⟩ := Kd.gH HR0.out fK p104 q104
         cases e104
         replace hx104_0 := (HB.out.cell (World.block_lt_of_cell? w _ hx104_0)).trans hx104_0
         replace p104 := eq_true p104
         replace q104 := eq_true q104
         go_wp2
         go_ret2
         exact ⟨_, by first | rfl | (simp [errW_none, errW_some] <;> rfl) | (simp [*, errW_none, errW_some] <;> rfl), by first | exact Kd.pu _ _ _ _ _ | exact Kd.N_nil _ _ _ _ _ | exact Kd.V_nil _ _ _ _ _ | exact Kd.Q_nil _ _ _ _ _ | exact Kd.S_nil _ _ _ _ _, by repeat (first | (with_reducible first | exact HB.out | apply aM | apply aD | apply aH) | exact HB.out)⟩
        ·rw [if_neg c9] at H
         have qc : decide (4294967296 ≤ (rd l0 fK)) = false := decide_eq_false c9
         clear c9
         by_cases c10 : qE.length < 17592186044416
         ·rw [if_pos c10] at H
          have LMc10 := ae.mk c10
          clear c10
          obtain ⟨y105, hy105⟩ : ∃ y_ : List Int, y_ = (qE ++ [rd l0 fK]) := ⟨_, rfl⟩
          replace H : (dw.l0 k1 y105 l0 (l0.length : Int) (wrap64 (fK + 1))) = some (r1, r2) := by first | (rw [hy105]; with_reducible exact H) | (have H2_ := (Option.bind_some _ _).symm.trans H; rw [hy105]; with_reducible exact H2_) | (have H2_ := (Option.bind_some _ _).symm.trans H; with_reducible exact H2_) | with_reducible exact H | (rw [hy105]; exact H) | exact H
          have Ny105 := ae.mk hy105
          clear hy105
          have H' := ae.mk H
          clear H
          have p104 : 0 ≤ (fK : Int) := of_decide_eq_true qa
          have q104 : fK < (l0.length : Int) := of_decide_eq_true qa
          obtain ⟨ad104, e104, hx104_0⟩ := Kd.gH HR0.out fK p104 q104
          cases e104
          replace hx104_0 := (HB.out.cell (World.block_lt_of_cell? w _ hx104_0)).trans hx104_0
          replace p104 := eq_true p104
          replace q104 := eq_true q104
          go_wp2_with (first | ((with_reducible refine nH (b := .append) (xs := #[.tmp 18, .tmp 20]) rfl ?_); at_builtin; refine Kd.uF (Kd.int .u64) (w0 := w) w.heap.size rfl (.tmp 18) (.tmp 20) 23 64 (.int .u64 0) 8 rfl Tryd.underlying23 lX rfl (by decide) (by omega) u4 qE (rd l0 fK) [.int .u64 (rd l0 fK)] (fun _ => True) (fun _ => False) rfl rfl ?aP (fun _ hk => hk.elim) ?aF ?aO ?aB ?aS ?aL ?_; (case aP => exact rfl); (case aB => exact (qw HB)); (case aF => exact (fun _ _ => trivial)); (case aO => exact (qr Aw)); (case aS => exact (aN (qw HB))); (case aL => have := LMc10.out; omega); intro v106 w11 ho hb hg hat; rw [← Ny105.out] at ho; replace HB := ae.mk (hb); have gF := ae.mk (ho); clear Aw; clear ho hb hg hat))
          go_roundg k1
          case measure => have := HK1.out; omega
          case rel => exact ⟨(y105), (wrap64 (fK + 1)), (by first | rfl | (simp; done) | (simp [*]; done)), H', ⟨by have := HK1.out; omega⟩, ⟨by (with_reducible repeat (first | apply Kd.bu | apply Kd.bv | apply Kd.bg)); exact gF.out⟩, ⟨by repeat (first | (with_reducible first | exact HB.out | apply aM | apply aD | apply aH) | exact HB.out)⟩⟩
         ·rw [if_neg c10] at H
          exact absurd H (by simp)
       ·rw [if_neg c8] at H
        exact absurd H (by simp)
      ·rw [if_neg c7] at H
       exact absurd H (by simp)
     ·rw [if_neg c6] at H
      have oJ : decide (fK < (l0.length : Int)) = false := decide_eq_false c6
      clear c6
      replace H := Option.bind_eq_some_iff.mp H
      obtain ⟨jM, A120, H⟩ := H
      replace H : (some (jM, 0)) = some (r1, r2) := H
      have A12 := ae.mk A120
      clear A120
      simp only [Option.some.injEq, Prod.mk.injEq] at H
      obtain ⟨rfl, rfl⟩ := H
      obtain ⟨uo, sw, uO⟩ := Kd.bD Aw.out
      subst uO
      go_wp2_with (first | ((with_reducible refine aW (f := 55) rfl ?_); refine cO (some 24) rfl rfl Tryd.func55 (by kernel_rfl) rfl #[.slice uo qE.length sw] rfl qt ?_; (with_reducible refine (eu.calls k1 (fun k_ => some k_ = (.slice uo qE.length sw : Value).ownBlock) (.slice uo qE.length sw) qE jM w _ ?aU ?aV A12.out).mono ?_); (case aU => repeat (first | (with_reducible first | exact HB.out | apply aM | apply aD | apply aH) | exact HB.out)); (case aV => exact Kd.nD rfl Aw.out); rintro e w14 ⟨v109, rfl, ho0, hb, hkp⟩; refine ⟨_, rfl, ?_⟩; have oD := ae.mk (Kd.bG (ok' := fun k_ => True) ho0 (fun k_ hk_ => trivial)); replace HB := ae.mk (hb); clear Aw; (try clear hb); (try clear hkp); (try clear ho0)))
      go_ret2
      exact ⟨_, by first | rfl | (simp [errW_none, errW_some] <;> rfl) | (simp [*, errW_none, errW_some] <;> rfl), by (with_reducible repeat (first | apply Kd.bu | apply Kd.bv | apply Kd.bg)); exact oD.out, by repeat (first | (with_reducible first | exact HB.out | apply aM | apply aD | apply aH) | exact HB.out)⟩
  ·rw [if_neg c3] at H
   exact absurd H (by simp)
 ·rw [if_neg c2] at H
  exact absurd H (by simp)
end Go.Proofs.YthfphdbebnkdpaaDoor.P
end
section
namespace Go.Proofs.YthfphdbebnkdpaaDoor.P
open Go.RowKit Go.Proofs.YthfphdbebnkdpaaDoorW.aZ Go.Proofs.YthfphdbebnkdpaaDoorW.bL Go.Proofs.YthfphdbebnkdpaaDoorW.dC
attribute [local go_sem] dZ d9 fA fB dH dI ed ek
set_option linter.unusedVariables false
set_option linter.unusedSimpArgs false
def jh.f (k : Nat) (a0 : Int) : Option (List Int) := (eu.f k (([Int.tmod a0 4294967296, a0 / 4294967296] : List Int))).bind fun fQ => (some fQ)
set_option maxHeartbeats 8000000 in
set_option maxRecDepth 100000 in
theorem jh.calls (k : Nat) (a0 : Int) (r : List Int) (w : World) (h : jh.f k a0 = some r) :
  Calls Tryd.prog 35 #[.int .u64 a0] w fun e w' => ∃ v0_ : Value, e = .returned (v0_) ∧ Kd.R (Kd.int .u64) 64 w' w.heap.size (fun _ => True) v0_ r ∧ Below w.heap.size w w' := by
 have HB := ae.mk (Below.refl w.heap.size w)
 have H : ((eu.f k (([Int.tmod a0 4294967296, a0 / 4294967296] : List Int))).bind fun fQ => (some fQ)) = some r := h
 clear h
 obtain ⟨y101, hy101⟩ : ∃ y_ : List Int, y_ = (([Int.tmod a0 4294967296, a0 / 4294967296] : List Int)) := ⟨_, rfl⟩
 replace H : ((eu.f k y101).bind fun fQ => (some fQ)) = some r := by first | (rw [hy101]; with_reducible exact H) | (have H2_ := (Option.bind_some _ _).symm.trans H; rw [hy101]; with_reducible exact H2_) | (have H2_ := (Option.bind_some _ _).symm.trans H; with_reducible exact H2_) | with_reducible exact H | (rw [hy101]; exact H) | exact H
 have Ny101 := ae.mk hy101
 clear hy101
 replace H := Option.bind_eq_some_iff.mp H
 obtain ⟨fQ, A20, H⟩ := H
 replace H : (some fQ) = some r := H
 have A2 := ae.mk A20
 clear A20
 obtain rfl := Option.some.inj H
 go_enter Tryd.func35, Tryd.ntmps35
 go_wp2_with (first | ((with_reducible refine bR (N := 7) rfl ?_); refine Kd.yS (Kd.int .u64) _ 64 ?hg (N := 7) ?hd (xs := ([Int.tmod a0 4294967296, a0 / 4294967296] : List Int)) (inner := [.int .u64 (Int.tmod a0 4294967296), .int .u64 (a0 / 4294967296)]) (ok := fun _ => True) (okp := fun _ => True) ?hr ?hp (fun _ hk => hk) trivial (Below.refl _ _) (Nat.le_refl _) (by simp) ?_; (case hd => rfl); (case hg => rfl); (case hr => first | (go_simp; done) | (go_simp; rfl)); (case hp => exact (iB.one (show Kd.M (Kd.int .u64) _ _ _ (Int.tmod a0 4294967296) [.int .u64 (Int.tmod a0 4294967296)] from rfl) (iB.one (show Kd.M (Kd.int .u64) _ _ _ (a0 / 4294967296) [.int .u64 (a0 / 4294967296)] from rfl) (iB.none _ _)))); intro v102 w3 ho4 hb hg_ hnew_; clear hg_ hnew_; (first | rw [← Ny101.out] at ho4 | (simp only [Int.reduceToNat] at ho4; rw [← Ny101.out] at ho4)); have nI := ae.mk (Kd.bz ho4 (aN (qw HB))); replace HB := ae.mk (av (qw HB) hb); clear hb ho4; obtain ⟨Ao5, co5, eo5⟩ := Kd.bD nI.out; subst eo5) | ((with_reducible refine aW (f := 55) rfl ?_); refine cO (some 8) rfl rfl Tryd.func55 (by kernel_rfl) rfl #[.slice Ao5 y101.length co5] rfl qt ?_; (with_reducible refine (eu.calls k (fun k_ => some k_ = (.slice Ao5 y101.length co5 : Value).ownBlock) (.slice Ao5 y101.length co5) y101 fQ w _ ?aU ?aV A2.out).mono ?_); (case aU => repeat (first | (with_reducible first | exact HB.out | apply aM | apply aD | apply aH) | exact HB.out)); (case aV => exact Kd.nD rfl nI.out); rintro e w6 ⟨v105, rfl, ho0, hb, hkp⟩; refine ⟨_, rfl, ?_⟩; have jO := ae.mk (Kd.bG (ok' := fun k_ => True) ho0 (fun k_ hk_ => trivial)); replace HB := ae.mk (hb); clear nI; (try clear hb); (try clear hkp); (try clear ho0)))
 go_ret
 exact ⟨_, by first | rfl | (simp [errW_none, errW_some] <;> rfl) | (simp [*, errW_none, errW_some] <;> rfl), by (with_reducible repeat (first | apply Kd.bu | apply Kd.bv | apply Kd.bg)); exact jO.out, by repeat (first | (with_reducible first | exact HB.out | apply aM | apply aD | apply aH) | exact HB.out)⟩
end Go.Proofs.YthfphdbebnkdpaaDoor.P
end
section
namespace Go.Proofs.YthfphdbebnkdpaaDoor.P
open Go.RowKit Go.Proofs.YthfphdbebnkdpaaDoorW.aZ Go.Proofs.YthfphdbebnkdpaaDoorW.bL Go.Proofs.YthfphdbebnkdpaaDoorW.dC
attribute [local go_sem] dZ d9 fA fB dH dI ed ek
set_option linter.unusedVariables false
set_option linter.unusedSimpArgs false
def gK.l0 : Nat → List Int → List Int → Int → Option (Int)
 | 0, _, _, _ => none
 | k + 1, x0, x1, x5 => if x5 ≥ 0 then (if 0 ≤ x5 then (if x5 < (x0.length : Int) then (if x5 < (x1.length : Int) then (if (rd x0 x5) < (rd x1 x5) then (some (-1)) else (if (rd x0 x5) > (rd x1 x5) then (some 1) else (gK.l0 k x0 x1 (wrap64 (x5 - 1))))) else (none)) else (none)) else (none)) else (some 0)
def gK.f (k : Nat) (l0 : List Int) (l1 : List Int) : Option (Int) := if (l0.length : Int) < (l1.length : Int) then (some (-1)) else (if (l0.length : Int) > (l1.length : Int) then (some 1) else (gK.l0 k l0 l1 (wrap64 ((l0.length : Int) - 1))))
set_option maxHeartbeats 8000000 in
set_option maxRecDepth 100000 in
theorem gK.calls (k : Nat) (A0 : Option Addr) (c0 : Nat) (l0 : List Int) (A1 : Option Addr) (c1 : Nat) (l1 : List Int) (r : Int) (w : World) (hr0 : Kd.C (Kd.int .u64) w A0 l0.length l0) (hc0 : l0.length ≤ c0) (hr1 : Kd.C (Kd.int .u64) w A1 l1.length l1) (hc1 : l1.length ≤ c1) (h : gK.f k l0 l1 = some r) :
  Calls Tryd.prog 33 #[.slice A0 l0.length c0, .slice A1 l1.length c1] w fun e w' => e = .returned (.int .i64 r) ∧ bZ w w' := by
 have HR0 := ae.mk hr0
 have HC0 := ae.mk hc0
 clear hr0 hc0
 have HR1 := ae.mk hr1
 have HC1 := ae.mk hc1
 clear hr1 hc1
 have H : (if (l0.length : Int) < (l1.length : Int) then (some (-1)) else (if (l0.length : Int) > (l1.length : Int) then (some 1) else (gK.l0 k l0 l1 (wrap64 ((l0.length : Int) - 1))))) = some r := h
 clear h
 by_cases c3 : (l0.length : Int) < (l1.length : Int)
 ·rw [if_pos c3] at H
  have nE : decide ((l0.length : Int) < (l1.length : Int)) = true := decide_eq_true c3
  have qD : decide (l0.length < l1.length) = true := decide_eq_true (Int.ofNat_lt.mp c3)
  clear c3
  obtain rfl := Option.some.inj H
  go_enter Tryd.func33, Tryd.ntmps33
  go_wp2
  repeat (go_quiet (fail); try go_wp2)
  go_ret
  exact ⟨by first | rfl | (simp; done) | (simp [*]; done), by repeat (first | exact bZ.refl _ | apply bZ.step)⟩
 ·rw [if_neg c3] at H
  have nE : decide ((l0.length : Int) < (l1.length : Int)) = false := decide_eq_false c3
  have qD : decide (l0.length < l1.length) = false := decide_eq_false (fun h => c3 (Int.ofNat_lt.mpr h))
  clear c3
  by_cases c4 : (l0.length : Int) > (l1.length : Int)
  ·rw [if_pos c4] at H
   have ll : decide ((l1.length : Int) < (l0.length : Int)) = true := decide_eq_true c4
   have pQ : decide (l1.length < l0.length) = true := decide_eq_true (Int.ofNat_lt.mp c4)
   clear c4
   obtain rfl := Option.some.inj H
   go_enter Tryd.func33, Tryd.ntmps33
   go_wp2
   repeat (go_quiet (fail); try go_wp2)
   go_ret
   exact ⟨by first | rfl | (simp; done) | (simp [*]; done), by repeat (first | exact bZ.refl _ | apply bZ.step)⟩
  ·rw [if_neg c4] at H
   have ll : decide ((l1.length : Int) < (l0.length : Int)) = false := decide_eq_false c4
   have pQ : decide (l1.length < l0.length) = false := decide_eq_false (fun h => c4 (Int.ofNat_lt.mpr h))
   clear c4
   have H' := ae.mk H
   clear H
   go_enter Tryd.func33, Tryd.ntmps33
   go_wp2
   repeat (go_quiet (fail); try go_wp2)
   go_loopg [5] k (fun kq v5 w' => ∃ (fC : Int), v5 = .int .i64 fC ∧ ae (gK.l0 kq l0 l1 fC = some r) ∧ ae (kq ≤ k) ∧ bZ w w')
   case atStart => exact ⟨(wrap64 ((l0.length : Int) - 1)), (by first | rfl | (simp; done) | (simp [*]; done)), H', ⟨Nat.le_refl _⟩, by repeat (first | exact bZ.refl _ | apply bZ.step)⟩
   case round =>
    clear H'
    try clear c1
    try clear p2
    try clear c3
    try clear nE
    try clear qD
    try clear c4
    try clear ll
    try clear pQ
    obtain ⟨fC, rfl, HA, HK1, ⟨m1, rfl⟩⟩ := hrel
    cases gk with
    | zero => exact absurd HA.out (by simp [gK.l0])
    | succ k1 =>
     have H := HA.out
     clear HA
     simp only [gK.l0] at H
     by_cases c5 : fC ≥ 0
     ·rw [if_pos c5] at H
      have jW : decide (0 ≤ fC) = true := decide_eq_true c5
      clear c5
      by_cases c6 : 0 ≤ fC
      ·rw [if_pos c6] at H
       have oJ : decide (0 ≤ fC) = true := decide_eq_true c6
       clear c6
       by_cases c7 : fC < (l0.length : Int)
       ·rw [if_pos c7] at H
        have uN : decide (fC < (l0.length : Int)) = true := decide_eq_true c7
        clear c7
        by_cases c8 : fC < (l1.length : Int)
        ·rw [if_pos c8] at H
         have oZ : decide (fC < (l1.length : Int)) = true := decide_eq_true c8
         clear c8
         by_cases c9 : (rd l0 fC) < (rd l1 fC)
         ·rw [if_pos c9] at H
          have qc : decide ((rd l0 fC) < (rd l1 fC)) = true := decide_eq_true c9
          clear c9
          obtain rfl := Option.some.inj H
          have p101 : 0 ≤ (fC : Int) := of_decide_eq_true qa
          have q101 : fC < (l0.length : Int) := of_decide_eq_true qa
          obtain ⟨ad101, e101, hx101_0⟩ := Kd.gH HR0.out fC p101 q101
          cases e101
          replace p101 := eq_true p101
          replace q101 := eq_true q101
          have p102 : 0 ≤ (fC : Int) := of_decide_eq_true qa
          have q102 : fC < (l1.length : Int) := of_decide_eq_true qa
          obtain ⟨ad102, e102, hx102_0⟩ := Kd.gH HR1.out fC p102 q102
          cases e102
          replace p102 := eq_true p102
          replace q102 := eq_true q102
          go_wp2
          repeat (go_quiet (fail); try go_wp2)
          go_ret
          exact ⟨by first | rfl | (simp; done) | (simp [*]; done), by repeat (first | exact bZ.refl _ | apply bZ.step)⟩
         ·rw [if_neg c9] at H
          have qc : decide ((rd l0 fC) < (rd l1 fC)) = false := decide_eq_false c9
          clear c9
          by_cases c10 : (rd l0 fC) > (rd l1 fC)
          ·rw [if_pos c10] at H
           have qf : decide ((rd l1 fC) < (rd l0 fC)) = true := decide_eq_true c10
           clear c10
           obtain rfl := Option.some.inj H
           have p101 : 0 ≤ (fC : Int) := of_decide_eq_true qa
           have q101 : fC < (l0.length : Int) := of_decide_eq_true qa
           obtain ⟨ad101, e101, hx101_0⟩ := Kd.gH HR0.out fC p101 q101
           cases e101
           replace p101 := eq_true p101
           replace q101 := eq_true q101
           have p102 : 0 ≤ (fC : Int) := of_decide_eq_true qa
           have q102 : fC < (l1.length : Int) := of_decide_eq_true qa
           obtain ⟨ad102, e102, hx102_0⟩ := Kd.gH HR1.out fC p102 q102
           cases e102
           replace p102 := eq_true p102
           replace q102 := eq_true q102
           have p103 : 0 ≤ (fC : Int) := of_decide_eq_true qa
           have q103 : fC < (l0.length : Int) := of_decide_eq_true qa
           obtain ⟨ad103, e103, hx103_0⟩ := Kd.gH HR0.out fC p103 q103
           obtain rfl : ad101 = ad103 := (by injection e103)
           replace p103 := eq_true p103
           replace q103 := eq_true q103
           have p104 : 0 ≤ (fC : Int) := of_decide_eq_true qa
           have q104 : fC < (l1.length : Int) := of_decide_eq_true qa
           obtain ⟨ad104, e104, hx104_0⟩ := Kd.gH HR1.out fC p104 q104
           obtain rfl : ad102 = ad104 := (by injection e104)
           replace p104 := eq_true p104
           replace q104 := eq_true q104
           go_wp2
           repeat (go_quiet (fail); try go_wp2)
           go_ret
           exact ⟨by first | rfl | (simp; done) | (simp [*]; done), by repeat (first | exact bZ.refl _ | apply bZ.step)⟩
          ·rw [if_neg c10] at H
           have qf : decide ((rd l1 fC) < (rd l0 fC)) = false := decide_eq_false c10
           clear c10
           have H' := ae.mk H
           clear H
           have p101 : 0 ≤ (fC : Int) := of_decide_eq_true qa
           have q101 : fC < (l0.length : Int) := of_decide_eq_true qa
           obtain ⟨ad101, e101, hx101_0⟩ := Kd.gH HR0.out fC p101 q101
           cases e101
           replace p101 := eq_true p101
           replace q101 := eq_true q101
           have p102 : 0 ≤ (fC : Int) := of_decide_eq_true qa
           have q102 : fC < (l1.length : Int) := of_decide_eq_true qa
           obtain ⟨ad102, e102, hx102_0⟩ := Kd.gH HR1.out fC p102 q102
           cases e102
           replace p102 := eq_true p102
           replace q102 := eq_true q102
           have p103 : 0 ≤ (fC : Int) := of_decide_eq_true qa
           have q103 : fC < (l0.length : Int) := of_decide_eq_true qa
           obtain ⟨ad103, e103, hx103_0⟩ := Kd.gH HR0.out fC p103 q103
           obtain rfl : ad101 = ad103 := (by injection e103)
           replace p103 := eq_true p103
           replace q103 := eq_true q103
           have p104 : 0 ≤ (fC : Int) := of_decide_eq_true qa
           have q104 : fC < (l1.length : Int) := of_decide_eq_true qa
           obtain ⟨ad104, e104, hx104_0⟩ := Kd.gH HR1.out fC p104 q104
           obtain rfl : ad102 = ad104 := (by injection e104)
           replace p104 := eq_true p104
           replace q104 := eq_true q104
           go_wp2
           repeat (go_quiet (fail); try go_wp2)
           go_roundg k1
           case measure => have := HK1.out; omega
           case rel => exact ⟨(wrap64 (fC - 1)), (by first | rfl | (simp; done) | (simp [*]; done)), H', ⟨by have := HK1.out; omega⟩, by repeat (first | exact bZ.refl _ | apply bZ.step)⟩
        ·rw [if_neg c8] at H
         exact absurd H (by simp)
       ·rw [if_neg c7] at H
        exact absurd H (by simp)
      ·rw [if_neg c6] at H
       exact absurd H (by simp)
     ·rw [if_neg c5] at H
      have jW : decide (0 ≤ fC) = false := decide_eq_false c5
      clear c5
      obtain rfl := Option.some.inj H
      go_wp2
      repeat (go_quiet (fail); try go_wp2)
      go_ret
      exact ⟨by first | rfl | (simp; done) | (simp [*]; done), by repeat (first | exact bZ.refl _ | apply bZ.step)⟩
end Go.Proofs.YthfphdbebnkdpaaDoor.P
end
section
namespace Go.Proofs.YthfphdbebnkdpaaDoor.P
open Go.RowKit Go.Proofs.YthfphdbebnkdpaaDoorW.aZ Go.Proofs.YthfphdbebnkdpaaDoorW.bL Go.Proofs.YthfphdbebnkdpaaDoorW.dC
attribute [local go_sem] dZ d9 fA fB dH dI ed ek
set_option linter.unusedVariables false
set_option linter.unusedSimpArgs false
def nJ.f (l0 : List Int) (a1 : Int) : Option (Int) := if a1 ≥ (l0.length : Int) then (some 0) else (if 0 ≤ a1 then (if a1 < (l0.length : Int) then (some (rd l0 a1)) else (none)) else (none))
set_option maxHeartbeats 8000000 in
set_option maxRecDepth 100000 in
theorem nJ.calls (A0 : Option Addr) (c0 : Nat) (l0 : List Int) (a1 : Int) (r : Int) (w : World) (hr0 : Kd.C (Kd.int .u64) w A0 l0.length l0) (hc0 : l0.length ≤ c0) (h : nJ.f l0 a1 = some r) :
  Calls Tryd.prog 54 #[.slice A0 l0.length c0, .int .i64 a1] w fun e w' => e = .returned (.int .u64 r) ∧ bZ w w' := by
 have HR0 := ae.mk hr0
 have HC0 := ae.mk hc0
 clear hr0 hc0
 have H : (if a1 ≥ (l0.length : Int) then (some 0) else (if 0 ≤ a1 then (if a1 < (l0.length : Int) then (some (rd l0 a1)) else (none)) else (none))) = some r := h
 clear h
 by_cases c3 : a1 ≥ (l0.length : Int)
 ·rw [if_pos c3] at H
  have nE : decide ((l0.length : Int) ≤ a1) = true := decide_eq_true c3
  clear c3
  obtain rfl := Option.some.inj H
  go_enter Tryd.func54, Tryd.ntmps54
  go_wp2
  go_ret
  exact ⟨by first | rfl | (simp; done) | (simp [*]; done), by repeat (first | exact bZ.refl _ | apply bZ.step)⟩
 ·rw [if_neg c3] at H
  have nE : decide ((l0.length : Int) ≤ a1) = false := decide_eq_false c3
  clear c3
  by_cases c4 : 0 ≤ a1
  ·rw [if_pos c4] at H
   have ll : decide (0 ≤ a1) = true := decide_eq_true c4
   clear c4
   by_cases c5 : a1 < (l0.length : Int)
   ·rw [if_pos c5] at H
    have jW : decide (a1 < (l0.length : Int)) = true := decide_eq_true c5
    clear c5
    obtain rfl := Option.some.inj H
    have p101 : 0 ≤ (a1 : Int) := of_decide_eq_true qa
    have q101 : a1 < (l0.length : Int) := of_decide_eq_true qa
    obtain ⟨ad101, e101, hx101_0⟩ := Kd.gH HR0.out a1 p101 q101
    cases e101
    replace p101 := eq_true p101
    replace q101 := eq_true q101
    go_enter Tryd.func54, Tryd.ntmps54
    go_wp2
    go_ret
    exact ⟨by first | rfl | (simp; done) | (simp [*]; done), by repeat (first | exact bZ.refl _ | apply bZ.step)⟩
   ·rw [if_neg c5] at H
    exact absurd H (by simp)
  ·rw [if_neg c4] at H
   exact absurd H (by simp)
end Go.Proofs.YthfphdbebnkdpaaDoor.P
end
section
namespace Go.Proofs.YthfphdbebnkdpaaDoor.P
open Go.RowKit Go.Proofs.YthfphdbebnkdpaaDoorW.aZ Go.Proofs.YthfphdbebnkdpaaDoorW.bL Go.Proofs.YthfphdbebnkdpaaDoorW.dC
attribute [local go_sem] dZ d9 fA fB dH dI ed ek
set_option linter.unusedVariables false
set_option linter.unusedSimpArgs false
def lm.f (a0 : Int) (a1 : Int) (a2 : Int) : Option (Int × Int) := some (Go.bits .and .u64 (IntKind.u64.wrap ((IntKind.u64.wrap ((Go.bits .and .u64 a0 4294967295) + (Go.bits .and .u64 a1 4294967295))) + (Go.bits .and .u64 a2 4294967295))) 4294967295, (IntKind.u64.wrap ((IntKind.u64.wrap ((Go.bits .and .u64 a0 4294967295) + (Go.bits .and .u64 a1 4294967295))) + (Go.bits .and .u64 a2 4294967295))) / 4294967296)
set_option maxHeartbeats 8000000 in
set_option maxRecDepth 100000 in
theorem lm.calls (a0 : Int) (a1 : Int) (a2 : Int) (r1 : Int) (r2 : Int) (w : World) (h : lm.f a0 a1 a2 = some (r1, r2)) :
  Calls Tryd.prog 53 #[.int .u64 a0, .int .u64 a1, .int .u64 a2] w fun e w' => e = .returned (.tuple #[.int .u64 r1, .int .u64 r2]) ∧ bZ w w' := by
 have H : (some (Go.bits .and .u64 (IntKind.u64.wrap ((IntKind.u64.wrap ((Go.bits .and .u64 a0 4294967295) + (Go.bits .and .u64 a1 4294967295))) + (Go.bits .and .u64 a2 4294967295))) 4294967295, (IntKind.u64.wrap ((IntKind.u64.wrap ((Go.bits .and .u64 a0 4294967295) + (Go.bits .and .u64 a1 4294967295))) + (Go.bits .and .u64 a2 4294967295))) / 4294967296)) = some (r1, r2) := h
 clear h
 simp only [Option.some.injEq, Prod.mk.injEq] at H
 obtain ⟨rfl, rfl⟩ := H
 go_enter Tryd.func53, Tryd.ntmps53
 go_wp2
 go_ret2
 exact ⟨by first | rfl | (simp; done) | (simp [*]; done), by repeat (first | exact bZ.refl _ | apply bZ.step)⟩
end Go.Proofs.YthfphdbebnkdpaaDoor.P
end
section
namespace Go.Proofs.YthfphdbebnkdpaaDoor.P
open Go.RowKit Go.Proofs.YthfphdbebnkdpaaDoorW.aZ Go.Proofs.YthfphdbebnkdpaaDoorW.bL Go.Proofs.YthfphdbebnkdpaaDoorW.dC
attribute [local go_sem] dZ d9 fA fB dH dI ed ek
set_option linter.unusedVariables false
set_option linter.unusedSimpArgs false
def dU.l0 : Nat → List Int → List Int → Int → List Int → Int → Int → Int → Option (List Int)
 | 0, _, _, _, _, _, _, _ => none
 | k + 1, x0, x1, x5, x6, x7, x17, x18 => if x18 < x17 then ((nJ.f x0 x18).bind fun fQ => ((nJ.f x1 x18).bind fun t105 => ((lm.f fQ t105 x7).bind fun tQ => (if 0 ≤ x18 then (if x18 < (x6.length : Int) then (dU.l0 k x0 x1 x5 (x6.set (x18 : Int).toNat tQ.1) tQ.2 x17 (wrap64 (x18 + 1))) else (none)) else (none))))) else (if 0 ≤ x5 then (if x5 < (x6.length : Int) then ((eu.f k (x6.set (x5 : Int).toNat x7)).bind fun bi => (some bi)) else (none)) else (none))
def dU.f (k : Nat) (l0 : List Int) (l1 : List Int) : Option (List Int) := if 0 ≤ (wrap64 ((mx (l0.length : Int) (l1.length : Int)) + 1)) then (if (wrap64 ((mx (l0.length : Int) (l1.length : Int)) + 1) : Int).toNat ≤ 35184372088832 then (dU.l0 k l0 l1 (mx (l0.length : Int) (l1.length : Int)) (List.replicate (wrap64 ((mx (l0.length : Int) (l1.length : Int)) + 1) : Int).toNat 0) 0 (mx (l0.length : Int) (l1.length : Int)) 0) else (none)) else (none)
set_option maxHeartbeats 8000000 in
set_option maxRecDepth 100000 in
theorem dU.calls (k : Nat) (A0 : Option Addr) (c0 : Nat) (l0 : List Int) (A1 : Option Addr) (c1 : Nat) (l1 : List Int) (r : List Int) (w : World) (hr0 : Kd.C (Kd.int .u64) w A0 l0.length l0) (hc0 : l0.length ≤ c0) (hr1 : Kd.C (Kd.int .u64) w A1 l1.length l1) (hc1 : l1.length ≤ c1) (h : dU.f k l0 l1 = some r) :
  Calls Tryd.prog 29 #[.slice A0 l0.length c0, .slice A1 l1.length c1] w fun e w' => ∃ v0_ : Value, e = .returned (v0_) ∧ Kd.R (Kd.int .u64) 64 w' w.heap.size (fun _ => True) v0_ r ∧ Below w.heap.size w w' := by
 have HR0 := ae.mk hr0
 have HC0 := ae.mk hc0
 clear hr0 hc0
 have HR1 := ae.mk hr1
 have HC1 := ae.mk hc1
 clear hr1 hc1
 have HB := ae.mk (Below.refl w.heap.size w)
 have H : (if 0 ≤ (wrap64 ((mx (l0.length : Int) (l1.length : Int)) + 1)) then (if (wrap64 ((mx (l0.length : Int) (l1.length : Int)) + 1) : Int).toNat ≤ 35184372088832 then (dU.l0 k l0 l1 (mx (l0.length : Int) (l1.length : Int)) (List.replicate (wrap64 ((mx (l0.length : Int) (l1.length : Int)) + 1) : Int).toNat 0) 0 (mx (l0.length : Int) (l1.length : Int)) 0) else (none)) else (none)) = some r := h
 clear h
 obtain ⟨ji3, hji3⟩ : ∃ j_ : Int, (mx (l0.length : Int) (l1.length : Int)) = j_ := ⟨_, rfl⟩
 replace H : (if 0 ≤ (wrap64 ((ji3) + 1)) then (if (wrap64 ((ji3) + 1) : Int).toNat ≤ 35184372088832 then (dU.l0 k l0 l1 ji3 (List.replicate (wrap64 ((ji3) + 1) : Int).toNat 0) 0 ji3 0) else (none)) else (none)) = some r := by first | (rw [hji3] at H; exact H) | (simp only [hji3] at H ⊢; exact H)
 (try (have hji3l : 0 ≤ ji3 := by (rw [← hji3]; unfold mx; (repeat' split) <;> omega)))
 (try (have hji3m : 0 ≤ ji3 := by omega))
 have hji3_ : (if (l0.length : Int) < (l1.length : Int) then (l1.length : Int) else (l0.length : Int)) = ji3 := hji3
 have hji3n : (if l0.length < l1.length then (l1.length : Int) else (l0.length : Int)) = ji3 := by rw [← hji3]; first | (unfold mx; simp only [Int.ofNat_lt]) | (unfold mn; simp only [Int.ofNat_lt])
 obtain ⟨ji4, hji4⟩ : ∃ j_ : Int, (wrap64 ((ji3) + 1)) = j_ := ⟨_, rfl⟩
 (try (have hji4r := hji4; simp only [hji3] at hji4r))
 (try (have hji4wr := (gT _).trans hji4r))
 replace H : (if 0 ≤ (ji4) then (if (ji4 : Int).toNat ≤ 35184372088832 then (dU.l0 k l0 l1 ji3 (List.replicate (ji4 : Int).toNat 0) 0 ji3 0) else (none)) else (none)) = some r := by first | (rw [hji4] at H; exact H) | (simp only [hji4] at H ⊢; exact H)
 have hji4w : (IntKind.i64.wrap ((ji3) + 1)) = ji4 := (gT _).trans hji4
 by_cases c5 : 0 ≤ (ji4)
 ·rw [if_pos c5] at H
  have jW := eq_true c5
  have pR : decide (0 ≤ (ji4)) = true := decide_eq_true c5
  clear c5
  by_cases c6 : (ji4 : Int).toNat ≤ 35184372088832
  ·rw [if_pos c6] at H
   have oJ := eq_true c6
   have yj : decide ((ji4 : Int).toNat ≤ 35184372088832) = true := decide_eq_true c6
   clear c6
   obtain ⟨y101, hy101⟩ : ∃ y_ : List Int, y_ = (List.replicate (ji4 : Int).toNat 0) := ⟨_, rfl⟩
   replace H : (dU.l0 k l0 l1 ji3 y101 0 ji3 0) = some r := by first | (rw [hy101]; with_reducible exact H) | (have H2_ := (Option.bind_some _ _).symm.trans H; rw [hy101]; with_reducible exact H2_) | (have H2_ := (Option.bind_some _ _).symm.trans H; with_reducible exact H2_) | with_reducible exact H | (rw [hy101]; exact H) | exact H
   have Ny101 := ae.mk hy101
   clear hy101
   have H' := ae.mk H
   clear H
   go_enter Tryd.func29, Tryd.ntmps29
   go_wp2_with (first | ((with_reducible refine bR (N := 16) rfl ?_); refine Kd.pM (Kd.int .u64) _ 64 rfl (N := 16) rfl 23 _ _ rfl ji4 rfl rfl Tryd.underlying23 (.int .u64 0) 8 lX rfl (by decide) (by omega) 0 (ok := fun _ => True) (okp := fun _ => True) rfl (fun _ hk => hk) trivial (of_decide_eq_true qa) (Nat.le_trans (Nat.mul_le_mul_right _ (of_decide_eq_true qa : ji4.toNat ≤ 35184372088832)) (by omega)) (Below.refl _ _) (Nat.le_refl _) ?_; intro v102 w7 ho8 hb hg_ hnew_; clear hg_ hnew_; (first | rw [← Ny101.out] at ho8 | (simp only [Int.reduceToNat] at ho8; rw [← Ny101.out] at ho8)); have nI := ae.mk (Kd.bz ho8 (aN (qw HB))); replace HB := ae.mk (av (qw HB) hb); clear hb ho8))
   go_loopg [7, 18] k (fun kq v7 v18 w' => ∃ (iH : List Int) (iK : Int) (gz : Int), v7 = .int .u64 iK ∧ v18 = .int .i64 gz ∧ ae (dU.l0 kq l0 l1 ji3 iH iK ji3 gz = some r) ∧ ae (kq ≤ k) ∧ ae (Kd.R (Kd.int .u64) 64 w' w.heap.size (fun _ => True) v102 iH) ∧ ae (Below w.heap.size w w'))
   case atStart => exact ⟨(y101), (0), (0), (by first | rfl | (simp; done) | (simp [*]; done)), (by first | rfl | (simp; done) | (simp [*]; done)), H', ⟨Nat.le_refl _⟩, ⟨by (with_reducible repeat (first | apply Kd.bu | apply Kd.bv | apply Kd.bg)); exact nI.out⟩, ⟨by repeat (first | (with_reducible first | exact HB.out | apply aM | apply aD | apply aH) | exact HB.out)⟩⟩
   case round =>
    clear H'
    try clear c1
    try clear c2
    try clear p2
    try clear c5
    try clear jW
    try clear pR
    try clear c6
    try clear oJ
    try clear yj
    try clear p6
    obtain ⟨iH, iK, gz, rfl, rfl, HA, HK1, nK, HB⟩ := hrel
    cases gk with
    | zero => exact absurd HA.out (by simp [dU.l0])
    | succ k1 =>
     have H := HA.out
     clear HA
     simp only [dU.l0] at H
     by_cases c9 : gz < ji3
     ·rw [if_pos c9] at H
      have qc : decide (gz < ji3) = true := decide_eq_true c9
      clear c9
      replace H := Option.bind_eq_some_iff.mp H
      obtain ⟨fQ, A100, H⟩ := H
      replace H : ((nJ.f l1 gz).bind fun t105 => ((lm.f fQ t105 iK).bind fun tQ => (if 0 ≤ gz then (if gz < (iH.length : Int) then (dU.l0 k1 l0 l1 ji3 (iH.set (gz : Int).toNat tQ.1) tQ.2 ji3 (wrap64 (gz + 1))) else (none)) else (none)))) = some r := H
      have A10 := ae.mk A100
      clear A100
      replace H := Option.bind_eq_some_iff.mp H
      obtain ⟨t105, A110, H⟩ := H
      replace H : ((lm.f fQ t105 iK).bind fun tQ => (if 0 ≤ gz then (if gz < (iH.length : Int) then (dU.l0 k1 l0 l1 ji3 (iH.set (gz : Int).toNat tQ.1) tQ.2 ji3 (wrap64 (gz + 1))) else (none)) else (none))) = some r := H
      have A11 := ae.mk A110
      clear A110
      replace H := Option.bind_eq_some_iff.mp H
      obtain ⟨⟨bA, t107⟩, A120, H⟩ := H
      replace H : (if 0 ≤ gz then (if gz < (iH.length : Int) then (dU.l0 k1 l0 l1 ji3 (iH.set (gz : Int).toNat bA) t107 ji3 (wrap64 (gz + 1))) else (none)) else (none)) = some r := H
      have A12 := ae.mk A120
      clear A120
      by_cases c13 : 0 ≤ gz
      ·rw [if_pos c13] at H
       have qg : decide (0 ≤ gz) = true := decide_eq_true c13
       clear c13
       by_cases c14 : gz < (iH.length : Int)
       ·rw [if_pos c14] at H
        have xk : decide (gz < (iH.length : Int)) = true := decide_eq_true c14
        clear c14
        obtain ⟨y108, hy108⟩ : ∃ y_ : List Int, y_ = (iH.set (gz : Int).toNat bA) := ⟨_, rfl⟩
        replace H : (dU.l0 k1 l0 l1 ji3 y108 t107 ji3 (wrap64 (gz + 1))) = some r := by first | (rw [hy108]; with_reducible exact H) | (have H2_ := (Option.bind_some _ _).symm.trans H; rw [hy108]; with_reducible exact H2_) | (have H2_ := (Option.bind_some _ _).symm.trans H; with_reducible exact H2_) | with_reducible exact H | (rw [hy108]; exact H) | exact H
        have Ny108 := ae.mk hy108
        clear hy108
        have H' := ae.mk H
        clear H
        go_wp2_with (first | ((with_reducible refine aW (f := 54) rfl ?_); refine cO (some 26) rfl rfl Tryd.func54 (by kernel_rfl) rfl #[.slice A0 l0.length c0, .int .i64 gz] rfl qt ?_; (with_reducible refine (nJ.calls _ _ l0 gz fQ _ ?aU ?aV A10.out).mono ?_); (case aU => exact qs ((Kd.dS HR0.out HB.out))); (case aV => exact HC0.out); rintro e w' ⟨rfl, ⟨nd, rfl⟩⟩; refine ⟨_, rfl, ?_⟩; (try (rw [kD wr]; generalize hq_ : World.drewN wr _ = wr; replace nK : ae (Kd.R (Kd.int .u64) 64 wr w.heap.size (fun _ => True) v102 iH) := ⟨by rw [← hq_]; exact (qr nK)⟩; replace HB : ae (Below w.heap.size w wr) := ⟨by rw [← hq_]; exact (qw HB)⟩; clear hq_))) | ((with_reducible refine aW (f := 54) rfl ?_); refine cO (some 29) rfl rfl Tryd.func54 (by kernel_rfl) rfl #[.slice A1 l1.length c1, .int .i64 gz] rfl qt ?_; (with_reducible refine (nJ.calls _ _ l1 gz t105 _ ?aU ?aV A11.out).mono ?_); (case aU => exact qs ((Kd.dS HR1.out HB.out))); (case aV => exact HC1.out); rintro e w' ⟨rfl, ⟨nd, rfl⟩⟩; refine ⟨_, rfl, ?_⟩; (try (rw [kD wr]; generalize hq_ : World.drewN wr _ = wr; replace nK : ae (Kd.R (Kd.int .u64) 64 wr w.heap.size (fun _ => True) v102 iH) := ⟨by rw [← hq_]; exact (qr nK)⟩; replace HB : ae (Below w.heap.size w wr) := ⟨by rw [← hq_]; exact (qw HB)⟩; clear hq_))) | ((with_reducible refine aW (f := 53) rfl ?_); refine cO (some 31) rfl rfl Tryd.func53 (by kernel_rfl) rfl #[.int .u64 fQ, .int .u64 t105, .int .u64 iK] rfl qt ?_; (with_reducible refine (lm.calls fQ t105 iK bA t107 _ A12.out).mono ?_); rintro e w' ⟨rfl, ⟨nd, rfl⟩⟩; refine ⟨_, rfl, ?_⟩; (try (rw [kD wr]; generalize hq_ : World.drewN wr _ = wr; replace nK : ae (Kd.R (Kd.int .u64) 64 wr w.heap.size (fun _ => True) v102 iH) := ⟨by rw [← hq_]; exact (qr nK)⟩; replace HB : ae (Below w.heap.size w wr) := ⟨by rw [← hq_]; exact (qw HB)⟩; clear hq_)); have p15 : 0 ≤ (gz : Int) := of_decide_eq_true qa; have q15 : (gz : Int) < ((iH.length : Int) : Int) := of_decide_eq_true qa; obtain ⟨go15, I8, FJ, FL, gl15, cl15, HG15⟩ := Kd.nP nK.out (by omega); (first | cases FJ | (injection FJ with ea_ en_ ec_; (first | subst ea_ | (injection ea_ with ea_; subst ea_)); subst ec_; clear en_)); have I9 := ae.mk FL; have GG15 := ae.mk HG15; clear FL gl15 HG15; obtain ⟨hx15_0, hf15_0⟩ := Kd.jk 0 nK.out (gz : Int) p15 q15; replace p15 := eq_true p15; replace q15 := eq_true q15; obtain ⟨hy16_, hz16_⟩ := Kd.jk 0 nK.out (gz : Int) (of_decide_eq_true qa) (of_decide_eq_true qa); have HP16 := Kd.oq nK.out (gz : Int) bA) | ((with_reducible refine jL (t := 64) (p := 34) rfl ?_); refine jq (t := 64) (p := 34) (v := ?vo_w17) (w1 := (wr.setCell ⟨go15, (gz : Int).toNat, none⟩ (.int .u64 bA))) ?hg ?ho ?hn ?hr ?_; (case ho => rfl); (case hg => rfl); (case hn => rfl); (case hr => first | (go_simp; done) | (go_simp; rfl)); intro w17 hw; have hg : wr.grownBy w17 (some go15) := (by rw [hw]; exact HP16.2); have hp_ : Kd.R (Kd.int .u64) 64 w17 w.heap.size (fun _ => True) (.slice (some ⟨go15, 0, none⟩) iH.length I8) y108 := (by rw [hw, Ny108.out]; exact HP16.1); clear HP16; replace nK := ae.mk (hp_); replace HB := ae.mk ((by rw [hw]; exact aQ (HB.out) I9.out : Below w.heap.size w w17)); clear hg hw hp_))
        go_roundg k1
        case measure => have := HK1.out; omega
        case rel => exact ⟨(y108), (t107), (wrap64 (gz + 1)), (by first | rfl | (simp; done) | (simp [*]; done)), (by first | rfl | (simp; done) | (simp [*]; done)), H', ⟨by have := HK1.out; omega⟩, ⟨by (with_reducible repeat (first | apply Kd.bu | apply Kd.bv | apply Kd.bg)); exact nK.out⟩, ⟨by repeat (first | (with_reducible first | exact HB.out | apply aM | apply aD | apply aH) | exact HB.out)⟩⟩
       ·rw [if_neg c14] at H
        exact absurd H (by simp)
      ·rw [if_neg c13] at H
       exact absurd H (by simp)
     ·rw [if_neg c9] at H
      have qc : decide (gz < ji3) = false := decide_eq_false c9
      clear c9
      by_cases c18 : 0 ≤ ji3
      ·rw [if_pos c18] at H
       have sD : decide (0 ≤ ji3) = true := decide_eq_true c18
       clear c18
       by_cases c19 : ji3 < (iH.length : Int)
       ·rw [if_pos c19] at H
        have Dk : decide (ji3 < (iH.length : Int)) = true := decide_eq_true c19
        clear c19
        obtain ⟨y109, hy109⟩ : ∃ y_ : List Int, y_ = (iH.set (ji3 : Int).toNat iK) := ⟨_, rfl⟩
        replace H : ((eu.f k1 y109).bind fun bi => (some bi)) = some r := by first | (rw [hy109]; with_reducible exact H) | (have H2_ := (Option.bind_some _ _).symm.trans H; rw [hy109]; with_reducible exact H2_) | (have H2_ := (Option.bind_some _ _).symm.trans H; with_reducible exact H2_) | with_reducible exact H | (rw [hy109]; exact H) | exact H
        have Ny109 := ae.mk hy109
        clear hy109
        replace H := Option.bind_eq_some_iff.mp H
        obtain ⟨bi, A210, H⟩ := H
        replace H : (some bi) = some r := H
        have A21 := ae.mk A210
        clear A210
        obtain rfl := Option.some.inj H
        have p20 : 0 ≤ (ji3 : Int) := of_decide_eq_true qa
        have q20 : (ji3 : Int) < ((iH.length : Int) : Int) := of_decide_eq_true qa
        obtain ⟨go20, ko, zO, FM, gl20, cl20, HG20⟩ := Kd.nP nK.out (by omega)
        (first | cases zO | (injection zO with ea_ en_ ec_; (first | subst ea_ | (injection ea_ with ea_; subst ea_)); subst ec_; clear en_))
        have Ja := ae.mk FM
        have GG20 := ae.mk HG20
        clear FM gl20 HG20
        obtain ⟨hx20_0, hf20_0⟩ := Kd.jk 0 nK.out (ji3 : Int) p20 q20
        replace p20 := eq_true p20
        replace q20 := eq_true q20
        have HP22 := Kd.oq nK.out (ji3 : Int) iK
        go_wp2_with (first | ((with_reducible refine jL (t := 64) (p := 39) rfl ?_); refine jq (t := 64) (p := 39) (v := ?vo_w23) (w1 := (wr.setCell ⟨go20, (ji3 : Int).toNat, none⟩ (.int .u64 iK))) ?hg ?ho ?hn ?hr ?_; (case ho => rfl); (case hg => rfl); (case hn => rfl); (case hr => first | (go_simp; done) | (go_simp; rfl)); intro w23 hw; have hg : wr.grownBy w23 (some go20) := (by rw [hw]; exact HP22.2); have hp_ : Kd.R (Kd.int .u64) 64 w23 w.heap.size (fun _ => True) (.slice (some ⟨go20, 0, none⟩) iH.length ko) y109 := (by rw [hw, Ny109.out]; exact HP22.1); clear HP22; replace nK := ae.mk (hp_); replace HB := ae.mk ((by rw [hw]; exact aQ (HB.out) Ja.out : Below w.heap.size w w23)); clear hg hw hp_) | ((with_reducible refine aW (f := 55) rfl ?_); refine cO (some 41) rfl rfl Tryd.func55 (by kernel_rfl) rfl #[.slice (some ⟨go20, 0, none⟩) iH.length ko] rfl qt ?_; (with_reducible refine (eu.calls k1 (fun k_ => some k_ = (.slice (some ⟨go20, 0, none⟩) iH.length ko : Value).ownBlock) (.slice (some ⟨go20, 0, none⟩) iH.length ko) y109 bi w _ ?aU ?aV A21.out).mono ?_); (case aU => repeat (first | (with_reducible first | exact HB.out | apply aM | apply aD | apply aH) | exact HB.out)); (case aV => exact Kd.nD rfl nK.out); rintro e w24 ⟨v111, rfl, ho0, hb, hkp⟩; refine ⟨_, rfl, ?_⟩; have dQ := ae.mk (Kd.bG (ok' := fun k_ => True) ho0 (fun k_ hk_ => trivial)); replace HB := ae.mk (hb); clear nK; (try clear hb); (try clear hkp); (try clear ho0)))
        go_ret
        exact ⟨_, by first | rfl | (simp [errW_none, errW_some] <;> rfl) | (simp only [← hji3, ← hji4]; first | rfl | (simp [errW_none, errW_some] <;> rfl)) | (simp [*, errW_none, errW_some] <;> rfl), by (with_reducible repeat (first | apply Kd.bu | apply Kd.bv | apply Kd.bg)); exact dQ.out, by repeat (first | (with_reducible first | exact HB.out | apply aM | apply aD | apply aH) | exact HB.out)⟩
       ·rw [if_neg c19] at H
        exact absurd H (by simp)
      ·rw [if_neg c18] at H
       exact absurd H (by simp)
  ·rw [if_neg c6] at H
   exact absurd H (by simp)
 ·rw [if_neg c5] at H
  exact absurd H (by simp)
end Go.Proofs.YthfphdbebnkdpaaDoor.P
end
section
namespace Go.Proofs.YthfphdbebnkdpaaDoor.P
open Go.RowKit Go.Proofs.YthfphdbebnkdpaaDoorW.aZ Go.Proofs.YthfphdbebnkdpaaDoorW.bL Go.Proofs.YthfphdbebnkdpaaDoorW.dC
attribute [local go_sem] dZ d9 fA fB dH dI ed ek
set_option linter.unusedVariables false
set_option linter.unusedSimpArgs false
def lu.f (a0 : Int) (a1 : Int) (a2 : Int) : Option (Int × Int) := if (Go.bits .and .u64 a0 4294967295) < (IntKind.u64.wrap ((Go.bits .and .u64 a1 4294967295) + (Go.bits .and .u64 a2 4294967295))) then (some (IntKind.u64.wrap ((IntKind.u64.wrap ((Go.bits .and .u64 a0 4294967295) + (IntKind.u64.wrap (((IntKind.u64.wrap ((IntKind.u64.wrap ((IntKind.u64.wrap ((Go.bits .and .u64 a1 4294967295) + (Go.bits .and .u64 a2 4294967295))) - (Go.bits .and .u64 a0 4294967295))) + 4294967295)) / 4294967296) * 4294967296)))) - (IntKind.u64.wrap ((Go.bits .and .u64 a1 4294967295) + (Go.bits .and .u64 a2 4294967295)))), (IntKind.u64.wrap ((IntKind.u64.wrap ((IntKind.u64.wrap ((Go.bits .and .u64 a1 4294967295) + (Go.bits .and .u64 a2 4294967295))) - (Go.bits .and .u64 a0 4294967295))) + 4294967295)) / 4294967296)) else (some (IntKind.u64.wrap ((IntKind.u64.wrap ((Go.bits .and .u64 a0 4294967295) + (0 * 4294967296))) - (IntKind.u64.wrap ((Go.bits .and .u64 a1 4294967295) + (Go.bits .and .u64 a2 4294967295)))), 0))
set_option maxHeartbeats 8000000 in
set_option maxRecDepth 100000 in
theorem lu.calls (a0 : Int) (a1 : Int) (a2 : Int) (r1 : Int) (r2 : Int) (w : World) (h : lu.f a0 a1 a2 = some (r1, r2)) :
  Calls Tryd.prog 56 #[.int .u64 a0, .int .u64 a1, .int .u64 a2] w fun e w' => e = .returned (.tuple #[.int .u64 r1, .int .u64 r2]) ∧ bZ w w' := by
 have H : (if (Go.bits .and .u64 a0 4294967295) < (IntKind.u64.wrap ((Go.bits .and .u64 a1 4294967295) + (Go.bits .and .u64 a2 4294967295))) then (some (IntKind.u64.wrap ((IntKind.u64.wrap ((Go.bits .and .u64 a0 4294967295) + (IntKind.u64.wrap (((IntKind.u64.wrap ((IntKind.u64.wrap ((IntKind.u64.wrap ((Go.bits .and .u64 a1 4294967295) + (Go.bits .and .u64 a2 4294967295))) - (Go.bits .and .u64 a0 4294967295))) + 4294967295)) / 4294967296) * 4294967296)))) - (IntKind.u64.wrap ((Go.bits .and .u64 a1 4294967295) + (Go.bits .and .u64 a2 4294967295)))), (IntKind.u64.wrap ((IntKind.u64.wrap ((IntKind.u64.wrap ((Go.bits .and .u64 a1 4294967295) + (Go.bits .and .u64 a2 4294967295))) - (Go.bits .and .u64 a0 4294967295))) + 4294967295)) / 4294967296)) else (some (IntKind.u64.wrap ((IntKind.u64.wrap ((Go.bits .and .u64 a0 4294967295) + (0 * 4294967296))) - (IntKind.u64.wrap ((Go.bits .and .u64 a1 4294967295) + (Go.bits .and .u64 a2 4294967295)))), 0))) = some (r1, r2) := h
 clear h
 by_cases c4 : (Go.bits .and .u64 a0 4294967295) < (IntKind.u64.wrap ((Go.bits .and .u64 a1 4294967295) + (Go.bits .and .u64 a2 4294967295)))
 ·rw [if_pos c4] at H
  have ll : decide ((Go.bits .and .u64 a0 4294967295) < (IntKind.u64.wrap ((Go.bits .and .u64 a1 4294967295) + (Go.bits .and .u64 a2 4294967295)))) = true := decide_eq_true c4
  clear c4
  simp only [Option.some.injEq, Prod.mk.injEq] at H
  obtain ⟨rfl, rfl⟩ := H
  go_enter Tryd.func56, Tryd.ntmps56
  go_wp2
  go_ret2
  exact ⟨by first | rfl | (simp; done) | (simp [*]; done), by repeat (first | exact bZ.refl _ | apply bZ.step)⟩
 ·rw [if_neg c4] at H
  have ll : decide ((Go.bits .and .u64 a0 4294967295) < (IntKind.u64.wrap ((Go.bits .and .u64 a1 4294967295) + (Go.bits .and .u64 a2 4294967295)))) = false := decide_eq_false c4
  clear c4
  simp only [Option.some.injEq, Prod.mk.injEq] at H
  obtain ⟨rfl, rfl⟩ := H
  go_enter Tryd.func56, Tryd.ntmps56
  go_wp2
  go_ret2
  exact ⟨by first | rfl | (simp; done) | (simp [*]; done), by repeat (first | exact bZ.refl _ | apply bZ.step)⟩
end Go.Proofs.YthfphdbebnkdpaaDoor.P
end
section
namespace Go.Proofs.YthfphdbebnkdpaaDoor.P
open Go.RowKit Go.Proofs.YthfphdbebnkdpaaDoorW.aZ Go.Proofs.YthfphdbebnkdpaaDoorW.bL Go.Proofs.YthfphdbebnkdpaaDoorW.dC
attribute [local go_sem] dZ d9 fA fB dH dI ed ek
set_option linter.unusedVariables false
set_option linter.unusedSimpArgs false
def dx.l0 : Nat → List Int → List Int → List Int → Int → Int → Int → Option (List Int × Int)
 | 0, _, _, _, _, _, _ => none
 | k + 1, x0, x1, x6, x7, x17, x18 => if x18 < x17 then (if 0 ≤ x18 then (if x18 < (x0.length : Int) then ((nJ.f x1 x18).bind fun bA => ((lu.f (rd x0 x18) bA x7).bind fun iM => (if x18 < (x6.length : Int) then (dx.l0 k x0 x1 (x6.set (x18 : Int).toNat iM.1) iM.2 x17 (wrap64 (x18 + 1))) else (none)))) else (none)) else (none)) else ((eu.f k x6).bind fun bi => (some (bi, 0)))
def dx.f (k : Nat) (l0 : List Int) (l1 : List Int) : Option (List Int × Int) := (gK.f k l0 l1).bind fun fM => (if fM < 0 then (some (([] : List Int), 6)) else (if 0 ≤ (l0.length : Int) then (if ((l0.length : Int) : Int).toNat ≤ 35184372088832 then ((some (List.replicate ((l0.length : Int) : Int).toNat 0 : List Int)).bind fun y102 => (dx.l0 k l0 l1 y102 0 (y102.length : Int) 0)) else (none)) else (none)))
def dx.T8 : Bool × List (List Nat × List Nat) := (true, [([], []), ([], []), ([], []), ([], []), ([2, 3], [2, 3]), ([4], [4]), ([], []), ([], []), ([6, 7], [6, 7]), ([], []), ([5, 8, 9, 8], [5, 8, 9]), ([10], [10]), ([11], [11]), ([11], [11]), ([0, 1, 0, 1, 2, 3, 4, 5, 6, 7, 8, 9, 10, 11, 12], [0, 1]), ([14, 12, 10, 0, 1, 2, 3, 4, 5, 6, 7, 8, 9, 10, 11, 12], [12, 14]), ([13, 15, 0, 1, 2, 3, 4, 5, 6, 7, 8, 9, 10, 11, 12, 13, 14, 15], [9, 13])])
def dx.B8 : List Nat := [0, 0, 0, 0, 12, 28, 0, 0, 192, 0, 1020, 2044, 4092, 4092, 8191, 24575, 65535]
theorem dx.Jb : mi .any (opsOf Tryd.f30 8) = dx.T8 := by kernel_rfl
theorem dx.FN : kJ dx.T8.2 dx.B8 = true := by kernel_rfl
set_option maxHeartbeats 8000000 in
set_option maxRecDepth 100000 in
theorem dx.calls (k : Nat) (A0 : Option Addr) (c0 : Nat) (l0 : List Int) (A1 : Option Addr) (c1 : Nat) (l1 : List Int) (r1 : List Int) (r2 : Int) (w : World) (hr0 : Kd.C (Kd.int .u64) w A0 l0.length l0) (hc0 : l0.length ≤ c0) (hr1 : Kd.C (Kd.int .u64) w A1 l1.length l1) (hc1 : l1.length ≤ c1) (h : dx.f k l0 l1 = some (r1, r2)) :
  Calls Tryd.prog 30 #[.slice A0 l0.length c0, .slice A1 l1.length c1] w fun e w' => ∃ v0_ : Value, e = .returned (.tuple #[v0_, .int .i64 r2]) ∧ Kd.R (Kd.int .u64) 64 w' w.heap.size (fun _ => True) v0_ r1 ∧ Below w.heap.size w w' := by
 have HR0 := ae.mk hr0
 have HC0 := ae.mk hc0
 clear hr0 hc0
 have HR1 := ae.mk hr1
 have HC1 := ae.mk hc1
 clear hr1 hc1
 have HB := ae.mk (Below.refl w.heap.size w)
 have H : ((gK.f k l0 l1).bind fun fM => (if fM < 0 then (some (([] : List Int), 6)) else (if 0 ≤ (l0.length : Int) then (if ((l0.length : Int) : Int).toNat ≤ 35184372088832 then ((some (List.replicate ((l0.length : Int) : Int).toNat 0 : List Int)).bind fun y102 => (dx.l0 k l0 l1 y102 0 (y102.length : Int) 0)) else (none)) else (none)))) = some (r1, r2) := h
 clear h
 replace H := Option.bind_eq_some_iff.mp H
 obtain ⟨fM, A30, H⟩ := H
 replace H : (if fM < 0 then (some (([] : List Int), 6)) else (if 0 ≤ (l0.length : Int) then (if ((l0.length : Int) : Int).toNat ≤ 35184372088832 then ((some (List.replicate ((l0.length : Int) : Int).toNat 0 : List Int)).bind fun y102 => (dx.l0 k l0 l1 y102 0 (y102.length : Int) 0)) else (none)) else (none))) = some (r1, r2) := H
 have A3 := ae.mk A30
 clear A30
 by_cases c4 : fM < 0
 ·rw [if_pos c4] at H
  have ll : decide (fM < 0) = true := decide_eq_true c4
  clear c4
  simp only [Option.some.injEq, Prod.mk.injEq] at H
  obtain ⟨rfl, rfl⟩ := H
  go_enter Tryd.func30, Tryd.ntmps30
  go_wp2_with (first | ((with_reducible refine aW (f := 33) rfl ?_); refine cO (some 11) rfl rfl Tryd.func33 (by kernel_rfl) rfl #[.slice A0 l0.length c0, .slice A1 l1.length c1] rfl qt ?_; (with_reducible refine (gK.calls k _ _ l0 _ _ l1 fM _ ?aU ?aV ?bJ ?bK A3.out).mono ?_); (case aU => exact qs (HR0.out)); (case aV => exact HC0.out); (case bJ => exact qs (HR1.out)); (case bK => exact HC1.out); rintro e w' ⟨rfl, ⟨nd, rfl⟩⟩; refine ⟨_, rfl, ?_⟩))
  go_ret2
  exact ⟨_, by first | rfl | (simp [errW_none, errW_some] <;> rfl) | (simp [*, errW_none, errW_some] <;> rfl), by first | exact Kd.pu _ _ _ _ _ | exact Kd.N_nil _ _ _ _ _ | exact Kd.V_nil _ _ _ _ _ | exact Kd.Q_nil _ _ _ _ _ | exact Kd.S_nil _ _ _ _ _, by repeat (first | (with_reducible first | exact HB.out | apply aM | apply aD | apply aH) | exact HB.out)⟩
 ·rw [if_neg c4] at H
  have ll : decide (fM < 0) = false := decide_eq_false c4
  clear c4
  by_cases c5 : 0 ≤ (l0.length : Int)
  ·rw [if_pos c5] at H
   have jW := eq_true c5
   have pR : decide (0 ≤ (l0.length : Int)) = true := decide_eq_true c5
   clear c5
   by_cases c6 : ((l0.length : Int) : Int).toNat ≤ 35184372088832
   ·rw [if_pos c6] at H
    have oJ := eq_true c6
    have yj : decide (((l0.length : Int) : Int).toNat ≤ 35184372088832) = true := decide_eq_true c6
    clear c6
    obtain ⟨y102, hy102⟩ : ∃ y_ : List Int, y_ = (List.replicate ((l0.length : Int) : Int).toNat 0) := ⟨_, rfl⟩
    replace H : (dx.l0 k l0 l1 y102 0 (y102.length : Int) 0) = some (r1, r2) := by first | (rw [hy102]; with_reducible exact H) | (have H2_ := (Option.bind_some _ _).symm.trans H; rw [hy102]; with_reducible exact H2_) | (have H2_ := (Option.bind_some _ _).symm.trans H; with_reducible exact H2_) | with_reducible exact H | (rw [hy102]; exact H) | exact H
    have Ny102 := ae.mk hy102
    clear hy102
    have H' := ae.mk H
    clear H
    go_enter Tryd.func30, Tryd.ntmps30
    go_wp2_with (first | ((with_reducible refine aW (f := 33) rfl ?_); refine cO (some 11) rfl rfl Tryd.func33 (by kernel_rfl) rfl #[.slice A0 l0.length c0, .slice A1 l1.length c1] rfl qt ?_; (with_reducible refine (gK.calls k _ _ l0 _ _ l1 fM _ ?aU ?aV ?bJ ?bK A3.out).mono ?_); (case aU => exact qs (HR0.out)); (case aV => exact HC0.out); (case bJ => exact qs (HR1.out)); (case bK => exact HC1.out); rintro e w' ⟨rfl, ⟨nd, rfl⟩⟩; refine ⟨_, rfl, ?_⟩) | ((with_reducible refine bR (N := 15) rfl ?_); refine Kd.pM (Kd.int .u64) _ 64 rfl (N := 15) rfl 23 _ _ rfl (l0.length : Int) rfl rfl Tryd.underlying23 (.int .u64 0) 8 lX rfl (by decide) (by omega) 0 (ok := fun _ => True) (okp := fun _ => True) rfl (fun _ hk => hk) trivial (of_decide_eq_true qa) (Nat.le_trans (Nat.mul_le_mul_right _ (of_decide_eq_true qa : (l0.length : Int).toNat ≤ 35184372088832)) (by omega)) (Below.refl _ _) (Nat.le_refl _) ?_; intro v103 w7 ho8 hb hg_ hnew_; clear hg_ hnew_; (first | rw [← Ny102.out] at ho8 | (simp only [Int.reduceToNat] at ho8; rw [← Ny102.out] at ho8)); have fG := ae.mk (Kd.bz ho8 (aN (qw HB))); replace HB := ae.mk (av (qw HB) hb); clear hb ho8; obtain ⟨Ao9, co9, eo9⟩ := Kd.bD fG.out; subst eo9))
    go_loopg [7, 18] k (fun kq v7 v18 w' => ∃ (iH : List Int) (iK : Int) (gz : Int), v7 = .int .u64 iK ∧ v18 = .int .i64 gz ∧ ae (dx.l0 kq l0 l1 iH iK (y102.length : Int) gz = some (r1, r2)) ∧ ae (kq ≤ k) ∧ ae (Kd.R (Kd.int .u64) 64 w' w.heap.size (fun _ => True) (.slice Ao9 y102.length co9) iH) ∧ ae (Below w.heap.size w w'))
    case atStart => exact ⟨(y102), (0), (0), (by first | rfl | (simp; done) | (simp [*]; done)), (by first | rfl | (simp; done) | (simp [*]; done)), H', ⟨Nat.le_refl _⟩, ⟨by (with_reducible repeat (first | apply Kd.bu | apply Kd.bv | apply Kd.bg)); exact fG.out⟩, ⟨by repeat (first | (with_reducible first | exact HB.out | apply aM | apply aD | apply aH) | exact HB.out)⟩⟩
    case round =>
     clear H'
     try clear c1
     try clear p2
     try clear c3
     try clear c4
     try clear ll
     try clear c5
     try clear jW
     try clear pR
     try clear c6
     try clear oJ
     try clear yj
     obtain ⟨iH, iK, gz, rfl, rfl, HA, HK1, nK, HB⟩ := hrel
     have hl6_1 := (Kd.ak nK.out).1
     rw [hl6_1] at nK
     (try simp only [hl6_1])
     cases gk with
     | zero => exact absurd HA.out (by simp [dx.l0])
     | succ k1 =>
      have H := HA.out
      clear HA
      simp only [dx.l0] at H
      by_cases c10 : gz < (y102.length : Int)
      ·rw [if_pos c10] at H
       have qf : decide (gz < (y102.length : Int)) = true := decide_eq_true c10
       (try (have c10b0hl6_1 := qf; rw [hl6_1] at c10b0hl6_1))
       clear c10
       by_cases c11 : 0 ≤ gz
       ·rw [if_pos c11] at H
        have qB : decide (0 ≤ gz) = true := decide_eq_true c11
        clear c11
        by_cases c12 : gz < (l0.length : Int)
        ·rw [if_pos c12] at H
         have su : decide (gz < (l0.length : Int)) = true := decide_eq_true c12
         (try (have c12b0hl6_1 := su; rw [hl6_1] at c12b0hl6_1))
         clear c12
         replace H := Option.bind_eq_some_iff.mp H
         obtain ⟨bA, A130, H⟩ := H
         replace H : ((lu.f (rd l0 gz) bA iK).bind fun iM => (if gz < (iH.length : Int) then (dx.l0 k1 l0 l1 (iH.set (gz : Int).toNat iM.1) iM.2 (y102.length : Int) (wrap64 (gz + 1))) else (none))) = some (r1, r2) := H
         have A13 := ae.mk A130
         clear A130
         replace H := Option.bind_eq_some_iff.mp H
         obtain ⟨⟨t107, jM⟩, A140, H⟩ := H
         replace H : (if gz < (iH.length : Int) then (dx.l0 k1 l0 l1 (iH.set (gz : Int).toNat t107) jM (y102.length : Int) (wrap64 (gz + 1))) else (none)) = some (r1, r2) := H
         have A14 := ae.mk A140
         clear A140
         by_cases c15 : gz < (iH.length : Int)
         ·rw [if_pos c15] at H
          have o5 : decide (gz < (iH.length : Int)) = true := decide_eq_true c15
          (try (have c15b0hl6_1 := o5; rw [hl6_1] at c15b0hl6_1))
          clear c15
          obtain ⟨y109, hy109⟩ : ∃ y_ : List Int, y_ = (iH.set (gz : Int).toNat t107) := ⟨_, rfl⟩
          replace H : (dx.l0 k1 l0 l1 y109 jM (y102.length : Int) (wrap64 (gz + 1))) = some (r1, r2) := by first | (rw [hy109]; with_reducible exact H) | (have H2_ := (Option.bind_some _ _).symm.trans H; rw [hy109]; with_reducible exact H2_) | (have H2_ := (Option.bind_some _ _).symm.trans H; with_reducible exact H2_) | with_reducible exact H | (rw [hy109]; exact H) | exact H
          have Ny109 := ae.mk hy109
          clear hy109
          have H' := ae.mk H
          clear H
          try go_wp2
          replace nK := ae.mk (Kd.bg nK.out)
          replace HB := ae.mk (aH HB.out)
          have p105 : 0 ≤ (gz : Int) := of_decide_eq_true qa
          have q105 : gz < (l0.length : Int) := of_decide_eq_true qa
          obtain ⟨ad105, e105, hx105_0⟩ := Kd.gH HR0.out gz p105 q105
          have hw105_0 := hx105_0
          cases e105
          replace hx105_0 := (HB.out.cell (World.block_lt_of_cell? w _ hx105_0)).trans hx105_0
          replace p105 := eq_true p105
          replace q105 := eq_true q105
          refine j6 (n := 17) (S := fun w' => w'.cell? (ad105.add (gz).toNat) = some (.int .u64 (rd l0 gz))) (ds := [15]) #[bF,bF,bF,bF,bF,bF,bF,bF,bF,bF,bF,bF,bF,bF,bF,bF,bF] (by kernel_rfl) rfl rfl (((HB.out.cell (World.block_lt_of_cell? w _ hw105_0)).trans hw105_0)) (fun hHeld => ?_); refine iQ dx.Jb dx.FN (fun HT_ HW_ => ?_)
          generalize wr.drew = w17 at nK HB hx105_0 hHeld ⊢
          refine cZ 0 (some 22) HT_ ?_
          refine cZ 1 (some 23) HT_ ?_
          refine cZ 2 (some 24) HT_ ?_
          refine cZ 3 (some 25) HT_ ?_
          refine cZ 4 (some 26) HT_ ?_
          refine cZ 6 (some 28) HT_ ?_
          refine cZ 7 (some 29) HT_ ?_
          refine cZ 9 (some 31) HT_ ?_
          refine oV (i := 5) (N := some 27) (v := ?_) (a' := ?_) #[bT,bT,bT,bT,bT,bT,bT,bT,bF,bT,bF,bF,bF,bF,bF,bF,bF] rfl rfl (r9 HT_.out HW_.out (by kernel_rfl)) (fun _ _ _ h => h) (Or.inl ⟨by rfl, ?_⟩) hHeld ?_ ?_
          rotate_left
          ·intro w' s0
           go_simp
           with_reducible rfl
          rotate_left
          ·exact qJ
          refine gU 8 (some 30) HT_ (fun K hK => ?_)
          refine fo Tryd.func54 #[.slice A1 l1.length c1, .int .i64 gz] ?_
          with_reducible refine (nJ.calls _ _ l1 gz bA _ ?aU ?aV A13.out).mono ?_
          (case aU => exact qs ((Kd.dS HR1.out HB.out)))
          (case aV => exact HC1.out)
          rintro e w' ⟨rfl, ⟨nd, rfl⟩⟩
          refine ⟨_, rfl, ?_⟩
          refine hK.out _ _ (((HB.out.cell (World.block_lt_of_cell? w _ hw105_0)).trans hw105_0)) (fun hHeld => ?_)
          clear hK K
          refine eY (some 30) ?_
          refine gU 10 (some 32) HT_ (fun K hK => ?_)
          refine fo Tryd.func56 #[.int .u64 (rd l0 gz), .int .u64 bA, .int .u64 iK] ?_
          with_reducible refine (lu.calls (rd l0 gz) bA iK t107 jM _ A14.out).mono ?_
          rintro e w' ⟨rfl, ⟨nd, rfl⟩⟩
          refine ⟨_, rfl, ?_⟩
          have p16 : 0 ≤ (gz : Int) := of_decide_eq_true qa
          have q16 : (gz : Int) < ((iH.length : Int) : Int) := of_decide_eq_true qa
          obtain ⟨go16, zP, wH, FO, gl16, cl16, HG16⟩ := Kd.nP nK.out (by omega)
          (first | cases wH | (injection wH with ea_ en_ ec_; (first | subst ea_ | (injection ea_ with ea_; subst ea_)); subst ec_; clear en_))
          have Jc := ae.mk FO
          have GG16 := ae.mk HG16
          clear FO gl16 HG16
          obtain ⟨hx16_0, hf16_0⟩ := Kd.jk 0 nK.out (gz : Int) p16 q16
          replace p16 := eq_true p16
          replace q16 := eq_true q16
          have HP18 := Kd.xY nK.out (gz : Int) t107
          rw [← Ny109.out] at HP18
          have HQ18 := ae.mk HP18
          clear HP18
          refine hK.out _ _ (((HB.out.cell (World.block_lt_of_cell? w _ hw105_0)).trans hw105_0)) (fun hHeld => ?_)
          clear hK K
          refine eY (some 32) ?_
          refine cZ 11 (some 21) HT_ ?_
          refine cZ 12 (some 33) HT_ ?_
          refine cZ 13 (some 34) HT_ ?_
          refine cZ 14 (some 35) HT_ ?_
          refine vW (i := 15) (N := none) #[bT,bT,bT,bT,bT,bT,bT,bT,bT,bT,bT,bT,bT,bT,bT,bT,bF] rfl rfl (rT HT_.out (by kernel_rfl)) (by decide) (fun K hK => ?_)
          refine pX (w1 := ?_) (by rfl) rfl ?_ ?_
          rotate_left
          ·go_simp
           rfl
          refine hK.out _ _ ?_
          clear hK K
          refine cZ 16 (some 7) HT_ ?_
          refine nM HT_ ?_
          try go_wp2
          (try simp only [← hl6_1])
          go_roundg k1
          case measure => have := HK1.out; omega
          case rel => exact ⟨(y109), (jM), (wrap64 (gz + 1)), (by first | rfl | (simp; done) | (simp [*]; done)), (by first | rfl | (simp; done) | (simp [*]; done)), H', ⟨by have := HK1.out; omega⟩, ⟨by (try simp only [hl6_1]); (with_reducible repeat (first | apply Kd.bu | apply Kd.bv | apply Kd.bg)); exact HQ18.out⟩, ⟨by repeat (first | (with_reducible first | exact HB.out | apply aM | apply aD | apply aH | refine aQ ?_ Jc.out) | exact HB.out)⟩⟩
         ·rw [if_neg c15] at H
          exact absurd H (by simp)
        ·rw [if_neg c12] at H
         exact absurd H (by simp)
       ·rw [if_neg c11] at H
        exact absurd H (by simp)
      ·rw [if_neg c10] at H
       have qf : decide (gz < (y102.length : Int)) = false := decide_eq_false c10
       (try (have c10b0hl6_1 := qf; rw [hl6_1] at c10b0hl6_1))
       clear c10
       replace H := Option.bind_eq_some_iff.mp H
       obtain ⟨bi, A190, H⟩ := H
       replace H : (some (bi, 0)) = some (r1, r2) := H
       have A19 := ae.mk A190
       clear A190
       simp only [Option.some.injEq, Prod.mk.injEq] at H
       obtain ⟨rfl, rfl⟩ := H
       go_wp2_with (first | ((with_reducible refine aW (f := 55) rfl ?_); refine cO (some 38) rfl rfl Tryd.func55 (by kernel_rfl) rfl #[.slice Ao9 iH.length co9] rfl qt ?_; (with_reducible refine (eu.calls k1 (fun k_ => some k_ = (.slice Ao9 iH.length co9 : Value).ownBlock) (.slice Ao9 iH.length co9) iH bi w _ ?aU ?aV A19.out).mono ?_); (case aU => repeat (first | (with_reducible first | exact HB.out | apply aM | apply aD | apply aH) | exact HB.out)); (case aV => exact Kd.nD rfl nK.out); rintro e w20 ⟨v111, rfl, ho0, hb, hkp⟩; refine ⟨_, rfl, ?_⟩; have dQ := ae.mk (Kd.bG (ok' := fun k_ => True) ho0 (fun k_ hk_ => trivial)); replace HB := ae.mk (hb); clear nK; (try clear hb); (try clear hkp); (try clear ho0)))
       go_ret2
       exact ⟨_, by first | rfl | (simp [errW_none, errW_some] <;> rfl) | (simp [*, errW_none, errW_some] <;> rfl), by (with_reducible repeat (first | apply Kd.bu | apply Kd.bv | apply Kd.bg)); exact dQ.out, by repeat (first | (with_reducible first | exact HB.out | apply aM | apply aD | apply aH) | exact HB.out)⟩
   ·rw [if_neg c6] at H
    exact absurd H (by simp)
  ·rw [if_neg c5] at H
   exact absurd H (by simp)
end Go.Proofs.YthfphdbebnkdpaaDoor.P
end
section
namespace Go.Proofs.YthfphdbebnkdpaaDoor.P
open Go.RowKit Go.Proofs.YthfphdbebnkdpaaDoorW.aZ Go.Proofs.YthfphdbebnkdpaaDoorW.bL Go.Proofs.YthfphdbebnkdpaaDoorW.dC
attribute [local go_sem] dZ d9 fA fB dH dI ed ek
set_option linter.unusedVariables false
set_option linter.unusedSimpArgs false
def gu.l0 : Nat → List Int → List (List Int) → Int → Int → Option (List Int)
 | 0, _, _, _, _ => none
 | k + 1, x3, x6, x7, x8 => if x8 < x7 then (if 0 ≤ x8 then (if x8 < (x6.length : Int) then ((dU.f k x3 (rM x6 x8)).bind fun dK => (gu.l0 k dK x6 x7 (wrap64 (x8 + 1)))) else (none)) else (none)) else (some x3)
def gu.f (k : Nat) (l0 : List (List Int)) : Option (List Int) := gu.l0 k ([] : List Int) l0 (l0.length : Int) 0
set_option maxHeartbeats 8000000 in
set_option maxRecDepth 100000 in
theorem gu.calls (k : Nat) (A0 : Option Addr) (c0 : Nat) (l0 : List (List Int)) (r : List Int) (w : World) (hr0 : Kd.C (Kd.slice 64 (Kd.int .u64)) w A0 l0.length l0) (hc0 : l0.length ≤ c0) (h : gu.f k l0 = some r) :
  Calls Tryd.prog 84 #[.slice A0 l0.length c0] w fun e w' => ∃ v0_ : Value, e = .returned (v0_) ∧ Kd.R (Kd.int .u64) 64 w' w.heap.size (fun _ => True) v0_ r ∧ Below w.heap.size w w' := by
 have HR0 := ae.mk hr0
 have HC0 := ae.mk hc0
 clear hr0 hc0
 have HB := ae.mk (Below.refl w.heap.size w)
 have H : (gu.l0 k ([] : List Int) l0 (l0.length : Int) 0) = some r := h
 clear h
 have H' := ae.mk H
 clear H
 go_enter Tryd.func84, Tryd.ntmps84
 go_wp2
 go_loopg [3, 8] k (fun kq v3 v8 w' => ∃ (kL : List Int) (oz : Int), v8 = .int .i64 oz ∧ ae (gu.l0 kq kL l0 (l0.length : Int) oz = some r) ∧ ae (kq ≤ k) ∧ ae (Kd.R (Kd.int .u64) 64 w' w.heap.size (fun _ => True) v3 kL) ∧ ae (Below w.heap.size w w'))
 case atStart => exact ⟨(([] : List Int)), (0), (by first | rfl | (simp; done) | (simp [*]; done)), H', ⟨Nat.le_refl _⟩, ⟨by first | exact Kd.pu _ _ _ _ _ | exact Kd.N_nil _ _ _ _ _ | exact Kd.V_nil _ _ _ _ _ | exact Kd.Q_nil _ _ _ _ _ | exact Kd.S_nil _ _ _ _ _⟩, ⟨by repeat (first | (with_reducible first | exact HB.out | apply aM | apply aD | apply aH) | exact HB.out)⟩⟩
 case round =>
  clear H'
  obtain ⟨kL, oz, rfl, HA, HK1, yl, HB⟩ := hrel
  cases gk with
  | zero => exact absurd HA.out (by simp [gu.l0])
  | succ k1 =>
   have H := HA.out
   clear HA
   simp only [gu.l0] at H
   by_cases c2 : oz < (l0.length : Int)
   ·rw [if_pos c2] at H
    have qM : decide (oz < (l0.length : Int)) = true := decide_eq_true c2
    clear c2
    by_cases c3 : 0 ≤ oz
    ·rw [if_pos c3] at H
     have nE : decide (0 ≤ oz) = true := decide_eq_true c3
     clear c3
     by_cases c4 : oz < (l0.length : Int)
     ·rw [if_pos c4] at H
      have ll : decide (oz < (l0.length : Int)) = true := decide_eq_true c4
      clear c4
      replace H := Option.bind_eq_some_iff.mp H
      obtain ⟨dK, A50, H⟩ := H
      replace H : (gu.l0 k1 dK l0 (l0.length : Int) (wrap64 (oz + 1))) = some r := H
      have A5 := ae.mk A50
      clear A50
      have H' := ae.mk H
      clear H
      have p101 : 0 ≤ (oz : Int) := of_decide_eq_true qa
      have q101 : oz < (l0.length : Int) := of_decide_eq_true qa
      obtain ⟨ad101, En, c101_0, e101, hx101_0, hl101_0, hi101_0⟩ := FI HR0.out oz p101 q101
      cases e101
      replace hx101_0 := (HB.out.cell (World.block_lt_of_cell? w _ hx101_0)).trans hx101_0
      have Ck := ae.mk hi101_0
      have Cm := ae.mk hl101_0
      clear hi101_0 hl101_0
      replace p101 := eq_true p101
      replace q101 := eq_true q101
      obtain ⟨Ao6, co6, eo6⟩ := Kd.bD yl.out
      subst eo6
      go_wp2_with (first | ((with_reducible refine aW (f := 29) rfl ?_); refine cO (some 14) rfl rfl Tryd.func29 (by kernel_rfl) rfl #[.slice Ao6 kL.length co6, .slice En (rM l0 oz).length c101_0] rfl qt ?_; (with_reducible refine (dU.calls k1 _ _ kL _ _ (rM l0 oz) dK _ ?aU ?aV ?bJ ?bK A5.out).mono ?_); (case aU => exact qs ((Kd.ak yl.out).2.2)); (case aV => exact (Kd.ak yl.out).2.1); (case bJ => exact qs ((Kd.dS Ck.out HB.out))); (case bK => exact Cm.out); rintro e w7 ⟨v103, rfl, ho0, hb⟩; refine ⟨_, rfl, ?_⟩; have fG := ae.mk (Kd.bz (Kd.aA ho0 (Kd.aY (qr yl))) (aN (qw HB))); replace yl := ae.mk (Kd.aj (qr yl) (Kd.az ho0) hb); replace HB := ae.mk (av (qw HB) hb); (try clear hb); (try clear hb2); (try clear hk); (try clear hi); (try clear ho0)))
      go_roundg k1
      case measure => have := HK1.out; omega
      case rel => exact ⟨(dK), (wrap64 (oz + 1)), (by first | rfl | (simp; done) | (simp [*]; done)), H', ⟨by have := HK1.out; omega⟩, ⟨by (with_reducible repeat (first | apply Kd.bu | apply Kd.bv | apply Kd.bg)); exact Kd.bG fG.out (fun _ hk => trivial)⟩, ⟨by repeat (first | (with_reducible first | exact HB.out | apply aM | apply aD | apply aH) | exact HB.out)⟩⟩
     ·rw [if_neg c4] at H
      exact absurd H (by simp)
    ·rw [if_neg c3] at H
     exact absurd H (by simp)
   ·rw [if_neg c2] at H
    have qM : decide (oz < (l0.length : Int)) = false := decide_eq_false c2
    clear c2
    obtain rfl := Option.some.inj H
    go_wp2
    go_ret
    exact ⟨_, by first | rfl | (simp [errW_none, errW_some] <;> rfl) | (simp [*, errW_none, errW_some] <;> rfl), by (with_reducible repeat (first | apply Kd.bu | apply Kd.bv | apply Kd.bg)); exact yl.out, by repeat (first | (with_reducible first | exact HB.out | apply aM | apply aD | apply aH) | exact HB.out)⟩
end Go.Proofs.YthfphdbebnkdpaaDoor.P
end
section
namespace Go.Proofs.YthfphdbebnkdpaaDoor.P
open Go.RowKit Go.Proofs.YthfphdbebnkdpaaDoorW.aZ Go.Proofs.YthfphdbebnkdpaaDoorW.bL Go.Proofs.YthfphdbebnkdpaaDoorW.dC
attribute [local go_sem] dZ d9 fA fB dH dI ed ek
set_option linter.unusedVariables false
set_option linter.unusedSimpArgs false
def iT.l0 : Nat → List Int → List Int → Int → Int → Option (Bool)
 | 0, _, _, _, _ => none
 | k + 1, x0, x5, x6, x7 => if x7 < x6 then (if 0 ≤ x7 then (if x7 < (x5.length : Int) then (if (rd x5 x7) ≥ 4294967296 then (some false) else (iT.l0 k x0 x5 x6 (wrap64 (x7 + 1)))) else (none)) else (none)) else (if (x0.length : Int) = 0 then (some true) else (if 0 ≤ (wrap64 ((x0.length : Int) - 1)) then (if (wrap64 ((x0.length : Int) - 1)) < (x0.length : Int) then (some ((rd x0 (wrap64 ((x0.length : Int) - 1))) != 0)) else (none)) else (none)))
def iT.f (k : Nat) (l0 : List Int) : Option (Bool) := iT.l0 k l0 l0 (l0.length : Int) 0
set_option maxHeartbeats 8000000 in
set_option maxRecDepth 100000 in
theorem iT.calls (k : Nat) (A0 : Option Addr) (c0 : Nat) (l0 : List Int) (r : Bool) (w : World) (hr0 : Kd.C (Kd.int .u64) w A0 l0.length l0) (hc0 : l0.length ≤ c0) (h : iT.f k l0 = some r) :
  Calls Tryd.prog 58 #[.slice A0 l0.length c0] w fun e w' => e = .returned (.bool r) ∧ bZ w w' := by
 have HR0 := ae.mk hr0
 have HC0 := ae.mk hc0
 clear hr0 hc0
 have H : (iT.l0 k l0 l0 (l0.length : Int) 0) = some r := h
 clear h
 have H' := ae.mk H
 clear H
 go_enter Tryd.func58, Tryd.ntmps58
 go_wp2
 go_loopg [7] k (fun kq v7 w' => ∃ (iK : Int), v7 = .int .i64 iK ∧ ae (iT.l0 kq l0 l0 (l0.length : Int) iK = some r) ∧ ae (kq ≤ k) ∧ bZ w w')
 case atStart => exact ⟨(0), (by first | rfl | (simp; done) | (simp [*]; done)), H', ⟨Nat.le_refl _⟩, by repeat (first | exact bZ.refl _ | apply bZ.step)⟩
 case round =>
  clear H'
  obtain ⟨iK, rfl, HA, HK1, ⟨m1, rfl⟩⟩ := hrel
  cases gk with
  | zero => exact absurd HA.out (by simp [iT.l0])
  | succ k1 =>
   have H := HA.out
   clear HA
   simp only [iT.l0] at H
   by_cases c2 : iK < (l0.length : Int)
   ·rw [if_pos c2] at H
    have qM : decide (iK < (l0.length : Int)) = true := decide_eq_true c2
    clear c2
    by_cases c3 : 0 ≤ iK
    ·rw [if_pos c3] at H
     have nE : decide (0 ≤ iK) = true := decide_eq_true c3
     clear c3
     by_cases c4 : iK < (l0.length : Int)
     ·rw [if_pos c4] at H
      have ll : decide (iK < (l0.length : Int)) = true := decide_eq_true c4
      clear c4
      by_cases c5 : (rd l0 iK) ≥ 4294967296
      ·rw [if_pos c5] at H
       have jW : decide (4294967296 ≤ (rd l0 iK)) = true := decide_eq_true c5
       clear c5
       obtain rfl := Option.some.inj H
       have p101 : 0 ≤ (iK : Int) := of_decide_eq_true qa
       have q101 : iK < (l0.length : Int) := of_decide_eq_true qa
       obtain ⟨ad101, e101, hx101_0⟩ := Kd.gH HR0.out iK p101 q101
       cases e101
       replace p101 := eq_true p101
       replace q101 := eq_true q101
       go_wp2
       go_ret
       exact ⟨by first | rfl | (simp; done) | (simp [*]; done), by repeat (first | exact bZ.refl _ | apply bZ.step)⟩
      ·rw [if_neg c5] at H
       have jW : decide (4294967296 ≤ (rd l0 iK)) = false := decide_eq_false c5
       clear c5
       have H' := ae.mk H
       clear H
       have p101 : 0 ≤ (iK : Int) := of_decide_eq_true qa
       have q101 : iK < (l0.length : Int) := of_decide_eq_true qa
       obtain ⟨ad101, e101, hx101_0⟩ := Kd.gH HR0.out iK p101 q101
       cases e101
       replace p101 := eq_true p101
       replace q101 := eq_true q101
       go_wp2
       go_roundg k1
       case measure => have := HK1.out; omega
       case rel => exact ⟨(wrap64 (iK + 1)), (by first | rfl | (simp; done) | (simp [*]; done)), H', ⟨by have := HK1.out; omega⟩, by repeat (first | exact bZ.refl _ | apply bZ.step)⟩
     ·rw [if_neg c4] at H
      exact absurd H (by simp)
    ·rw [if_neg c3] at H
     exact absurd H (by simp)
   ·rw [if_neg c2] at H
    have qM : decide (iK < (l0.length : Int)) = false := decide_eq_false c2
    clear c2
    by_cases c6 : (l0.length : Int) = 0
    ·rw [if_pos c6] at H
     have oJ : ((l0.length : Int) == 0) = true := beq_iff_eq.mpr c6
     have yj : ((l0.length : Int) != 0) = false := bne_eq_false_iff_eq.mpr c6
     clear c6
     obtain rfl := Option.some.inj H
     go_wp2
     go_ret
     exact ⟨by first | rfl | (simp; done) | (simp [*]; done), by repeat (first | exact bZ.refl _ | apply bZ.step)⟩
    ·rw [if_neg c6] at H
     have oJ : ((l0.length : Int) == 0) = false := beq_eq_false_iff_ne.mpr c6
     have yj : ((l0.length : Int) != 0) = true := bne_iff_ne.mpr c6
     have Kq : ¬ (l0 = []) := fun h_ => c6 (by rw [h_]; rfl)
     obtain ⟨ji7, hji7⟩ : ∃ j_ : Int, (wrap64 ((l0.length : Int) - 1)) = j_ := ⟨_, rfl⟩
     replace H : (if 0 ≤ (ji7) then (if (ji7) < (l0.length : Int) then (some ((rd l0 (ji7)) != 0)) else (none)) else (none)) = some r := by first | (rw [hji7] at H; exact H) | (simp only [hji7] at H ⊢; exact H)
     have hji7w : (IntKind.i64.wrap ((l0.length : Int) - 1)) = ji7 := (gT _).trans hji7
     by_cases c8 : 0 ≤ (ji7)
     ·rw [if_pos c8] at H
      have oZ : decide (0 ≤ (ji7)) = true := decide_eq_true c8
      clear c8
      by_cases c9 : (ji7) < (l0.length : Int)
      ·rw [if_pos c9] at H
       have qc : decide ((ji7) < (l0.length : Int)) = true := decide_eq_true c9
       clear c9
       obtain rfl := Option.some.inj H
       have p102 : 0 ≤ ((ji7) : Int) := of_decide_eq_true qa
       have q102 : (ji7) < (l0.length : Int) := of_decide_eq_true qa
       obtain ⟨ad102, e102, hx102_0⟩ := Kd.gH HR0.out (ji7) p102 q102
       cases e102
       replace p102 := eq_true p102
       replace q102 := eq_true q102
       go_wp2
       go_ret
       exact ⟨by first | rfl | (simp; done) | (simp only [← hji7] <;> (first | rfl | simp)) | (simp [*]; done), by repeat (first | exact bZ.refl _ | apply bZ.step)⟩
      ·rw [if_neg c9] at H
       exact absurd H (by simp)
     ·rw [if_neg c8] at H
      exact absurd H (by simp)
end Go.Proofs.YthfphdbebnkdpaaDoor.P
end
section
set_option linter.unusedVariables false
set_option linter.unusedSimpArgs false
namespace Go.Proofs.YthfphdbebnkdpaaDoor.Pn
open Go.Proofs.YthfphdbebnkdpaaDoor.P Go.Proofs.YthfphdbebnkdpaaDoorW.aZ Go.Proofs.YthfphdbebnkdpaaDoorW.bL Go.RowKit
theorem Ev.now' {α : Type} {g : Nat → Option α} {r : α} (h : ∀ k, g k = some r) : Ev g r := Ev.congr h (Ev.now r)
theorem kg {x : Int} (h0 : -9223372036854775808 ≤ x) (h1 : x < 9223372036854775808) : wrap64 x = x := by unfold wrap64; omega
theorem mD (x : Int) : IntKind.u64.wrap x = x % 18446744073709551616 := IntKind.wrap_u64 x
theorem wraps_u64 (n : Int) (h₀ : 0 ≤ n) (h₁ : n < 2 ^ 64) : IntKind.u64.wrap n = n := by rw [mD]; omega
theorem Ay {x : Int} (h0 : 0 ≤ x) (h1 : x < 18446744073709551616) : Go.bits .and .u64 x 4294967295 = x % 4294967296 := bits_mask .u64 64 (by decide) wraps_u64 32 (by decide) x h0 h1
theorem nQ {x : Int} (h0 : 0 ≤ x) (h1 : x < 4294967296) : Go.bits .and .u64 x 4294967295 = x := by rw [Ay h0 (by omega)]; omega
theorem gZ (l : List Int) (i : Nat) : rd l (i : Int) = l.getD i 0 := by simp [rd]
theorem uP {l : List Int} (h : OKL l) (i : Int) : 0 ≤ rd l i ∧ rd l i < 4294967296 := by
  unfold rd
  by_cases hi : i.toNat < l.length
  · rw [List.getD_eq_getElem?_getD, List.getElem?_eq_getElem hi]; exact h _ (List.getElem_mem hi)
  · rw [List.getD_eq_getElem?_getD, List.getElem?_eq_none (by omega)]; decide
theorem mJ {l : List Int} (h : OKL l) (i : Nat) {x : Int} (h0 : 0 ≤ x) (h1 : x < 4294967296) : OKL (l.set i x) := by
  intro y hy
  rcases List.mem_or_eq_of_mem_set hy with hy | rfl
  · exact h y hy
  · exact ⟨h0, h1⟩
theorem zQ (l : List Int) (hl : l.length ≤ 1000000000) (n : Nat) : n ≤ l.length → Ev (fun k => eu.l0 k l (n : Int)) (pY (l.take n)) := by
  induction n with
  | zero =>
    intro _
    refine Ev.step (f := fun _ => some []) (fun k => ?_) (Ev.now _)
    rw [eu.l0, if_neg (by omega), if_pos (by omega), if_pos (by omega)]
    rfl
  | succ n ih =>
    intro hn
    have hw : wrap64 (((n + 1 : Nat) : Int) - 1) = (n : Int) := by unfold wrap64; omega
    have ht : l.take (n + 1) = l.take n ++ [rd l (n : Int)] := by
      rw [gZ, List.take_succ_eq_append_getElem (by omega), List.getD_eq_getElem?_getD, List.getElem?_eq_getElem (by omega)]; rfl
    by_cases h : rd l (n : Int) = 0
    · refine Ev.step (fun k => ?_) (ih (by omega) |> (fun e => by rw [ht, h, ow]; exact e))
      rw [eu.l0, if_pos (by omega), hw, if_pos (by omega), if_pos (by omega), if_pos h]
    · refine Ev.step (f := fun _ => some (l.take (n + 1))) (fun k => ?_) (by rw [ht, rU _ h]; exact Ev.now _)
      rw [eu.l0, if_pos (by omega), hw, if_pos (by omega), if_pos (by omega), if_neg h, if_pos (by omega), if_pos (by omega)]
      rfl
theorem rz (l : List Int) (hl : l.length ≤ 1000000000) : Ev (fun k => eu.f k l) (pY l) := by
  have := zQ l hl l.length (Nat.le_refl _)
  rwa [List.take_length] at this
theorem zR (l : List Int) (h : OKL l) (hl : l.length ≤ 1000000000) (d : Nat) : ∀ i, i + d = l.length → Ev (fun k => dw.l0 k (l.take i) l (l.length : Int) (i : Int)) (pY l, 0) := by
  induction d with
  | zero =>
    intro i hi
    obtain rfl : i = l.length := by omega
    rw [List.take_length]
    refine Ev.step (fun k => ?_) (Ev.bind (g := fun k => eu.f k l) (f := fun _ t => some (t, (0 : Int))) (rz l hl) (Ev.now _))
    rw [dw.l0, if_neg (by omega)]
  | succ d ih =>
    intro i hi
    have hr := uP h (i : Int)
    have hw : wrap64 ((i : Int) + 1) = ((i + 1 : Nat) : Int) := by unfold wrap64; omega
    refine Ev.step (fun k => ?_) (ih (i + 1) (by omega))
    rw [dw.l0, if_pos (by omega), if_pos (by omega), if_pos (by omega), if_neg (by omega), if_pos (by rw [List.length_take]; omega), hw, gZ, List.take_succ_eq_append_getElem (by omega), List.getD_eq_getElem?_getD, List.getElem?_eq_getElem (by omega)]
    rfl
theorem rA (l : List Int) (h : OKL l) (hl : l.length ≤ 1000000000) : Ev (fun k => dw.f k l) (dg (vl l), 0) := by
  refine Ev.congr (fun k => ?_) (by have := zR l h hl l.length 0 (by omega); rw [nS h] at this; exact this)
  rw [dw.f, if_pos (by omega), if_pos (by omega)]
  rfl
theorem yZ (n : Nat) (hn : (dg n).length ≤ 1000000000) : Ev (fun k => dw.f k (dg n)) (dg n, 0) := by
  have := rA (dg n) (kZ n) hn
  rwa [mq] at this
theorem xm (n : Nat) (h : n < 18446744073709551616) : Ev (fun k => jh.f k (n : Int)) (dg n) := by
  have hL : OKL [Int.tmod (n : Int) 4294967296, (n : Int) / 4294967296] := by
    have : Int.tmod (n : Int) 4294967296 = (n : Int) % 4294967296 := Int.tmod_eq_emod_of_nonneg (by omega)
    intro x hx
    simp only [List.mem_cons, List.not_mem_nil, or_false] at hx
    rcases hx with rfl | rfl <;> omega
  have hv : vl [Int.tmod (n : Int) 4294967296, (n : Int) / 4294967296] = n := by
    have : Int.tmod (n : Int) 4294967296 = (n : Int) % 4294967296 := Int.tmod_eq_emod_of_nonneg (by omega)
    simp only [vl]; omega
  have := rz _ (show ([Int.tmod (n : Int) 4294967296, (n : Int) / 4294967296] : List Int).length ≤ 1000000000 by simp)
  rw [nS hL, hv] at this
  exact Ev.bind (g := fun k => eu.f k _) (f := fun _ t => some t) this (Ev.now _)
theorem y7 (l : List Int) (i : Nat) : nJ.f l (i : Int) = some (l.getD i 0) := by
  unfold nJ.f
  by_cases h : l.length ≤ i
  · rw [if_pos (by omega), List.getD_eq_getElem?_getD, List.getElem?_eq_none h]; rfl
  · rw [if_neg (by omega), if_pos (by omega), if_pos (by omega), gZ]
theorem y8 (a b c : Int) (ha : 0 ≤ a ∧ a < 4294967296) (hb : 0 ≤ b ∧ b < 4294967296) (hc : 0 ≤ c ∧ c < 4294967296) :
    lm.f a b c = some ((a + b + c) % 4294967296, (a + b + c) / 4294967296) := by
  unfold lm.f
  rw [nQ ha.1 ha.2, nQ hb.1 hb.2, nQ hc.1 hc.2, mD, mD]
  have e : ((a + b) % 18446744073709551616 + c) % 18446744073709551616 = a + b + c := by omega
  rw [e, Ay (by omega) (by omega)]
theorem y9 (a b c : Int) (ha : 0 ≤ a ∧ a < 4294967296) (hb : 0 ≤ b ∧ b < 4294967296) (hc : 0 ≤ c ∧ c ≤ 1) :
    lu.f a b c = some ((a - b - c) % 4294967296, if a < b + c then 1 else 0) := by
  unfold lu.f
  rw [nQ ha.1 ha.2, nQ hb.1 hb.2, nQ hc.1 (by omega), mD (b + c), show (b + c) % 18446744073709551616 = b + c by omega]
  by_cases h : a < b + c
  · rw [if_pos h, if_pos h, mD (b + c - a), show (b + c - a) % 18446744073709551616 = b + c - a by omega, mD (b + c - a + 4294967295), show (b + c - a + 4294967295) % 18446744073709551616 = b + c - a + 4294967295 by omega]
    have e : (b + c - a + 4294967295) / 4294967296 = 1 := by omega
    rw [e, mD, mD, mD]
    simp only [Option.some.injEq, Prod.mk.injEq, and_true]
    omega
  · rw [if_neg h, if_neg h, mD, mD]
    simp only [Option.some.injEq, Prod.mk.injEq, and_true]
    omega
end Go.Proofs.YthfphdbebnkdpaaDoor.Pn
end
section
set_option linter.unusedVariables false
set_option linter.unusedSimpArgs false
namespace Go.Proofs.YthfphdbebnkdpaaDoor.Pn
open Go.Proofs.YthfphdbebnkdpaaDoor.P Go.Proofs.YthfphdbebnkdpaaDoorW.aZ Go.Proofs.YthfphdbebnkdpaaDoorW.bL Go.RowKit
structure Hd (p : Prop) : Prop where mk :: (out : p)
def qN (n m : Nat) : Int := if n < m then -1 else if m < n then 1 else 0
theorem Az (a b : List Int) (ha : OKL a) (hb : OKL b) (hab : a.length = b.length) (hl : a.length ≤ 1000000000) (n : Nat) : n ≤ a.length →
    Ev (fun k => gK.l0 k a b ((n : Int) - 1)) (qN (vl (a.take n)) (vl (b.take n))) := by
  induction n with
  | zero =>
    intro _
    refine Ev.step (f := fun _ => some 0) (fun k => ?_) (Ev.now _)
    rw [gK.l0, if_neg (by omega)]
  | succ n ih =>
    intro hn
    have e : ((n + 1 : Nat) : Int) - 1 = (n : Int) := by omega
    have hw : wrap64 ((n : Int) - 1) = (n : Int) - 1 := by unfold wrap64; omega
    have h1 := uP ha (n : Int)
    have h2 := uP hb (n : Int)
    have ta : a.take (n + 1) = a.take n ++ [rd a (n : Int)] := by
      rw [gZ, List.take_succ_eq_append_getElem (by omega), List.getD_eq_getElem?_getD, List.getElem?_eq_getElem (by omega)]; rfl
    have tb : b.take (n + 1) = b.take n ++ [rd b (n : Int)] := by
      rw [gZ, List.take_succ_eq_append_getElem (by omega), List.getD_eq_getElem?_getD, List.getElem?_eq_getElem (by omega)]; rfl
    have la : (a.take n).length = n := by rw [List.length_take]; omega
    have lb : (b.take n).length = n := by rw [List.length_take]; omega
    have va := rJ (qK ha n)
    have vb := rJ (qK hb n)
    rw [la] at va
    rw [lb] at vb
    have ea : vl (a.take (n + 1)) = vl (a.take n) + 4294967296 ^ n * (rd a (n : Int)).toNat := by rw [ta, lT, la]; simp [vl]
    have eb : vl (b.take (n + 1)) = vl (b.take n) + 4294967296 ^ n * (rd b (n : Int)).toNat := by rw [tb, lT, lb]; simp [vl]
    rw [e]
    by_cases hlt : rd a (n : Int) < rd b (n : Int)
    · refine Ev.step (f := fun _ => some (-1)) (fun k => ?_) ?_
      · rw [gK.l0, if_pos (by omega), if_pos (by omega), if_pos (by omega), if_pos (by omega), if_pos hlt]
      · have : (rd a (n : Int)).toNat + 1 ≤ (rd b (n : Int)).toNat := by omega
        have h3 := Nat.mul_le_mul_left (4294967296 ^ n) this
        rw [Nat.mul_add] at h3
        have : vl (a.take (n + 1)) < vl (b.take (n + 1)) := by rw [ea, eb]; omega
        simp only [qN, if_pos this]
        exact Ev.now _
    · by_cases hgt : rd a (n : Int) > rd b (n : Int)
      · refine Ev.step (f := fun _ => some 1) (fun k => ?_) ?_
        · rw [gK.l0, if_pos (by omega), if_pos (by omega), if_pos (by omega), if_pos (by omega), if_neg hlt, if_pos hgt]
        · have : (rd b (n : Int)).toNat + 1 ≤ (rd a (n : Int)).toNat := by omega
          have h3 := Nat.mul_le_mul_left (4294967296 ^ n) this
          rw [Nat.mul_add] at h3
          have h4 : vl (b.take (n + 1)) < vl (a.take (n + 1)) := by rw [ea, eb]; omega
          have h5 : ¬ vl (a.take (n + 1)) < vl (b.take (n + 1)) := by omega
          simp only [qN, if_neg h5, if_pos h4]
          exact Ev.now _
      · have h3 : rd a (n : Int) = rd b (n : Int) := by omega
        refine Ev.step (f := fun k => gK.l0 k a b ((n : Int) - 1)) (fun k => ?_) ?_
        · rw [gK.l0, if_pos (by omega), if_pos (by omega), if_pos (by omega), if_pos (by omega), if_neg hlt, if_neg hgt, hw]
        · have e2 : qN (vl (a.take (n + 1))) (vl (b.take (n + 1))) = qN (vl (a.take n)) (vl (b.take n)) := by
            rw [ea, eb, h3]
            unfold qN
            simp only [Nat.add_lt_add_iff_right]
          rw [e2]
          exact ih (by omega)
theorem jr {n m : Nat} (h : n ≤ m) : (dg n).length ≤ (dg m).length := lc (Nat.lt_of_le_of_lt h (qL m))
theorem wI (n m : Nat) (hn : (dg n).length ≤ 1000000000) (hm : (dg m).length ≤ 1000000000) : Ev (fun k => gK.f k (dg n) (dg m)) (qN n m) := by
  by_cases h1 : (dg n).length < (dg m).length
  · have h2 : n < m := by
      by_cases h3 : m ≤ n
      · have := jr h3; omega
      · omega
    refine Ev.now' (fun k => ?_)
    rw [gK.f, if_pos (by omega), qN, if_pos h2]
  · by_cases h2 : (dg m).length < (dg n).length
    · have h3 : m < n := by
        by_cases h3 : n ≤ m
        · have := jr h3; omega
        · omega
      refine Ev.now' (fun k => ?_)
      rw [gK.f, if_neg (by omega), if_pos (by omega), qN, if_neg (by omega), if_pos h3]
    · have h3 : (dg n).length = (dg m).length := by omega
      have hw : wrap64 (((dg n).length : Int) - 1) = ((dg n).length : Int) - 1 := by unfold wrap64; omega
      have := Az (dg n) (dg m) (kZ n) (kZ m) h3 hn (dg n).length (Nat.le_refl _)
      rw [List.take_length, h3, List.take_length, mq, mq] at this
      refine Ev.congr (fun k => ?_) this
      rw [gK.f, if_neg (by omega), if_neg (by omega), hw, h3]
theorem Eo (l : List Int) (i : Nat) (x : Int) (hi : i < l.length) (h0 : l.getD i 0 = 0) : vl (l.set i x) = vl l + 4294967296 ^ i * x.toNat := by
  induction l generalizing i with
  | nil => simp at hi
  | cons y l ih =>
    cases i with
    | zero => simp at h0; subst h0; simp [vl]; omega
    | succ i =>
      rw [List.set_cons_succ, vl, vl, ih i (by simpa using hi) (by simpa using h0), Nat.pow_succ]
      rw [Nat.mul_add, Nat.add_assoc, ← Nat.mul_assoc, Nat.mul_comm 4294967296 (4294967296 ^ i)]
theorem vG (l : List Int) (i : Nat) (x : Int) : (l.set i x).take i = l.take i := by
  rw [List.take_set_of_le (Nat.le_refl _)]
theorem pU (l : List Int) (i : Nat) (x : Int) (h : i < l.length) : (l.set i x).take (i + 1) = l.take i ++ [x] := by
  rw [List.take_succ_eq_append_getElem (by simpa using h), vG]
  simp
theorem vH (l : List Int) (i : Nat) (x : Int) : (l.set i x).drop (i + 1) = l.drop (i + 1) := by
  rw [List.drop_set_of_lt (by omega)]
theorem jR (l : List Int) (h : OKL l) (i : Nat) : vl (l.take (i + 1)) = vl (l.take i) + 4294967296 ^ i * (l.getD i 0).toNat := by
  by_cases hi : i < l.length
  · have hlen : (l.take i).length = i := by rw [List.length_take]; omega
    rw [List.take_succ_eq_append_getElem hi, lT, hlen, List.getD_eq_getElem?_getD, List.getElem?_eq_getElem hi]
    simp [vl]
  · rw [List.take_of_length_le (by omega), List.take_of_length_le (by omega), List.getD_eq_getElem?_getD, List.getElem?_eq_none (by omega)]
    simp
theorem nT {l : List Int} (h : OKL l) (i : Nat) : 0 ≤ l.getD i 0 ∧ l.getD i 0 < 4294967296 := by
  have := uP h (i : Int)
  rwa [gZ] at this
theorem AA (a b : List Int) (ha : OKL a) (hb : OKL b) (n : Nat) (hn1 : a.length ≤ n) (hn2 : b.length ≤ n) (hn : n ≤ 1000000) (d : Nat) :
    ∀ (i : Nat) (s : List Int) (c : Int), i + d = n → s.length = n + 1 → OKL s → 0 ≤ c → c ≤ 1 → vl (s.take i) + 4294967296 ^ i * c.toNat = vl (a.take i) + vl (b.take i) →
      Ev (fun k => dU.l0 k a b (n : Int) s c (n : Int) (i : Int)) (dg (vl a + vl b)) := by
  induction d with
  | zero =>
    intro i s c hi hs hok hc0 hc1 hv
    obtain rfl : i = n := by omega
    rw [List.take_of_length_le hn1, List.take_of_length_le hn2] at hv
    have hok2 : OKL (s.set i c) := mJ hok i hc0 (by omega)
    have hvs : vl (s.set i c) = vl a + vl b := by
      have h1 := pU s i c (by omega)
      rw [List.take_of_length_le (by rw [List.length_set]; omega)] at h1
      rw [h1, lT, List.length_take, Nat.min_eq_left (by omega), ← hv]
      simp [vl]
    have ht := rz (s.set i c) (by rw [List.length_set]; omega)
    rw [nS hok2, hvs] at ht
    refine Ev.step (f := fun k => (eu.f k (s.set i c)).bind fun t => some t) (fun k => ?_) (Ev.bind (f := fun _ t => some t) ht (Ev.now _))
    rw [dU.l0, if_neg (by omega), if_pos (by omega), if_pos (by omega), Int.toNat_natCast]
  | succ d ih =>
    intro i s c hi hs hok hc0 hc1 hv
    have hlt : i < s.length := by rw [hs]; clear hv ih; omega
    have h1 := nT ha i
    have h2 := nT hb i
    have hw : wrap64 ((i : Int) + 1) = ((i + 1 : Nat) : Int) := by unfold wrap64; omega
    obtain ⟨P, hP⟩ : ∃ P, P = 4294967296 ^ i := ⟨_, rfl⟩
    have hP1 := Hd.mk (show 4294967296 ^ (i + 1) = P * 4294967296 by rw [hP, Nat.pow_succ])
    rw [← hP] at hv
    have ta := jR a ha i
    have tb := jR b hb i
    have ts : ∀ z, i < s.length → vl ((s.set i z).take (i + 1)) = vl (s.take i) + P * z.toNat := fun z hz => by
      rw [pU s i _ hz, lT, List.length_take, Nat.min_eq_left (Nat.le_of_lt hz), hP]; simp [vl]
    rw [← hP] at ta tb
    clear hP
    generalize hx : a.getD i 0 = x at h1 ta
    generalize hy : b.getD i 0 = y at h2 tb
    refine Ev.step (f := fun k => dU.l0 k a b (n : Int) (s.set i ((x + y + c) % 4294967296)) ((x + y + c) / 4294967296) (n : Int) ((i + 1 : Nat) : Int)) (fun k => ?_) (ih (i + 1) _ _ (by omega) (by rw [List.length_set]; exact hs) (mJ hok i (by omega) (by omega)) (by omega) (by omega) ?_)
    · rw [dU.l0, if_pos (by omega), y7, y7, hx, hy]
      simp only [Option.bind_some]
      rw [y8 x y c h1 h2 ⟨hc0, by omega⟩]
      simp only [Option.bind_some]
      rw [if_pos (by omega), if_pos (by omega), hw, Int.toNat_natCast]
    · rw [ts _ hlt, hP1.out, ta, tb]
      have e1 : ((x + y + c) % 4294967296).toNat + 4294967296 * ((x + y + c) / 4294967296).toNat = x.toNat + y.toNat + c.toNat := by omega
      have e2 : P * ((x + y + c) % 4294967296).toNat + P * 4294967296 * ((x + y + c) / 4294967296).toNat = P * (x.toNat + y.toNat + c.toNat) := by
        rw [← e1, Nat.mul_add, Nat.mul_assoc]
      rw [Nat.mul_add, Nat.mul_add] at e2
      omega
theorem AB (a b : Nat) : mx (a : Int) (b : Int) = ((max a b : Nat) : Int) := by unfold mx; split <;> omega
theorem Cn (a b : List Int) (ha : OKL a) (hb : OKL b) (hla : a.length ≤ 1000000) (hlb : b.length ≤ 1000000) : Ev (fun k => dU.f k a b) (dg (vl a + vl b)) := by
  have hw : wrap64 (((max a.length b.length : Nat) : Int) + 1) = ((max a.length b.length + 1 : Nat) : Int) := by unfold wrap64; omega
  refine Ev.congr (fun k => ?_) (AA a b ha hb (max a.length b.length) (by omega) (by omega) (by omega) (max a.length b.length) 0 (List.replicate (max a.length b.length + 1) 0) 0 (by omega) (by simp) (oI _) (by omega) (by omega) (by simp [vl]))
  rw [dU.f, AB, hw, if_pos (by omega), if_pos (by omega)]
  rfl
theorem qO (n m : Nat) (hn : (dg n).length ≤ 1000000) (hm : (dg m).length ≤ 1000000) : Ev (fun k => dU.f k (dg n) (dg m)) (dg (n + m)) := by
  have := Cn (dg n) (dg m) (kZ n) (kZ m) hn hm
  rwa [mq, mq] at this
theorem AJ (a b : List Int) (ha : OKL a) (hb : OKL b) (hlb : b.length ≤ a.length) (hle : vl b ≤ vl a) (hla : a.length ≤ 1000000) (d : Nat) :
    ∀ (i : Nat) (s : List Int) (c : Int), i + d = a.length → s.length = a.length → OKL s → 0 ≤ c → c ≤ 1 → vl (s.take i) + vl (b.take i) = vl (a.take i) + 4294967296 ^ i * c.toNat →
      Ev (fun k => dx.l0 k a b s c (a.length : Int) (i : Int)) (dg (vl a - vl b), 0) := by
  induction d with
  | zero =>
    intro i s c hi hs hok hc0 hc1 hv
    obtain rfl : i = a.length := by omega
    rw [List.take_of_length_le (Nat.le_of_eq hs), List.take_length, List.take_of_length_le hlb] at hv
    have hc : c = 0 := by
      have h1 := rJ hok
      rw [hs] at h1
      by_cases h : c = 0
      · exact h
      · have : c.toNat = 1 := by omega
        rw [this] at hv
        have h2 := rJ ha
        omega
    subst hc
    have ht := rz s (by omega)
    rw [nS hok, show vl s = vl a - vl b by simp at hv; omega] at ht
    refine Ev.step (f := fun k => (eu.f k s).bind fun t => some (t, (0 : Int))) (fun k => ?_) (Ev.bind (f := fun _ t => some (t, (0 : Int))) ht (Ev.now _))
    rw [dx.l0, if_neg (by omega)]
  | succ d ih =>
    intro i s c hi hs hok hc0 hc1 hv
    have hlt : i < s.length := by rw [hs]; clear hv ih; omega
    have h1 := nT ha i
    have h2 := nT hb i
    have hw : wrap64 ((i : Int) + 1) = ((i + 1 : Nat) : Int) := by unfold wrap64; omega
    obtain ⟨P, hP⟩ : ∃ P, P = 4294967296 ^ i := ⟨_, rfl⟩
    have hP1 := Hd.mk (show 4294967296 ^ (i + 1) = P * 4294967296 by rw [hP, Nat.pow_succ])
    rw [← hP] at hv
    have ta := jR a ha i
    have tb := jR b hb i
    have ts : ∀ z, i < s.length → vl ((s.set i z).take (i + 1)) = vl (s.take i) + P * z.toNat := fun z hz => by
      rw [pU s i _ hz, lT, List.length_take, Nat.min_eq_left (Nat.le_of_lt hz), hP]; simp [vl]
    rw [← hP] at ta tb
    clear hP
    generalize hx : a.getD i 0 = x at h1 ta
    generalize hy : b.getD i 0 = y at h2 tb
    refine Ev.step (f := fun k => dx.l0 k a b (s.set i ((x - y - c) % 4294967296)) (if x < y + c then 1 else 0) (a.length : Int) ((i + 1 : Nat) : Int)) (fun k => ?_) (ih (i + 1) _ _ (by omega) (by rw [List.length_set]; exact hs) (mJ hok i (by omega) (by omega)) (by split <;> omega) (by split <;> omega) ?_)
    · rw [dx.l0, if_pos (by omega), if_pos (by omega), if_pos (by omega), y7, hy]
      simp only [Option.bind_some]
      rw [gZ, hx, y9 x y c h1 h2 ⟨hc0, hc1⟩]
      simp only [Option.bind_some]
      rw [if_pos (by omega), hw, Int.toNat_natCast]
    · rw [ts _ hlt, hP1.out, ta, tb]
      have e1 : ((x - y - c) % 4294967296).toNat + y.toNat + c.toNat = x.toNat + 4294967296 * (if x < y + c then (1 : Int) else 0).toNat := by split <;> omega
      have e2 : P * ((x - y - c) % 4294967296).toNat + P * y.toNat + P * c.toNat = P * x.toNat + P * 4294967296 * (if x < y + c then (1 : Int) else 0).toNat := by
        rw [← Nat.mul_add, ← Nat.mul_add, e1, Nat.mul_add, Nat.mul_assoc]
      omega
theorem uQ (n m : Nat) (hn : (dg n).length ≤ 1000000) (hm : (dg m).length ≤ 1000000) (h : m ≤ n) : Ev (fun k => dx.f k (dg n) (dg m)) (dg (n - m), 0) := by
  have hc := wI n m (by omega) (by omega)
  have hl := AJ (dg n) (dg m) (kZ n) (kZ m) (jr h) (by rw [mq, mq]; exact h) hn (dg n).length 0 (List.replicate (dg n).length 0) 0 (by omega) (by simp) (oI _) (by omega) (by omega) (by simp [vl])
  rw [mq, mq] at hl
  refine Ev.bind (g := fun k => gK.f k (dg n) (dg m)) (f := fun k (fM : Int) => if fM < 0 then _ else _) hc ?_
  refine Ev.congr (fun k => ?_) hl
  have h0 : ¬ qN n m < 0 := by unfold qN; rw [if_neg (by omega)]; split <;> omega
  rw [if_neg h0, if_pos (by omega), if_pos (by omega)]
  simp only [Option.bind_some, Int.toNat_natCast, List.length_replicate]
  rfl
theorem AL (n m : Nat) (hn : (dg n).length ≤ 1000000) (hm : (dg m).length ≤ 1000000) (h : n < m) : Ev (fun k => dx.f k (dg n) (dg m)) ([], 6) := by
  have hc := wI n m (by omega) (by omega)
  refine Ev.bind (g := fun k => gK.f k (dg n) (dg m)) (f := fun k (fM : Int) => if fM < 0 then _ else _) hc ?_
  refine Ev.now' (fun k => ?_)
  have h0 : qN n m < 0 := by unfold qN; rw [if_pos h]; omega
  rw [if_pos h0]
theorem AO (l : List Int) (h : OKL l) (hl : l.length ≤ 1000000000) (d : Nat) : ∀ i, i + d = l.length → Ev (fun k => iT.l0 k l l (l.length : Int) (i : Int)) (decide (l = [] ∨ rd l ((l.length : Int) - 1) ≠ 0)) := by
  induction d with
  | zero =>
    intro i hi
    obtain rfl : i = l.length := by omega
    refine Ev.step (f := fun _ => some (decide (l = [] ∨ rd l ((l.length : Int) - 1) ≠ 0))) (fun k => ?_) (Ev.now _)
    rw [iT.l0, if_neg (by omega)]
    by_cases h0 : l = []
    · subst h0; rfl
    · have : 0 < l.length := List.length_pos_iff.2 h0
      have hw : wrap64 ((l.length : Int) - 1) = (l.length : Int) - 1 := by unfold wrap64; omega
      rw [if_neg (by omega), hw, if_pos (by omega), if_pos (by omega)]
      simp [h0]
      exact Bool.eq_iff_iff.2 (by simp)
  | succ d ih =>
    intro i hi
    have hr := uP h (i : Int)
    have hw : wrap64 ((i : Int) + 1) = ((i + 1 : Nat) : Int) := by unfold wrap64; omega
    refine Ev.step (fun k => ?_) (ih (i + 1) (by omega))
    rw [iT.l0, if_pos (by omega), if_pos (by omega), if_pos (by omega), if_neg (by omega), hw]
theorem AP (n : Nat) (hn : (dg n).length ≤ 1000000000) : Ev (fun k => iT.f k (dg n)) true := by
  have := AO (dg n) (kZ n) hn (dg n).length 0 (by omega)
  have h2 : decide (dg n = [] ∨ rd (dg n) (((dg n).length : Int) - 1) ≠ 0) = true := by
    rw [decide_eq_true_iff]
    by_cases h0 : n = 0
    · left; exact pO.2 h0
    · right
      have h3 : (dg n).length ≠ 0 := by intro h5; exact h0 (pO.1 (List.eq_nil_of_length_eq_zero h5))
      have h1 := Di h0
      have h4 := qL n
      rw [show ((dg n).length : Int) - 1 = (((dg n).length - 1 : Nat) : Int) by omega, gZ, si]
      intro e
      have e2 : n / 4294967296 ^ ((dg n).length - 1) % 4294967296 = 0 := by omega
      have e3 : 1 ≤ n / 4294967296 ^ ((dg n).length - 1) := (Nat.le_div_iff_mul_le (Nat.pow_pos (by decide))).2 (by omega)
      have e4 : n / 4294967296 ^ ((dg n).length - 1) < 4294967296 := by
        refine Nat.div_lt_of_lt_mul ?_
        rw [← Nat.pow_succ, show ((dg n).length - 1).succ = (dg n).length by omega]
        exact h4
      omega
  rw [h2] at this
  exact this
end Go.Proofs.YthfphdbebnkdpaaDoor.Pn
end
section
namespace Go.Proofs.YthfphdbebnkdpaaDoor.P
open Go.RowKit Go.Proofs.YthfphdbebnkdpaaDoorW.aZ Go.Proofs.YthfphdbebnkdpaaDoorW.bL Go.Proofs.YthfphdbebnkdpaaDoorW.dC
attribute [local go_sem] dZ d9 fA fB dH dI ed ek
set_option linter.unusedVariables false
set_option linter.unusedSimpArgs false
def jy.f (k : Nat) (l0 : List Int) : Option (List Int) := (dw.f k l0).bind fun qh => (some qh.1)
set_option maxHeartbeats 8000000 in
set_option maxRecDepth 100000 in
theorem jy.calls (k : Nat) (A0 : Option Addr) (c0 : Nat) (l0 : List Int) (r : List Int) (w : World) (hr0 : Kd.C (Kd.int .u64) w A0 l0.length l0) (hc0 : l0.length ≤ c0) (h : jy.f k l0 = some r) :
  Calls Tryd.prog 119 #[.slice A0 l0.length c0] w fun e w' => ∃ v0_ : Value, e = .returned (v0_) ∧ Kd.R (Kd.int .u64) 64 w' w.heap.size (fun _ => True) v0_ r ∧ Below w.heap.size w w' := by
 have HR0 := ae.mk hr0
 have HC0 := ae.mk hc0
 clear hr0 hc0
 have HB := ae.mk (Below.refl w.heap.size w)
 have H : ((dw.f k l0).bind fun qh => (some qh.1)) = some r := h
 clear h
 replace H := Option.bind_eq_some_iff.mp H
 obtain ⟨⟨fM, dK⟩, A20, H⟩ := H
 replace H : (some fM) = some r := H
 have A2 := ae.mk A20
 clear A20
 obtain rfl := Option.some.inj H
 go_enter Tryd.func119, Tryd.ntmps119
 go_wp2_with (first | ((with_reducible refine aW (f := 36) rfl ?_); refine cO (some 7) rfl rfl Tryd.func36 (by kernel_rfl) rfl #[.slice A0 l0.length c0] rfl qt ?_; (with_reducible refine (dw.calls k _ _ l0 fM dK _ ?aU ?aV A2.out).mono ?_); (case aU => exact qs (HR0.out)); (case aV => exact HC0.out); rintro e w3 ⟨v103, rfl, ho0, hb⟩; refine ⟨_, rfl, ?_⟩; have fG := ae.mk (Kd.bz ho0 (aN (qw HB))); replace HB := ae.mk (av (qw HB) hb); (try clear hb); (try clear hb2); (try clear hk); (try clear hi); (try clear ho0)))
 go_ret
 exact ⟨_, by first | rfl | (simp [errW_none, errW_some] <;> rfl) | (simp [*, errW_none, errW_some] <;> rfl), by (with_reducible repeat (first | apply Kd.bu | apply Kd.bv | apply Kd.bg)); exact fG.out, by repeat (first | (with_reducible first | exact HB.out | apply aM | apply aD | apply aH) | exact HB.out)⟩
end Go.Proofs.YthfphdbebnkdpaaDoor.P
end
section
namespace Go.Proofs.YthfphdbebnkdpaaDoor.P
open Go.Proofs.YthfphdbebnkdpaaDoorV Go.RowKit Go.Proofs.YthfphdbebnkdpaaDoorW.aZ Go.Proofs.YthfphdbebnkdpaaDoorW.bL Go.Proofs.YthfphdbebnkdpaaDoorW.dC
set_option linter.unusedVariables false
set_option linter.unusedSimpArgs false
def iy.f (k : Nat) (l0 : List Int) (a1 : Int) : Option (List Int) := if 0 ≤ a1 then (if a1.toNat + l0.length ≤ 35184372088832 then jy.f k (List.replicate a1.toNat 0 ++ l0) else none) else none
set_option maxHeartbeats 8000000 in
set_option maxRecDepth 100000 in
theorem iy.calls (k : Nat) (A0 : Option Addr) (c0 : Nat) (l0 : List Int) (a1 : Int) (r : List Int) (w : World) (hr0 : Kd.C (Kd.int .u64) w A0 l0.length l0) (hc0 : l0.length ≤ c0) (h : iy.f k l0 a1 = some r) :
  Calls Tryd.prog 85 #[.slice A0 l0.length c0, .int .i64 a1] w fun e w' => ∃ v0_ : Value, e = .returned (v0_) ∧ Kd.R (Kd.int .u64) 64 w' w.heap.size (fun _ => True) v0_ r ∧ Below w.heap.size w w' := by
 have HR0 := ae.mk hr0
 have HC0 := ae.mk hc0
 clear hr0 hc0
 have HB := ae.mk (Below.refl w.heap.size w)
 simp only [iy.f] at h
 by_cases h0 : 0 ≤ a1
 ·rw [if_pos h0] at h
  by_cases h1 : a1.toNat + l0.length ≤ 35184372088832
  ·rw [if_pos h1] at h
   obtain ⟨n, rfl⟩ := Int.eq_ofNat_of_zero_le h0
   rw [Int.toNat_natCast] at h h1
   obtain ⟨L2, hL0⟩ : ∃ L2, L2 = List.replicate n (0 : Int) ++ l0 := ⟨_, rfl⟩
   rw [← hL0] at h
   have H := ae.mk h
   clear h
   have HLL := Lib.hid (show L2.length = n + l0.length by rw [hL0]; simp)
   have HL0 := Lib.hid hL0
   clear hL0
   obtain ⟨j, hj⟩ : ∃ j : Int, wrap64 ((n : Int) + (l0.length : Int)) = j := ⟨_, rfl⟩
   have hjw : IntKind.i64.wrap ((n : Int) + (l0.length : Int)) = j := (gT _).trans hj
   have hjn : j = ((n + l0.length : Nat) : Int) := by rw [← hj]; unfold wrap64; omega
   have hl1 : (0 : Int) ≤ j := by omega
   have hm : j.toNat * 8 ≤ 281474976710656 := by omega
   have HN := Lib.hid hjn
   have H0 := Lib.hid (show 0 ≤ j from hl1)
   have HM := Lib.hid hm
   clear hjn hl1 hm
   go_enter Tryd.func85, Tryd.ntmps85
   go_wp2_with (first
    | ((with_reducible refine bR (N := 10) rfl ?_); refine Kd.pM (Kd.int .u64) _ 64 rfl (N := 10) rfl 22 _ _ rfl j rfl rfl Tryd.underlying22 (.int .u64 0) 8 lX rfl (by decide) (by omega) 0 (ok := fun _ => True) (okp := fun _ => True) rfl (fun _ hk => hk) trivial H0.out HM.out (Below.refl _ _) (Nat.le_refl _) ?_; intro v9 w9 ho hb hg_ hnew_; clear hg_; obtain ⟨g, cap, hv9, hcap, hge⟩ := zN ho hnew_; have HO := ae.mk ho; have HB2 := ae.mk hb; clear ho hnew_ hb; rw [hv9] at HO; rw [hv9]; clear hv9; have hln := (show (List.replicate j.toNat (0 : Int)).length = n + l0.length from (by rw [List.length_replicate, HN.out]; omega)); rw [hln] at HO hcap; rw [hln]; have HL := Lib.hid hln; clear hln; obtain ⟨i0, hi0, _, hsz0, _⟩ := info_parts lX; obtain ⟨off, hcut, hoff⟩ := Cj (P := Tryd.prog) 22 64 Tryd.underlying22 hi0 hsz0 g (n + l0.length) cap n (Nat.le_add_right _ _); have HOFF := Lib.hid hoff; clear hoff hi0 hsz0)
    | ((with_reducible refine nH (b := .copy) rfl ?_); (refine Au (some 15) rfl rfl (dT := 22) (sT := 23) rfl #[.slice (some ⟨g, off, none⟩) l0.length (cap - n), .slice A0 l0.length c0] rfl rfl ?_); (refine (um .u64 64 22 23 Tryd.underlying22 (by kernel_rfl) (fun _ => True) g cap off l0.length (cap - n) n (List.replicate j.toNat 0) ?s1 ?s2 ?s3 A0 c0 l0 w _ ?s4 ?s5 ?s6 ?s7).mono ?_); (case s1 => rw [HL.out]; omega); (case s2 => rw [HL.out]; omega); (case s3 => intro h_; exact HOFF.out (by omega)); (case s4 => exact HB2.out); (case s5 => rw [HL.out]; exact HO.out); (case s6 => exact Kd.dS HR0.out HB2.out); (case s7 => exact HC0.out); rintro e w10 ⟨rfl, hy, hb, hkp⟩; refine ⟨_, rfl, ?_⟩; rw [HL.out] at hy; have hL2 := (show (List.replicate j.toNat (0 : Int)).take n ++ (l0.take l0.length ++ ((List.replicate j.toNat (0 : Int)).drop n).drop l0.length) = L2 from (by rw [HL0.out, List.take_length, List.take_replicate, List.drop_drop, List.drop_of_length_le (by rw [HL.out]; omega), List.append_nil, Nat.min_eq_left (by have := HN.out; omega)])); rw [hL2] at hy; have HY := ae.mk hy; have HB3 := ae.mk hb; clear hy hb hkp hL2)
    | ((with_reducible refine aW (f := 119) rfl ?_); refine cO (some 17) rfl rfl Tryd.func119 (by kernel_rfl) rfl #[.slice (some ⟨g, 0, none⟩) L2.length cap] rfl (by (try simp only [List.map_toArray, List.map_cons, List.map_nil]); (try rw [HLL.out]); first | done | rfl) ?_; (with_reducible refine (jy.calls k _ _ L2 r _ ?s1 ?s2 H.out).mono ?_); (case s1 => exact (Kd.ak HY.out).2.2); (case s2 => rw [HLL.out]; exact hcap); rintro e w11 ⟨v11, rfl, ho, hb⟩; refine ⟨_, rfl, ?_⟩; have HO3 := ae.mk (Kd.bz ho (aN HB3.out)); have HB4 := ae.mk (av HB3.out hb); clear ho hb))
   go_ret
   exact ⟨_, rfl, HO3.out, HB4.out⟩
  ·rw [if_neg h1] at h
   exact absurd h (by simp)
 ·rw [if_neg h0] at h
  exact absurd h (by simp)
end Go.Proofs.YthfphdbebnkdpaaDoor.P
end
section
namespace Go.Proofs.YthfphdbebnkdpaaDoor.P
open Go.RowKit Go.Proofs.YthfphdbebnkdpaaDoorW.aZ Go.Proofs.YthfphdbebnkdpaaDoorW.bL Go.Proofs.YthfphdbebnkdpaaDoorW.dC
attribute [local go_sem] dZ d9 fA fB dH dI ed ek
set_option linter.unusedVariables false
set_option linter.unusedSimpArgs false
def iU.f (k : Nat) (l0 : List Int) (a1 : Int) : Option (List Int × List Int) := if 0 ≤ (mn a1 (l0.length : Int)) then (if (mn a1 (l0.length : Int)) ≤ (l0.length : Int) then ((jy.f k (l0.take ((mn a1 (l0.length : Int)) : Int).toNat)).bind fun dK => ((jy.f k (l0.drop ((mn a1 (l0.length : Int)) : Int).toNat)).bind fun bA => (some (dK, bA)))) else (none)) else (none)
def iU.T2 : Bool × List (List Nat × List Nat) := (true, [([], []), ([], []), ([0, 1], [0, 1]), ([2], [2]), ([], []), ([], []), ([4, 5], [4, 5]), ([6, 3], [6]), ([3, 7, 0, 1, 2, 3], [3]), ([7, 8, 0, 1, 2, 3, 4, 5, 6, 7, 8], [7])])
def iU.B2 : List Nat := [0, 0, 3, 7, 0, 0, 48, 127, 255, 511]
theorem iU.Ep : mi .any (opsOf Tryd.f83 2) = iU.T2 := by kernel_rfl
theorem iU.AQ : kJ iU.T2.2 iU.B2 = true := by kernel_rfl
set_option maxHeartbeats 8000000 in
set_option maxRecDepth 100000 in
theorem iU.calls (k : Nat) (A0 : Option Addr) (c0 : Nat) (l0 : List Int) (a1 : Int) (r1 : List Int) (r2 : List Int) (w : World) (hr0 : Kd.C (Kd.int .u64) w A0 l0.length l0) (hc0 : l0.length ≤ c0) (h : iU.f k l0 a1 = some (r1, r2)) :
  Calls Tryd.prog 83 #[.slice A0 l0.length c0, .int .i64 a1] w fun e w' => ∃ v0_ v1_ : Value, e = .returned (.tuple #[v0_, v1_]) ∧ Kd.R (Kd.int .u64) 64 w' w.heap.size (fun k_ => some k_ ≠ (v1_ : Value).ownBlock) v0_ r1 ∧ Kd.R (Kd.int .u64) 64 w' w.heap.size (fun k_ => some k_ ≠ (v0_ : Value).ownBlock) v1_ r2 ∧ Below w.heap.size w w' := by
 have HR0 := ae.mk hr0
 have HC0 := ae.mk hc0
 clear hr0 hc0
 have HB := ae.mk (Below.refl w.heap.size w)
 have H : (if 0 ≤ (mn a1 (l0.length : Int)) then (if (mn a1 (l0.length : Int)) ≤ (l0.length : Int) then ((jy.f k (l0.take ((mn a1 (l0.length : Int)) : Int).toNat)).bind fun dK => ((jy.f k (l0.drop ((mn a1 (l0.length : Int)) : Int).toNat)).bind fun bA => (some (dK, bA)))) else (none)) else (none)) = some (r1, r2) := h
 clear h
 obtain ⟨ji3, hji3⟩ : ∃ j_ : Int, (mn a1 (l0.length : Int)) = j_ := ⟨_, rfl⟩
 replace H : (if 0 ≤ (ji3) then (if (ji3) ≤ (l0.length : Int) then ((jy.f k (l0.take ((ji3) : Int).toNat)).bind fun dK => ((jy.f k (l0.drop ((ji3) : Int).toNat)).bind fun bA => (some (dK, bA)))) else (none)) else (none)) = some (r1, r2) := by first | (rw [hji3] at H; exact H) | (simp only [hji3] at H ⊢; exact H)
 have hji3_ : (if (l0.length : Int) < a1 then (l0.length : Int) else a1) = ji3 := hji3
 by_cases c4 : 0 ≤ (ji3)
 ·rw [if_pos c4] at H
  have ll := eq_true c4
  have pQ : decide (0 ≤ (ji3)) = true := decide_eq_true c4
  clear c4
  by_cases c5 : (ji3) ≤ (l0.length : Int)
  ·rw [if_pos c5] at H
   have jW := eq_true c5
   have pR : decide ((ji3) ≤ (l0.length : Int)) = true := decide_eq_true c5
   clear c5
   replace H := Option.bind_eq_some_iff.mp H
   obtain ⟨dK, A60, H⟩ := H
   replace H : ((jy.f k (l0.drop ((ji3) : Int).toNat)).bind fun bA => (some (dK, bA))) = some (r1, r2) := H
   have A6 := ae.mk A60
   clear A60
   have uN := eq_true (of_decide_eq_true qa : 0 ≤ (ji3))
   have oZ := eq_true (of_decide_eq_true qa : (ji3) ≤ (l0.length : Int))
   replace H := Option.bind_eq_some_iff.mp H
   obtain ⟨bA, A90, H⟩ := H
   replace H : (some (dK, bA)) = some (r1, r2) := H
   have A9 := ae.mk A90
   clear A90
   simp only [Option.some.injEq, Prod.mk.injEq] at H
   obtain ⟨rfl, rfl⟩ := H
   go_enter Tryd.func83, Tryd.ntmps83
   try go_wp2
   replace HB := ae.mk (aH HB.out)
   obtain ⟨i011, hi011, _, hsz11, _⟩ := info_parts lX
   obtain ⟨hcut11, hA11, hC11⟩ := vv (P := Tryd.prog) (Value.int .u64) 0 23 64 .i64 Tryd.underlying23 hi011 hsz11 A0 c0 l0 (ji3) (of_decide_eq_true qa) (of_decide_eq_true qa) HC0.out
   have HR101 := ae.mk (Kd.rP (h1 := fun _ => rfl) (hA11 _ (Kd.nO HR0.out)))
   have HC101 := ae.mk hC11
   clear hA11 hC11 hi011 hsz11
   obtain ⟨i012, hi012, _, hsz12, _⟩ := info_parts lX
   obtain ⟨A12, hcut12, hA12, hC12⟩ := vw (P := Tryd.prog) (Value.int .u64) 0 23 64 .i64 Tryd.underlying23 hi012 hsz12 A0 c0 l0 (ji3) (of_decide_eq_true qa) (of_decide_eq_true qa) HC0.out
   have HR105 := ae.mk (Kd.rP (h1 := fun _ => rfl) (hA12 _ (Kd.nO HR0.out)))
   have HC105 := ae.mk hC12
   clear hA12 hC12 hi012 hsz12
   refine j6 (n := 10) (S := fun w' => True) (ds := []) #[bF,bF,bF,bF,bF,bF,bF,bF,bF,bF] (by kernel_rfl) rfl rfl trivial (fun hHeld => ?_); refine iQ iU.Ep iU.AQ (fun HT_ HW_ => ?_)
   generalize w.drew = w10 at HB HR101 HR105 hHeld ⊢
   refine cZ 0 (some 10) HT_ ?_
   refine cZ 1 (some 11) HT_ ?_
   refine cZ 2 (some 12) HT_ ?_
   refine cZ 4 (some 14) HT_ ?_
   refine cZ 5 (some 15) HT_ ?_
   refine cZ 6 (some 16) HT_ ?_
   refine gU 3 (some 13) HT_ (fun K hK => ?_)
   refine wY Tryd.func119 (by kernel_rfl) rfl #[.slice A0 (l0.take ((ji3) : Int).toNat).length c0] (by rfl) rfl rfl (by (try simp only [List.map_toArray, List.map_cons, List.map_nil]); first | done | (rw [show (l0.take ((ji3) : Int).toNat).length = (ji3).toNat from (by rw [List.length_take]; have h_ : ((ji3) : Int) ≤ (l0.length : Int) := of_decide_eq_true qa; omega)] <;> rfl) | (simp only [hji3]; rfl) | rfl | (simp only [List.length_drop, List.length_take]; rfl)) ?_
   with_reducible refine (jy.calls k _ _ (l0.take ((ji3) : Int).toNat) dK _ ?aU ?aV A6.out).mono ?_
   (case aU => exact qs ((Kd.dS HR101.out HB.out)))
   (case aV => exact HC101.out)
   rintro e w13 ⟨v103, rfl, ho0, hb⟩
   refine ⟨_, rfl, ?_⟩
   have fG := ae.mk (Kd.bz ho0 (aN (qw HB)))
   replace HB := ae.mk (av (qw HB) hb)
   (try clear hb)
   (try clear hb2)
   (try clear hk)
   (try clear hi)
   (try clear ho0)
   refine hK.out _ _ trivial (fun hHeld => ?_)
   clear hK K
   refine eY (some 13) ?_
   refine gU 7 (some 17) HT_ (fun K hK => ?_)
   refine wY Tryd.func119 (by kernel_rfl) rfl #[.slice A12 (l0.drop ((ji3) : Int).toNat).length (c0 - (ji3).toNat)] (by rfl) rfl rfl (by (try simp only [List.map_toArray, List.map_cons, List.map_nil]); first | done | (rw [show (l0.drop ((ji3) : Int).toNat).length = (l0.length - (ji3).toNat) from List.length_drop] <;> rfl) | (simp only [hji3]; rfl) | rfl | (simp only [List.length_drop, List.length_take]; rfl)) ?_
   with_reducible refine (jy.calls k _ _ (l0.drop ((ji3) : Int).toNat) bA _ ?aU ?aV A9.out).mono ?_
   (case aU => exact qs ((Kd.dS HR105.out HB.out)))
   (case aV => exact HC105.out)
   rintro e w14 ⟨v107, rfl, ho0, hb⟩
   refine ⟨_, rfl, ?_⟩
   have dL := ae.mk (Kd.bz (Kd.aA ho0 (Kd.aY (qr fG))) (aN (qw HB)))
   replace fG := ae.mk (Kd.aj (qr fG) (Kd.az ho0) hb)
   replace HB := ae.mk (av (qw HB) hb)
   (try clear hb)
   (try clear hb2)
   (try clear hk)
   (try clear hi)
   (try clear ho0)
   refine hK.out _ _ trivial (fun hHeld => ?_)
   clear hK K
   refine eY (some 17) ?_
   refine cZ 8 (some 4) HT_ ?_
   refine cZ 9 (some 5) HT_ ?_
   refine nM HT_ ?_
   try go_wp2
   go_ret2
   exact ⟨_, _, by first | rfl | (simp [errW_none, errW_some] <;> rfl) | (simp only [← hji3]; first | rfl | (simp [errW_none, errW_some] <;> rfl)) | (simp [*, errW_none, errW_some] <;> rfl), by (with_reducible repeat (first | apply Kd.bu | apply Kd.bv | apply Kd.bg)); exact Kd.bG fG.out (fun _ hk => hk.2), by (with_reducible repeat (first | apply Kd.bu | apply Kd.bv | apply Kd.bg)); exact Kd.bG dL.out (fun _ hk => hk.2), by repeat (first | (with_reducible first | exact HB.out | apply aM | apply aD | apply aH) | exact HB.out)⟩
  ·rw [if_neg c5] at H
   exact absurd H (by simp)
 ·rw [if_neg c4] at H
  exact absurd H (by simp)
end Go.Proofs.YthfphdbebnkdpaaDoor.P
end
