/- Part 2 of a proof that was merged by a program. -/
import Derived.Below
import Derived.Deep.Draws
import Derived.Deep.AppendLies
import Derived.Maps.AppendAt
import Derived.OwnWalk
import Derived.Laws.BytesArg
import Derived.Laws.MakeOwn
import Derived.Laws.OwnMore
import Derived.Deep.OwnRows
import Derived.Tactics
import Derived.Lib.ConvBytes
import Derived.Laws.Slices
import Derived.WalkKit
import Derived.KernelRfl
import Derived.RowKit3
import Derived.Deep.LoopGhost
import Derived.Deep.QuietTactic
import Derived.BigQuiet
import Derived.WideLaws
import Derived.Deep.DeepCutAuto
import Derived.Deep.CutBlock
import Derived.Deep.RegionHeld3
import Derived.Laws.Rows
import Derived.Lib.AppendStr
import Derived.ArgAppend
import Derived.Laws.IdiomCopy
import Derived.RowKit
import Derived.OrdersHeld
import Derived.Laws.BitsLemmas
import Derived.Test.YthfphdbebnkdpaaDoorRows
import Derived.PinnedBridge
import Derived.Lib.LaidU8
import Derived.LaidHandle
import Derived.LaidLaws
import Derived.ProofKit
import Derived.Laws.StructEq
import Derived.Test.YthfphdbebnkdpaaDoorProg
import Derived.Laws.CopyOwn
import Derived.Lib.Builder
import Derived.Laws.Bits64
import Derived.Lib.Hide
import Derived.Shelf.Strings.Builder1
import Derived.Shelf.Strings.Builder2
import Derived.Shelf.Strings.OnBuilder
import Derived.Shelf.Strings.Trim
import Derived.Shelf.Small.Utf8
import Derived.Shelf.Small.Strs
import Derived.Shelf.Strings.BuilderF
import Derived.Shelf.Strings.BuilderK
import Derived.Shelf.Strings.Builder2Cap
import Derived.Shelf.Strings.Search1
import Derived.Shelf.Strings.Search2
import Derived.Shelf.Strings.Cut
import Derived.Shelf.LaysM
import Derived.Shelf.Strings.Shaped
import Derived.Shelf.Strings.Runes
import Derived.Shelf.Strings.AsciiSet
import Derived.Shelf.Unicode.DecodeSlow
import Derived.Shelf.Strings.BuilderCap
import Derived.OpenShut
import Derived.ShutString
import Derived.ChangeOld
import Derived.Carry
import Derived.SizedLaws
import Derived.Lib.SmallJoins
import Derived.Test.YthfphdbebnkdpaaDoorCards
import Derived.Test.YthfphdbebnkdpaaDoorTie
import Derived.SevenTiedAt
import Derived.Test.YthfphdbebnkdpaaDoorA0
import Derived.Test.YthfphdbebnkdpaaDoorA1
section
set_option linter.unusedVariables false
set_option linter.unusedSimpArgs false
namespace Go.Proofs.YthfphdbebnkdpaaDoor.Pn
open Go.Proofs.YthfphdbebnkdpaaDoor.P Go.Proofs.YthfphdbebnkdpaaDoorW.aZ Go.Proofs.YthfphdbebnkdpaaDoorW.bL Go.RowKit
theorem Bj (l : List Int) (i : Nat) : mM.f l (i : Int) = some (l.getD i 0) := by
  unfold mM.f
  by_cases h : (l.length : Int) ≤ (i : Int)
  · rw [if_pos h, List.getD_eq_getElem?_getD, List.getElem?_eq_none (by omega)]; rfl
  · rw [if_neg h, if_pos (by omega), if_pos (by omega), gZ]
theorem yD (un u U0 vt Pi Pj x y w c c' : Nat) (h1 : un + Pi * Pj * y = u + Pi * Pj * x) (h2 : u + Pi * Pj * c = U0 + Pi * vt) (h3 : y + w + c = x + 4294967296 * c') :
    un + Pi * Pj * 4294967296 * c' = U0 + Pi * (vt + Pj * w) := by
  have h4 : Pi * Pj * y + Pi * Pj * w + Pi * Pj * c = Pi * Pj * x + Pi * Pj * (4294967296 * c') := by rw [← Nat.mul_add, ← Nat.mul_add, h3, Nat.mul_add]
  rw [Nat.mul_assoc (Pi * Pj), Nat.mul_add Pi, ← Nat.mul_assoc Pi Pj w]
  omega
theorem yE (un u U0 vt Pi Pj Q x y w p c c' b b' : Nat) (h1 : un + Pi * Pj * y = u + Pi * Pj * x) (h2 : u + Pi * (Q * vt) = U0 + Pi * Pj * (c + b))
    (h3 : Q * w + c = p + 4294967296 * c') (h4 : y + 4294967296 * b' = x + p + b) :
    un + Pi * (Q * (vt + Pj * w)) = U0 + Pi * Pj * 4294967296 * (c' + b') := by
  have e1 : Pi * (Q * (vt + Pj * w)) = Pi * (Q * vt) + Pi * Pj * (Q * w) := by rw [Nat.mul_add Q, Nat.mul_add Pi, Nat.mul_left_comm Q Pj w, Nat.mul_assoc Pi Pj]
  have h5 : Pi * Pj * (Q * w) + Pi * Pj * c = Pi * Pj * p + Pi * Pj * (4294967296 * c') := by rw [← Nat.mul_add, h3, Nat.mul_add]
  have h6 : Pi * Pj * y + Pi * Pj * (4294967296 * b') = Pi * Pj * x + Pi * Pj * p + Pi * Pj * b := by rw [← Nat.mul_add, h4, Nat.mul_add, Nat.mul_add]
  rw [Nat.mul_add] at h2
  rw [e1, Nat.mul_assoc (Pi * Pj), Nat.mul_add 4294967296, Nat.mul_add (Pi * Pj)]
  omega
theorem wO (i j : Nat) (h : i + j ≤ 3000000) : wrap64 ((i : Int) + (j : Int)) = ((i + j : Nat) : Int) := by unfold wrap64; omega
theorem rE (i : Nat) (h : i ≤ 3000000) : wrap64 ((i : Int) + 1) = ((i + 1 : Nat) : Int) := by unfold wrap64; omega
theorem tT (u : List Int) (t D : Nat) (x : Int) (h : t < D) : (u.set t x).drop D = u.drop D := by
  rw [List.drop_set, if_pos h]
theorem zX (v : List Int) (hv : OKL v) (i U0 L : Nat) (hL : i + v.length < L) (hLb : L ≤ 2000000) (d : Nat) :
    ∀ (j : Nat) (u : List Int) (c : Nat), j + d = v.length + 1 → u.length = L → OKL u → c ≤ 1 → vl u + 4294967296 ^ i * 4294967296 ^ j * c = U0 + 4294967296 ^ i * vl (v.take j) →
      ∃ (u' : List Int) (c' : Nat), Ev (fun k => dP.l0 k u (i : Int) v (c : Int) ((v.length + 1 : Nat) : Int) (j : Int)) u' ∧ u'.length = L ∧ OKL u' ∧ c' ≤ 1 ∧
        u'.drop (i + v.length + 1) = u.drop (i + v.length + 1) ∧ vl u' + 4294967296 ^ i * 4294967296 ^ (v.length + 1) * c' = U0 + 4294967296 ^ i * vl v := by
  induction d with
  | zero =>
    intro j u c hj hu hok hc h
    obtain rfl : j = v.length + 1 := hj
    rw [List.take_of_length_le (Nat.le_succ _)] at h
    refine ⟨u, c, Ev.step (f := fun _ => some u) (fun k => ?_) (Ev.now _), hu, hok, hc, rfl, h⟩
    rw [dP.l0, if_neg (Int.lt_irrefl _)]
  | succ d ih =>
    intro j u c hj hu hok hc h
    have hjl : j < v.length + 1 := by clear ih h; omega
    have hlt : i + j < u.length := by clear ih h; omega
    have hw := wO i j (by clear ih h; omega)
    have hw1 := rE j (by clear ih h; omega)
    have hj1 : j + 1 + d = v.length + 1 := by clear ih h; omega
    have hD : i + j < i + v.length + 1 := by clear ih h; omega
    obtain ⟨ey, by_⟩ := lU hok (i + j)
    obtain ⟨ew, bw⟩ := lU hv j
    have htb := jR v hv j
    have hadd := y8 (u.getD (i + j) 0) (v.getD j 0) (c : Int) (nT hok _) (nT hv _) (by clear ih h htb; omega)
    have ex : (u.getD (i + j) 0 + v.getD j 0 + (c : Int)) % 4294967296 = ((((u.getD (i + j) 0).toNat + (v.getD j 0).toNat + c) % 4294967296 : Nat) : Int) := by rw [← uU]; clear ih h htb hadd; omega
    have ec : (u.getD (i + j) 0 + v.getD j 0 + (c : Int)) / 4294967296 = ((((u.getD (i + j) 0).toNat + (v.getD j 0).toNat + c) / 4294967296 : Nat) : Int) := by rw [← xw]; clear ih h htb hadd; omega
    rw [ex, ec] at hadd
    clear ex ec
    have hx : ((u.getD (i + j) 0).toNat + (v.getD j 0).toNat + c) % 4294967296 < 4294967296 := Nat.mod_lt _ (by decide)
    have hc' : ((u.getD (i + j) 0).toNat + (v.getD j 0).toNat + c) / 4294967296 ≤ 1 := by clear ih h htb hadd; omega
    have hsum := (Nat.mod_add_div ((u.getD (i + j) 0).toNat + (v.getD j 0).toNat + c) 4294967296).symm
    have hset := rD u (i + j) ((((u.getD (i + j) 0).toNat + (v.getD j 0).toNat + c) % 4294967296 : Nat) : Int) hlt
    rw [Int.toNat_natCast, Nat.pow_add] at hset
    have hinv := yD _ _ _ _ _ _ _ _ _ _ _ hset h hsum
    rw [← htb, Nat.mul_assoc (4294967296 ^ i) (4294967296 ^ j), ← Nat.pow_succ] at hinv
    obtain ⟨u', c', h1, h2, h3, h4, h5, h6⟩ := ih (j + 1) _ _ hj1 (by rw [List.length_set]; exact hu) (mJ hok _ (Int.natCast_nonneg _) (oK hx)) hc' hinv
    refine ⟨u', c', Ev.step (fun k => ?_) h1, h2, h3, h4, by rw [h5, tT _ _ _ _ hD], h6⟩
    clear ih h htb hset hinv h1 h6
    have z1 : ((i + j : Nat) : Int) < (u.length : Int) := Int.ofNat_lt.2 hlt
    rw [dP.l0, if_pos (Int.ofNat_lt.2 hjl), hw, if_pos (Int.natCast_nonneg _), if_pos z1, Bj, gZ]
    simp only [Option.bind_some]
    rw [hadd]
    simp only [Option.bind_some]
    rw [hw1, Int.toNat_natCast]
theorem CL (v : List Int) (hv : OKL v) (i : Nat) (u : List Int) (hu : OKL u) (hL : i + v.length < u.length) (hLb : u.length ≤ 2000000) :
    ∃ (u' : List Int) (c' : Nat), Ev (fun k => dP.f k u (i : Int) v) u' ∧ u'.length = u.length ∧ OKL u' ∧ c' ≤ 1 ∧
        u'.drop (i + v.length + 1) = u.drop (i + v.length + 1) ∧ vl u' + 4294967296 ^ i * 4294967296 ^ (v.length + 1) * c' = vl u + 4294967296 ^ i * vl v := by
  obtain ⟨u', c', h1, h2⟩ := zX v hv i (vl u) u.length hL hLb (v.length + 1) 0 u 0 (Nat.zero_add _) rfl hu (Nat.zero_le _) rfl
  refine ⟨u', c', Ev.congr (fun k => ?_) h1, h2⟩
  rw [dP.f, rE _ (by omega)]
  rfl
theorem zY (y p b : Nat) (hy : y < 4294967296) (hp : p < 4294967296) (hb : b ≤ 1) : ∃ x b' : Nat, ((y : Int) - (p : Int) - (b : Int)) % 4294967296 = (x : Int) ∧ (if (y : Int) < (p : Int) + (b : Int) then (1 : Int) else 0) = (b' : Int) ∧
    x < 4294967296 ∧ b' ≤ 1 ∧ y + 4294967296 * b' = x + p + b := by
  by_cases hlt : (y : Int) < (p : Int) + (b : Int)
  · exact ⟨y + 4294967296 - p - b, 1, by omega, by rw [if_pos hlt]; rfl, by omega, Nat.le_refl _, by omega⟩
  · exact ⟨y - p - b, 0, by omega, by rw [if_neg hlt]; rfl, by omega, by omega, by omega⟩
theorem Gd (Q w c : Nat) (hQ : Q < 4294967296) (hw : w < 4294967296) (hc : c < 4294967296) : (Q * w + c) / 4294967296 < 4294967296 := Nat.div_lt_of_lt_mul (by
  have : Q * w ≤ 4294967295 * 4294967295 := Nat.mul_le_mul (by omega) (by omega)
  omega)
theorem zero_div (Q w c : Nat) (hw : w = 0) (hc : c < 4294967296) : (Q * w + c) / 4294967296 = 0 := by
  subst hw; rw [Nat.mul_zero, Nat.zero_add]; exact Nat.div_eq_of_lt hc
theorem zZ (v : List Int) (hv : OKL v) (i U0 L Q : Nat) (hQ : Q < 4294967296) (hL : i + v.length < L) (hLb : L ≤ 2000000) (d : Nat) :
    ∀ (j : Nat) (u : List Int) (c b : Nat), j + d = v.length + 1 → u.length = L → OKL u → c < 4294967296 → b ≤ 1 → (j = v.length + 1 → c = 0) →
      vl u + 4294967296 ^ i * (Q * vl (v.take j)) = U0 + 4294967296 ^ i * 4294967296 ^ j * (c + b) →
      ∃ (u' : List Int) (b' : Nat), Ev (fun k => fF.l0 k u (i : Int) v (Q : Int) (c : Int) (b : Int) ((v.length + 1 : Nat) : Int) (j : Int)) (decide (b' ≠ 0), u') ∧ u'.length = L ∧ OKL u' ∧ b' ≤ 1 ∧
        u'.drop (i + v.length + 1) = u.drop (i + v.length + 1) ∧ vl u' + 4294967296 ^ i * (Q * vl v) = U0 + 4294967296 ^ i * 4294967296 ^ (v.length + 1) * b' := by
  induction d with
  | zero =>
    intro j u c b hj hu hok hc hb hcz h
    obtain rfl : j = v.length + 1 := hj
    rw [List.take_of_length_le (Nat.le_succ _), hcz rfl, Nat.zero_add] at h
    refine ⟨u, b, Ev.step (f := fun _ => some (decide (b ≠ 0), u)) (fun k => ?_) (Ev.now _), hu, hok, hb, rfl, h⟩
    rw [fF.l0, if_neg (Int.lt_irrefl _)]
    have : decide (0 < (b : Int)) = decide (b ≠ 0) := decide_eq_decide.2 (by clear h; omega)
    rw [this]
  | succ d ih =>
    intro j u c b hj hu hok hc hb hcz h
    have hjl : j < v.length + 1 := by clear ih h; omega
    have hlt : i + j < u.length := by clear ih h; omega
    have hw := wO i j (by clear ih h; omega)
    have hw1 := rE j (by clear ih h; omega)
    have hj1 : j + 1 + d = v.length + 1 := by clear ih h; omega
    have hD : i + j < i + v.length + 1 := by clear ih h; omega
    obtain ⟨ey, by_⟩ := lU hok (i + j)
    obtain ⟨ew, bw⟩ := lU hv j
    have htb := jR v hv j
    have hm := ze Q (v.getD j 0).toNat c 0 hQ bw hc (by decide)
    rw [← ew, Nat.add_zero, show ((0 : Nat) : Int) = 0 from rfl] at hm
    have hp : (Q * (v.getD j 0).toNat + c) % 4294967296 < 4294967296 := Nat.mod_lt _ (by decide)
    have hT : (Q * (v.getD j 0).toNat + c) / 4294967296 < 4294967296 := Gd _ _ _ hQ bw hc
    have hsum := (Nat.mod_add_div (Q * (v.getD j 0).toNat + c) 4294967296).symm
    have hz : j + 1 = v.length + 1 → (Q * (v.getD j 0).toNat + c) / 4294967296 = 0 := fun hjj => by
      have h0 : v.getD j 0 = 0 := by rw [List.getD_eq_getElem?_getD, List.getElem?_eq_none (by clear ih h htb hm hsum; omega)]; rfl
      exact zero_div _ _ _ (by rw [h0]; rfl) hc
    obtain ⟨p, c', hm, hp, hT, hsum, hz⟩ : ∃ p c' : Nat, mE.f (Q : Int) (v.getD j 0) (c : Int) 0 = some ((p : Int), (c' : Int)) ∧ p < 4294967296 ∧ c' < 4294967296 ∧ Q * (v.getD j 0).toNat + c = p + 4294967296 * c' ∧
      (j + 1 = v.length + 1 → c' = 0) := ⟨_, _, hm, hp, hT, hsum, hz⟩
    have hs := y9 (u.getD (i + j) 0) (p : Int) (b : Int) (nT hok _) ⟨Int.natCast_nonneg _, oK hp⟩ (by clear ih h htb hm hsum; omega)
    obtain ⟨x, b', ex, eb, hx, hb', h4⟩ := zY (u.getD (i + j) 0).toNat p b by_ hp hb
    rw [← ey] at ex eb
    rw [ex, eb] at hs
    clear ex eb
    have hset := rD u (i + j) (x : Int) hlt
    rw [Int.toNat_natCast, Nat.pow_add] at hset
    have hinv := yE _ _ _ _ _ _ _ _ _ _ _ _ _ _ _ hset h hsum h4
    rw [← htb, Nat.mul_assoc (4294967296 ^ i) (4294967296 ^ j), ← Nat.pow_succ] at hinv
    obtain ⟨u', b2, h1, h2, h3, h5, h6, h7⟩ := ih (j + 1) _ _ _ hj1 (by rw [List.length_set]; exact hu) (mJ hok _ (Int.natCast_nonneg _) (oK hx)) hT hb' hz hinv
    refine ⟨u', b2, Ev.step (fun k => ?_) h1, h2, h3, h5, by rw [h6, tT _ _ _ _ hD], h7⟩
    clear ih h htb hset hinv h1 h7 hsum h4
    have z1 : ((i + j : Nat) : Int) < (u.length : Int) := Int.ofNat_lt.2 hlt
    rw [fF.l0, if_pos (Int.ofNat_lt.2 hjl), Bj, Option.bind_some, hm, Option.bind_some, hw, if_pos (Int.natCast_nonneg _), if_pos z1, gZ, hs, Option.bind_some, hw1, Int.toNat_natCast]
theorem CO (v : List Int) (hv : OKL v) (i Q : Nat) (hQ : Q < 4294967296) (u : List Int) (hu : OKL u) (hL : i + v.length < u.length) (hLb : u.length ≤ 2000000) :
    ∃ (u' : List Int) (b' : Nat), Ev (fun k => fF.f k u (i : Int) v (Q : Int)) (decide (b' ≠ 0), u') ∧ u'.length = u.length ∧ OKL u' ∧ b' ≤ 1 ∧
        u'.drop (i + v.length + 1) = u.drop (i + v.length + 1) ∧ vl u' + 4294967296 ^ i * (Q * vl v) = vl u + 4294967296 ^ i * 4294967296 ^ (v.length + 1) * b' := by
  obtain ⟨u', c', h1, h2⟩ := zZ v hv i (vl u) u.length Q hQ hL hLb (v.length + 1) 0 u 0 0 (Nat.zero_add _) rfl hu (by decide) (Nat.zero_le _) (fun h => by omega) rfl
  refine ⟨u', c', Ev.congr (fun k => ?_) h1, h2⟩
  rw [fF.f, rE _ (by omega)]
  rfl
end Go.Proofs.YthfphdbebnkdpaaDoor.Pn
end
section
set_option linter.unusedVariables false
set_option linter.unusedSimpArgs false
namespace Go.Proofs.YthfphdbebnkdpaaDoor.Pn
open Go.Proofs.YthfphdbebnkdpaaDoor.P Go.Proofs.YthfphdbebnkdpaaDoorW.aZ Go.Proofs.YthfphdbebnkdpaaDoorW.bL Go.RowKit
theorem Ju (n : Nat) (h : n ≤ 3000000) : wrap64 (((n + 2 : Nat) : Int) - 2) = (n : Int) := by rw [kg (by omega) (by omega)]; omega
theorem EG (n : Nat) (h : n ≤ 3000000) : wrap64 (((n + 2 : Nat) : Int) - 1) = ((n + 1 : Nat) : Int) := by rw [kg (by omega) (by omega)]; omega
theorem Jv (i n : Nat) (h : i + (n + 2) ≤ 3000000) : wrap64 (wrap64 ((i : Int) + ((n + 2 : Nat) : Int)) - 2) = ((i + n : Nat) : Int) := by
  rw [wO i (n + 2) h, kg (by omega) (by omega)]; omega
theorem Gf (a b : Nat) (ha : a < 4294967296) (hb : b < 4294967296) : IntKind.u64.wrap ((a : Int) + (b : Int)) = ((a + b : Nat) : Int) := by rw [mD]; omega
theorem EH (q : Nat) (h0 : 0 < q) (h : q ≤ 4294967297) : IntKind.u64.wrap ((q : Int) - 1) = ((q - 1 : Nat) : Int) := by rw [mD]; omega
theorem Gg (a b : Nat) (ha : a < 4294967296) (hb : b < 4294967296) : IntKind.u64.wrap ((a : Int) * (b : Int)) = ((a * b : Nat) : Int) := by
  have h6 : a * b ≤ 4294967295 * 4294967295 := Nat.mul_le_mul (by omega) (by omega)
  rw [mD, ← Int.natCast_mul]
  omega
theorem CP (a v2 x u2 : Nat) (ha : a < 4294967296) (hv : v2 < 4294967296) (hx : 4294967296 ≤ x) : a * v2 ≤ x * 4294967296 + u2 := by
  have h6 : a * v2 ≤ 4294967296 * 4294967296 := Nat.mul_le_mul (Nat.le_of_lt ha) (Nat.le_of_lt hv)
  omega
theorem Bl (q v1 r num : Nat) (h0 : 0 < q) (hq : q * v1 + r = num) : (q - 1) * v1 + (r + v1) = num := by
  obtain ⟨p, rfl⟩ : ∃ p, q = p + 1 := ⟨q - 1, by omega⟩
  rw [Nat.add_mul, Nat.one_mul] at hq
  rw [Nat.add_sub_cancel]
  omega
theorem z8 (q v1 r num : Nat) (hq : q * v1 + r = num) (hr : 4294967296 ≤ r) (hnum : num < v1 * 4294967296 + 4294967296) : q < 4294967296 := by
  refine Nat.lt_of_not_le fun hle => ?_
  have := Nat.mul_le_mul_right v1 hle
  rw [Nat.mul_comm 4294967296] at this
  omega
theorem zm (a : Nat) (h : 4294967296 ≤ a) : (a : Int) ≥ 4294967296 := by omega
theorem xy (a : Nat) (h : ¬ 4294967296 ≤ a) : ¬ (a : Int) ≥ 4294967296 := by omega
theorem Bn (a b : Nat) : decide ((a : Int) < (b : Int)) = decide (a < b) := decide_eq_decide.2 Int.ofNat_lt
theorem Gh (W V M v1 v2 u2 num q r qs : Nat) (hV : (v1 * 4294967296 + v2) * M ≤ V) (hW : W < (num * 4294967296 + u2 + 1) * M) (hqs : qs * V ≤ W) (hq : q * v1 + r = num)
    (h : r * 4294967296 + u2 < q * v2) : qs < q := by
  refine Nat.lt_of_not_le fun hle => ?_
  have h1 : q * ((v1 * 4294967296 + v2) * M) ≤ qs * V := Nat.mul_le_mul hle hV
  rw [← Nat.mul_assoc] at h1
  have h2 := Nat.lt_of_mul_lt_mul_right (Nat.lt_of_le_of_lt (Nat.le_trans h1 hqs) hW)
  rw [Nat.mul_add, ← Nat.mul_assoc] at h2
  omega
theorem Jw (W V M v1 v2 u2 num q r : Nat) (hV : V ≤ (v1 * 4294967296 + v2 + 1) * M) (hW : (num * 4294967296 + u2) * M ≤ W) (hM : 0 < M) (hVl : 4294967296 * M ≤ V) (hq : q * v1 + r = num)
    (hq2 : q < 4294967296) (h : q * v2 ≤ r * 4294967296 + u2) : q ≤ W / V + 1 := by
  have hV0 : 0 < V := Nat.lt_of_lt_of_le (Nat.mul_pos (by decide) hM) hVl
  have h1 : q * V ≤ q * ((v1 * 4294967296 + v2 + 1) * M) := Nat.mul_le_mul_left _ hV
  have h2 : q * (v1 * 4294967296 + v2 + 1) ≤ num * 4294967296 + u2 + q := by
    rw [Nat.mul_add, Nat.mul_add, ← Nat.mul_assoc]
    omega
  have h3 : q * (v1 * 4294967296 + v2 + 1) * M ≤ (num * 4294967296 + u2 + q) * M := Nat.mul_le_mul_right _ h2
  rw [Nat.mul_assoc, Nat.add_mul _ q] at h3
  have h4 : q * M < 4294967296 * M := (Nat.mul_lt_mul_right hM).2 hq2
  have h5 : q * V < W + V := by omega
  have h6 : W < (W / V + 1) * V := by rw [Nat.add_mul, Nat.one_mul, Nat.mul_comm]; have := Nat.div_add_mod W V; have := Nat.mod_lt W hV0; omega
  have h7 : q * V < (W / V + 1 + 1) * V := by rw [Nat.add_mul _ 1, Nat.one_mul]; exact Nat.lt_of_lt_of_le h5 (Nat.add_le_add_right (Nat.le_of_lt h6) _)
  exact Nat.le_of_lt_succ (Nat.lt_of_mul_lt_mul_right h7)
theorem yF (u v : List Int) (hu : OKL u) (hv : OKL v) (i n : Nat) (hn : v.length = n + 2) (hil : i + (n + 2) < u.length) (hlb : u.length ≤ 2000000)
    (W V M v1 v2 u2 num : Nat) (e1 : v.getD (n + 1) 0 = (v1 : Int)) (e2 : v.getD n 0 = (v2 : Int)) (e3 : u.getD (i + n) 0 = (u2 : Int)) (b1 : v1 < 4294967296) (b2 : v2 < 4294967296) (b3 : u2 < 4294967296)
    (hM : 0 < M) (hVl : 4294967296 * M ≤ V) (hV : (v1 * 4294967296 + v2) * M ≤ V) (hV' : V ≤ (v1 * 4294967296 + v2 + 1) * M)
    (hW : W < (num * 4294967296 + u2 + 1) * M) (hW' : (num * 4294967296 + u2) * M ≤ W) (hqb : W / V < 4294967296) (hnum : num < v1 * 4294967296 + 4294967296) (d : Nat) :
    ∀ q r : Nat, r < 4294967296 → 4294967296 ≤ r + d * v1 → q * v1 + r = num → W / V ≤ q → q ≤ 4294967297 →
      ∃ q' : Nat, Ev (fun k => dA.l0 k u (i : Int) v ((n + 2 : Nat) : Int) (q : Int) (r : Int)) (q' : Int) ∧ W / V ≤ q' ∧ q' ≤ W / V + 1 ∧ q' < 4294967296 := by
  have hb3 : i + (n + 2) ≤ 3000000 := Nat.le_trans (Nat.le_of_lt hil) (Nat.le_trans hlb (by decide))
  have hw0 := Ju n (Nat.le_trans (Nat.le_trans (Nat.le_add_right n 2) (Nat.le_add_left _ i)) hb3)
  have hw1 := Jv i n hb3
  have hw2 := EG n (Nat.le_trans (Nat.le_trans (Nat.le_add_right n 2) (Nat.le_add_left _ i)) hb3)
  have z1 : (n : Int) < (v.length : Int) := Int.ofNat_lt.2 (by rw [hn]; exact Nat.lt_add_of_pos_right (by decide))
  have z2 : ((i + n : Nat) : Int) < (u.length : Int) := Int.ofNat_lt.2 (Nat.lt_of_le_of_lt (Nat.add_le_add_left (Nat.le_add_right n 2) i) hil)
  have z3 : ((n + 1 : Nat) : Int) < (v.length : Int) := Int.ofNat_lt.2 (by rw [hn]; exact Nat.lt_succ_self _)
  induction d with
  | zero => intro q r hr hd; rw [Nat.zero_mul, Nat.add_zero] at hd; exact absurd hr (Nat.not_lt.2 hd)
  | succ d ih =>
    intro q r hr hd hq hqs hq1
    have hqsV : W / V * V ≤ W := Nat.div_mul_le_self _ _
    have hup := Jw W V M v1 v2 u2 num
    have hlow := Gh W V M v1 v2 u2 num q r (W / V) hV hW hqsV hq
    generalize W / V = qs at *
    replace hup := fun q r h1 h2 h3 => hup q r hV' hW' hM hVl h1 h2 h3
    clear hW hW' hV hV' hVl hqsV
    have hbr : Go.bits .or .u64 (IntKind.u64.wrap ((r : Int) * 4294967296)) (u2 : Int) = ((r * 4294967296 + u2 : Nat) : Int) := Cx r u2 hr b3
    have hadd : IntKind.u64.wrap ((r : Int) + (v1 : Int)) = ((r + v1 : Nat) : Int) := Gf r v1 hr b1
    have dec : qs < q → ∃ q' : Nat, Ev (fun k => dA.j1 k u (i : Int) v ((n + 2 : Nat) : Int) (q : Int) (r : Int) true) (q' : Int) ∧ qs ≤ q' ∧ q' ≤ qs + 1 ∧ q' < 4294967296 := by
      intro hlt
      have h0 : 0 < q := Nat.lt_of_le_of_lt (Nat.zero_le _) hlt
      have hsub := EH q h0 hq1
      have hq2 := Bl q v1 r num h0 hq
      have hle : qs ≤ q - 1 := Nat.le_sub_one_of_lt hlt
      by_cases hbreak : 4294967296 ≤ r + v1
      · have hqb2 := z8 _ _ _ _ hq2 hbreak hnum
        have h5 := CP (q - 1) v2 (r + v1) u2 hqb2 b2 hbreak
        refine ⟨q - 1, Ev.step (f := fun _ => some ((q - 1 : Nat) : Int)) (fun k => ?_) (Ev.now _), hle, hup (q - 1) (r + v1) hq2 hqb2 h5, hqb2⟩
        rw [dA.j1, if_pos rfl, hw2, if_pos (Int.natCast_nonneg _), if_pos z3, gZ, e1, hadd, if_pos (zm _ hbreak), hsub]
      · obtain ⟨q', h1, h2⟩ := ih (q - 1) (r + v1) (Nat.lt_of_not_le hbreak) (by rw [Nat.add_mul, Nat.one_mul, Nat.add_comm (d * v1), ← Nat.add_assoc] at hd; exact hd) hq2 hle (Nat.le_trans (Nat.sub_le _ _) hq1)
        refine ⟨q', Ev.step (fun k => ?_) h1, h2⟩
        rw [dA.j1, if_pos rfl, hw2, if_pos (Int.natCast_nonneg _), if_pos z3, gZ, e1, hadd, if_neg (xy _ hbreak), hsub]
    by_cases hqB : 4294967296 ≤ q
    · obtain ⟨q', h1, h2⟩ := dec (Nat.lt_of_lt_of_le hqb hqB)
      refine ⟨q', Ev.step (fun k => ?_) h1, h2⟩
      rw [dA.l0, if_pos (zm _ hqB)]
    · have hql := Nat.lt_of_not_le hqB
      have hqv := Gg q v2 hql b2
      have hde : decide (((r * 4294967296 + u2 : Nat) : Int) < ((q * v2 : Nat) : Int)) = decide (r * 4294967296 + u2 < q * v2) := Bn _ _
      have hstep : ∀ k, dA.l0 (k + 1) u (i : Int) v ((n + 2 : Nat) : Int) (q : Int) (r : Int) = dA.j1 k u (i : Int) v ((n + 2 : Nat) : Int) (q : Int) (r : Int) (decide (r * 4294967296 + u2 < q * v2)) := by
        intro k
        rw [dA.l0, if_neg (xy _ hqB), hw0, if_pos (Int.natCast_nonneg _), if_pos z1, hw1, if_pos (Int.natCast_nonneg _), if_pos z2, gZ, gZ, e2, e3, hbr, hqv, hde]
      by_cases hc : r * 4294967296 + u2 < q * v2
      · obtain ⟨q', h1, h2⟩ := dec (hlow hc)
        refine ⟨q', Ev.step (fun k => ?_) h1, h2⟩
        rw [hstep, decide_eq_true hc]
      · refine ⟨q, Ev.step hstep (Ev.step (f := fun _ => some (q : Int)) (fun k => ?_) (Ev.now _)), hqs, hup q r hq hql (Nat.le_of_not_lt hc), hql⟩
        rw [decide_eq_false hc, dA.j1, if_neg (by decide)]
end Go.Proofs.YthfphdbebnkdpaaDoor.Pn
end
section
set_option linter.unusedVariables false
set_option linter.unusedSimpArgs false
namespace Go.Proofs.YthfphdbebnkdpaaDoor.Pn
open Go.Proofs.YthfphdbebnkdpaaDoor.P Go.Proofs.YthfphdbebnkdpaaDoorW.aZ Go.Proofs.YthfphdbebnkdpaaDoorW.bL Go.RowKit
theorem qj (X M : Nat) (hM : 0 < M) : X < (X / M + 1) * M := by
  have h1 := Nat.div_add_mod X M
  have h2 := Nat.mod_lt X hM
  rw [Nat.add_mul, Nat.one_mul, Nat.mul_comm]
  omega
theorem Jy (W V M T S qs v1 num : Nat) (hM : 0 < M) (hqs : qs * V ≤ W) (hS : v1 * 4294967296 * M ≤ V) (hT : T = W / M) (hnum : num = T / 4294967296) : qs * v1 ≤ num := by
  have h1 : qs * (v1 * 4294967296 * M) ≤ W := Nat.le_trans (Nat.mul_le_mul_left _ hS) hqs
  have h2 : qs * v1 * (M * 4294967296) ≤ W := by
    have e : qs * v1 * (M * 4294967296) = qs * (v1 * 4294967296 * M) := by rw [Nat.mul_assoc qs, Nat.mul_assoc v1, Nat.mul_comm M]
    rw [e]; exact h1
  rw [hnum, hT, Nat.div_div_eq_div_mul]
  exact (Nat.le_div_iff_mul_le (Nat.mul_pos hM (by decide))).2 h2
theorem EI (W V M S T : Nat) (hM : 0 < M) (hW : W < 4294967296 * V) (hV : V < (S + 1) * M) (hT : T = W / M) : T / 4294967296 < S + 1 := by
  subst hT
  rw [Nat.div_div_eq_div_mul]
  refine Nat.div_lt_of_lt_mul (Nat.lt_of_lt_of_le hW ?_)
  have h := Nat.mul_le_mul_left 4294967296 (Nat.le_of_lt hV)
  have e : M * 4294967296 * (S + 1) = 4294967296 * ((S + 1) * M) := by rw [Nat.mul_comm M, Nat.mul_assoc, Nat.mul_comm M]
  rw [e]; exact h
theorem Jz (num v1 : Nat) (h : num < v1 * 4294967296 + 4294967296) (hv : 2147483648 ≤ v1) : num / v1 ≤ 4294967297 := by
  have h0 : num < 4294967298 * v1 := by omega
  exact Nat.le_of_lt_add_one ((Nat.div_lt_iff_lt_mul (Nat.lt_of_lt_of_le (by decide) hv)).2 h0)
theorem JA (T S : Nat) (h : T / 4294967296 < S + 1) (hS : S < 4294967296 * 4294967296) : T / 4294967296 / 4294967296 < 4294967296 := by omega
theorem EJ (S : Nat) (hS : S < 4294967296 * 4294967296) : S / 4294967296 < 4294967296 ∧ S / 4294967296 * 4294967296 + S % 4294967296 = S ∧ S / 4294967296 % 4294967296 = S / 4294967296 := by omega
theorem EK (T : Nat) (h : T / 4294967296 / 4294967296 < 4294967296) : (T / 4294967296 / 4294967296 % 4294967296) * 4294967296 + T / 4294967296 % 4294967296 = T / 4294967296 ∧ T / 4294967296 * 4294967296 + T % 4294967296 = T ∧ T / 4294967296 < 18446744073709551616 := by omega
theorem Gi (S : Nat) : S + 1 ≤ S / 4294967296 * 4294967296 + 4294967296 := by omega
theorem JB (i n : Nat) (h : i + (n + 2) ≤ 3000000) : wrap64 ((i : Int) + ((n + 2 : Nat) : Int)) = ((i + n + 2 : Nat) : Int) := by rw [wO i (n + 2) h]; rfl
theorem JC (i n : Nat) (h : i + (n + 2) ≤ 3000000) : wrap64 (((i + n + 2 : Nat) : Int) - 1) = ((i + n + 1 : Nat) : Int) := by rw [kg (by omega) (by omega)]; omega
theorem Bo (a b : Nat) (h : a < 18446744073709551616) : IntKind.u64.wrap (Int.tdiv (a : Int) (b : Int)) = ((a / b : Nat) : Int) := by
  rw [Int.tdiv_eq_ediv_of_nonneg (Int.natCast_nonneg _), ← Int.natCast_ediv, mD]
  have h2 := Nat.lt_of_le_of_lt (Nat.div_le_self a b) h
  generalize a / b = q at h2 ⊢
  omega
theorem Bp (a b : Nat) : Int.tmod (a : Int) (b : Int) = ((a % b : Nat) : Int) := by
  rw [Int.tmod_eq_emod_of_nonneg (Int.natCast_nonneg _), ← Int.natCast_emod]
theorem CQ (a : Nat) (h : 0 < a) : ¬ (a : Int) = 0 := by omega
theorem Bq (u v : List Int) (hu : OKL u) (hv : OKL v) (i n : Nat) (hn : v.length = n + 2) (hil : i + (n + 2) < u.length) (hlb : u.length ≤ 2000000)
    (hW : vl u / 4294967296 ^ i < 4294967296 * vl v) (hnorm : 2147483648 ≤ vl v / 4294967296 ^ n / 4294967296) :
    ∃ q' : Nat, Ev (fun k => dA.f k u (i : Int) v) (q' : Int) ∧ vl u / 4294967296 ^ i / vl v ≤ q' ∧ q' ≤ vl u / 4294967296 ^ i / vl v + 1 ∧ q' < 4294967296 := by
  have hM : 0 < 4294967296 ^ n := Nat.pow_pos (by decide)
  have hVlt := rJ hv
  rw [hn, Nat.pow_succ, Nat.pow_succ, Nat.mul_assoc] at hVlt
  have hSlt : vl v / 4294967296 ^ n < 4294967296 * 4294967296 := Nat.div_lt_of_lt_mul hVlt
  have hV' := qj (vl v) _ hM
  have hV1 := Nat.div_mul_le_self (vl v) (4294967296 ^ n)
  have hW' := qj (vl u / 4294967296 ^ i) _ hM
  have hW1 := Nat.div_mul_le_self (vl u / 4294967296 ^ i) (4294967296 ^ n)
  have hnl := EI _ _ _ _ _ hM hW hV' rfl
  have d0 : u.getD (i + n) 0 = ((vl u / 4294967296 ^ i / 4294967296 ^ n % 4294967296 : Nat) : Int) := by rw [sj hu, Nat.pow_add, Nat.div_div_eq_div_mul]
  have d1 : u.getD (i + n + 1) 0 = ((vl u / 4294967296 ^ i / 4294967296 ^ n / 4294967296 % 4294967296 : Nat) : Int) := by rw [sj hu, Nat.pow_succ, Nat.pow_add, Nat.div_div_eq_div_mul, Nat.div_div_eq_div_mul, Nat.mul_assoc]
  have d2 : u.getD (i + n + 2) 0 = ((vl u / 4294967296 ^ i / 4294967296 ^ n / 4294967296 / 4294967296 % 4294967296 : Nat) : Int) := by rw [sj hu, Nat.pow_succ, Nat.pow_succ, Nat.pow_add, Nat.div_div_eq_div_mul, Nat.div_div_eq_div_mul, Nat.div_div_eq_div_mul, Nat.mul_assoc, Nat.mul_assoc]
  have c0 : v.getD n 0 = ((vl v / 4294967296 ^ n % 4294967296 : Nat) : Int) := sj hv n
  have c1 : v.getD (n + 1) 0 = ((vl v / 4294967296 ^ n / 4294967296 % 4294967296 : Nat) : Int) := by rw [sj hv, Nat.pow_succ, Nat.div_div_eq_div_mul]
  have hVpos : 0 < vl v := Nat.pos_of_ne_zero (fun h0 => by rw [h0, Nat.zero_div, Nat.zero_div] at hnorm; exact absurd hnorm (by decide))
  have hqb : vl u / 4294967296 ^ i / vl v < 4294967296 := Nat.div_lt_of_lt_mul (by rw [Nat.mul_comm]; exact hW)
  have hqsV : vl u / 4294967296 ^ i / vl v * vl v ≤ vl u / 4294967296 ^ i := Nat.div_mul_le_self _ _
  clear hVlt hW
  revert d0 d1 d2 c0 c1 hV' hV1 hW' hW1 hnl hSlt hnorm hqb hqsV hM
  generalize vl u / 4294967296 ^ i = W
  generalize 4294967296 ^ n = M
  generalize hS : vl v / M = S
  generalize hT : W / M = T
  intro hnorm hM hSlt hV' hV1 hW' hW1 hnl d0 d1 d2 c0 c1 hqb hqsV
  obtain ⟨b1, s1, s2⟩ := EJ S hSlt
  obtain ⟨t1, t2, t3⟩ := EK T (JA T S hnl hSlt)
  rw [s2] at c1
  have hnum := Nat.lt_of_lt_of_le hnl (Gi S)
  have hv1 : S / 4294967296 * 4294967296 * M ≤ vl v := Nat.le_trans (Nat.mul_le_mul_right _ (Nat.div_mul_le_self _ _)) hV1
  have hq1 := Jy W (vl v) M T S _ _ _ hM hqsV hv1 hT.symm rfl
  have hv0 : 0 < S / 4294967296 := Nat.lt_of_lt_of_le (by decide) hnorm
  have hql := Jz _ _ hnum hnorm
  have hVl : 4294967296 * M ≤ vl v := Nat.le_trans (Nat.mul_le_mul_right _ (by
    have := Nat.mul_le_mul_right 4294967296 hv0
    rw [Nat.one_mul] at this
    exact this)) hv1
  have hr := Nat.mod_lt (T / 4294967296) hv0
  have h := yF u v hu hv i n hn hil hlb W (vl v) M (S / 4294967296) (S % 4294967296) (T % 4294967296) (T / 4294967296) c1 c0 d0 b1 (Nat.mod_lt _ (by decide)) (Nat.mod_lt _ (by decide)) hM hVl
    (by rw [s1]; exact hV1) (by rw [s1]; exact Nat.le_of_lt hV') (by rw [t2]; exact hW') (by rw [t2]; exact hW1) hqb hnum 2 (T / 4294967296 / (S / 4294967296)) (T / 4294967296 % (S / 4294967296))
    (Nat.lt_trans hr b1) (by
      have h2 := Nat.mul_le_mul_left 2 hnorm
      exact Nat.le_trans h2 (Nat.le_add_left _ _)) (Nat.div_add_mod' _ _) ((Nat.le_div_iff_mul_le hv0).2 hq1) hql
  obtain ⟨q', h1, h2⟩ := h
  refine ⟨q', Ev.congr (fun k => ?_) h1, h2⟩
  clear h1 h2 hq1 hVl hv1 hV' hV1 hW' hW1 hqsV hS hT hqb hql hnl hnum hr
  have hb3 : i + (n + 2) ≤ 3000000 := Nat.le_trans (Nat.le_of_lt hil) (Nat.le_trans hlb (by decide))
  have z1 : ((i + n + 2 : Nat) : Int) < (u.length : Int) := Int.ofNat_lt.2 hil
  have z2 : ((i + n + 1 : Nat) : Int) < (u.length : Int) := Int.ofNat_lt.2 (Nat.lt_of_le_of_lt (Nat.le_succ _) hil)
  have z3 : ((n + 1 : Nat) : Int) < ((n + 2 : Nat) : Int) := Int.ofNat_lt.2 (Nat.lt_succ_self _)
  rw [dA.f, hn, JB i n hb3, if_pos (Int.natCast_nonneg _), if_pos z1, JC i n hb3, if_pos (Int.natCast_nonneg _), if_pos z2, EG n (Nat.le_trans (Nat.le_trans (Nat.le_add_right n 2) (Nat.le_add_left _ i)) hb3), if_pos (Int.natCast_nonneg _), if_pos z3,
    gZ v, gZ u, gZ u, c1, if_neg (CQ _ hv0), d1, d2, Cx _ _ (Nat.mod_lt _ (by decide)) (Nat.mod_lt _ (by decide)), t1, Bo _ _ t3, Bp]
end Go.Proofs.YthfphdbebnkdpaaDoor.Pn
end
section
set_option linter.unusedVariables false
set_option linter.unusedSimpArgs false
namespace Go.Proofs.YthfphdbebnkdpaaDoor.Pn
open Go.Proofs.YthfphdbebnkdpaaDoor.P Go.Proofs.YthfphdbebnkdpaaDoorW.aZ Go.Proofs.YthfphdbebnkdpaaDoorW.bL Go.RowKit
theorem JD (U' Z U E b : Nat) (h : U' + Z = U + E * b) (hle : Z ≤ U) (hlt : U' < E) (hb : b ≤ 1) : b = 0 ∧ U' + Z = U := by
  rcases Nat.le_one_iff_eq_zero_or_eq_one.1 hb with rfl | rfl
  · exact ⟨rfl, by rw [Nat.mul_zero] at h; omega⟩
  · rw [Nat.mul_one] at h; omega
theorem Gj (U' Z U E b : Nat) (h : U' + Z = U + E * b) (hgt : U < Z) (hb : b ≤ 1) : b = 1 := by
  rcases Nat.le_one_iff_eq_zero_or_eq_one.1 hb with rfl | rfl
  · rw [Nat.mul_zero] at h; omega
  · rfl
theorem EL (U' U2 Z Y U E c : Nat) (h : U' + (Z + Y) = U + E) (g : U2 + E * c = U' + Y) (hle : Z ≤ U) (hlt : U2 < E) (hc : c ≤ 1) : U2 + Z = U := by
  rcases Nat.le_one_iff_eq_zero_or_eq_one.1 hc with rfl | rfl
  · rw [Nat.mul_zero] at g; omega
  · rw [Nat.mul_one] at g; omega
theorem Gl (U P V : Nat) : P * (U / P / V * V) ≤ U := Nat.le_trans (Nat.mul_le_mul_left _ (Nat.div_mul_le_self _ _)) (Nat.mul_div_le _ _)
theorem Dt (U P V : Nat) (hP : 0 < P) (hV : 0 < V) : U < P * ((U / P / V + 1) * V) := by
  have h1 := qj (U / P) V hV
  have h2 := qj U P hP
  rw [Nat.mul_comm _ P] at h2
  exact Nat.lt_of_lt_of_le h2 (Nat.mul_le_mul_left _ h1)
theorem Br (u u' : List Int) (hu : OKL u') (D X : Nat) (hD : D ≤ u'.length) (hl : u'.length = u.length) (h : u'.drop D = u.drop D) (hX : vl u < 4294967296 ^ D) : vl u' < 4294967296 ^ D := by
  have h1 := qz u D (by rw [← hl]; exact hD)
  have h2 := qz u' D hD
  have h3 := rJ (qK hu D)
  rw [List.length_take, Nat.min_eq_left hD] at h3
  have h0 : vl (u.drop D) = 0 := by
    refine Nat.eq_zero_of_not_pos fun hp => ?_
    have h4 := Nat.mul_le_mul_left (4294967296 ^ D) hp
    rw [Nat.mul_one] at h4
    exact absurd (Nat.le_trans h4 (Nat.le_trans (Nat.le_add_left _ _) (Nat.le_of_eq h1.symm))) (Nat.not_le.2 hX)
  rw [h2, h, h0, Nat.mul_zero, Nat.add_zero]
  exact h3
theorem Bt (u v : List Int) (hu : OKL u) (hv : OKL v) (i n : Nat) (hn : v.length = n + 2) (hil : i + (n + 2) < u.length) (hlb : u.length ≤ 2000000)
    (hW : vl u < 4294967296 ^ i * (4294967296 * vl v)) (hnorm : 2147483648 ≤ vl v / 4294967296 ^ n / 4294967296) :
    ∃ (Q b : Nat) (u1 : List Int), Ev (fun k => dA.f k u (i : Int) v) (Q : Int) ∧ Q < 4294967296 ∧ Ev (fun k => fF.f k u (i : Int) v (Q : Int)) (decide (b ≠ 0), u1) ∧
      ((b = 0 ∧ Q = vl u / 4294967296 ^ i / vl v ∧ u1.length = u.length ∧ OKL u1 ∧ vl u1 + 4294967296 ^ i * (Q * vl v) = vl u) ∨
       (b = 1 ∧ Q = vl u / 4294967296 ^ i / vl v + 1 ∧ ∃ u2, Ev (fun k => dP.f k u1 (i : Int) v) u2 ∧ u2.length = u.length ∧ OKL u2 ∧ vl u2 + 4294967296 ^ i * ((Q - 1) * vl v) = vl u)) := by
  have hP : 0 < 4294967296 ^ i := Nat.pow_pos (by decide)
  have hVpos : 0 < vl v := Nat.pos_of_ne_zero (fun h0 => by rw [h0, Nat.zero_div, Nat.zero_div] at hnorm; exact absurd hnorm (by decide))
  obtain ⟨Q, hg, hq1, hq2, hq3⟩ := Bq u v hu hv i n hn hil hlb (Nat.div_lt_of_lt_mul hW) hnorm
  have hil' : i + v.length < u.length := by rw [hn]; exact hil
  obtain ⟨u1, b, ht, hl1, ho1, hb, hd1, he1⟩ := CO v hv i Q hq3 u hu hil' hlb
  have hVlt := rJ hv
  have hUD : vl u < 4294967296 ^ (i + v.length + 1) := by
    refine Nat.lt_of_lt_of_le hW ?_
    rw [Nat.add_assoc, Nat.pow_add, Nat.pow_succ, Nat.mul_comm (4294967296 ^ v.length)]
    exact Nat.mul_le_mul_left _ (Nat.mul_le_mul_left _ (Nat.le_of_lt hVlt))
  have hl2 := Br u u1 ho1 (i + v.length + 1) 0 (by rw [hl1]; exact hil') hl1 hd1 hUD
  have hE : 4294967296 ^ i * 4294967296 ^ (v.length + 1) = 4294967296 ^ (i + v.length + 1) := by rw [Nat.add_assoc, Nat.pow_add _ i]
  have hle := Gl (vl u) (4294967296 ^ i) (vl v)
  have hgt := Dt (vl u) (4294967296 ^ i) (vl v) hP hVpos
  refine ⟨Q, b, u1, hg, hq3, ht, ?_⟩
  rcases Nat.lt_or_ge (vl u / 4294967296 ^ i / vl v) Q with hlt | hge
  · have hQ : Q = vl u / 4294967296 ^ i / vl v + 1 := Nat.le_antisymm hq2 hlt
    refine .inr ?_
    rw [hE] at he1
    have hb1 := Gj _ _ _ _ _ he1 (by rw [hQ]; exact hgt) hb
    obtain ⟨u2, c, hgv, hl3, ho3, hc, hd3, he3⟩ := CL v hv i u1 ho1 (by rw [hl1]; exact hil') (by rw [hl1]; exact hlb)
    have hl4 := Br u u2 ho3 (i + v.length + 1) 0 (by rw [hl3, hl1]; exact hil') (hl3.trans hl1) (hd3.trans hd1) hUD
    rw [hE] at he3
    rw [hb1, Nat.mul_one, hQ, Nat.add_mul, Nat.one_mul, Nat.mul_add] at he1
    refine ⟨hb1, hQ, u2, hgv, hl3.trans hl1, ho3, ?_⟩
    rw [hQ, Nat.add_sub_cancel]
    exact EL _ _ _ _ _ _ _ he1 he3 hle hl4 hc
  · have hQ : Q = vl u / 4294967296 ^ i / vl v := Nat.le_antisymm hge hq1
    rw [hE] at he1
    obtain ⟨hb0, h5⟩ := JD _ _ _ _ _ he1 (by rw [hQ]; exact hle) hl2 hb
    exact .inl ⟨hb0, hQ, hl1, ho1, h5⟩
end Go.Proofs.YthfphdbebnkdpaaDoor.Pn
end
section
set_option linter.unusedVariables false
set_option linter.unusedSimpArgs false
namespace Go.Proofs.YthfphdbebnkdpaaDoor.Pn
open Go.Proofs.YthfphdbebnkdpaaDoor.P Go.Proofs.YthfphdbebnkdpaaDoorW.aZ Go.Proofs.YthfphdbebnkdpaaDoorW.bL Go.RowKit
theorem xz (u1 U P V A x vq : Nat) (h1 : u1 + P * (x * V) = U) (h2 : U + V * vq = A) : u1 + V * (vq + P * x) = A := by
  rw [Nat.mul_add, show V * (P * x) = P * (x * V) from by rw [Nat.mul_left_comm, Nat.mul_comm V]]
  omega
theorem Bu (u1 U P V qs : Nat) (h1 : u1 + P * (qs * V) = U) (h2 : U < P * ((qs + 1) * V)) : u1 < P * V := by
  rw [Nat.add_mul, Nat.one_mul, Nat.mul_add] at h2
  omega
theorem EM (t : Nat) (h : t ≤ 3000000) : wrap64 ((t : Int) - 1) = (t : Int) - 1 := kg (by omega) (by omega)
theorem Gm (Q : Nat) (h0 : 0 < Q) (h : Q < 4294967296) : IntKind.u64.wrap ((Q : Int) - 1) = ((Q - 1 : Nat) : Int) := by rw [mD]; omega
theorem EN (q : List Int) (t : Nat) (x : Int) (h : t < q.length) : rd (q.set t x) (t : Int) = x := by
  rw [gZ, List.getD_eq_getElem?_getD, List.getElem?_set_self h]; rfl
theorem yG (v : List Int) (hv : OKL v) (n s M A : Nat) (hs : s < 32) (hn : v.length = n + 2) (hnb : n + 2 ≤ 1000000) (hMb : M ≤ 1000000)
    (hnorm : 2147483648 ≤ vl v / 4294967296 ^ n / 4294967296) (t : Nat) :
    ∀ u q : List Int, t ≤ M → u.length = M + (n + 2) → OKL u → q.length = M → OKL q → (∀ j, j < t → q.getD j 0 = 0) → vl u < 4294967296 ^ t * vl v → vl u + vl v * vl q = A →
      Ev (fun k => bV.l0 k (s : Int) v u q ((t : Int) - 1)) (dg (A / vl v), dg (A % vl v / 2 ^ s)) := by
  have hVpos : 0 < vl v := Nat.pos_of_ne_zero (fun h0 => by rw [h0, Nat.zero_div, Nat.zero_div] at hnorm; exact absurd hnorm (by decide))
  have hVlt := rJ hv
  rw [hn] at hVlt
  induction t with
  | zero =>
    intro u q ht hul hu hql hq hz hlt hA
    rw [Nat.pow_zero, Nat.one_mul] at hlt
    have e1 : A / vl v = vl q := by rw [← hA, Nat.add_mul_div_left _ _ hVpos, Nat.div_eq_of_lt hlt, Nat.zero_add]
    have e2 : A % vl v = vl u := by rw [← hA, Nat.add_mul_mod_self_left, Nat.mod_eq_of_lt hlt]
    rw [e1, e2]
    obtain ⟨e, hsh⟩ := Ez (vl u) s (Nat.le_trans (lc (Nat.lt_trans hlt hVlt)) hnb) hs
    have hm1 := rA q hq (by rw [hql]; exact Nat.le_trans hMb (by decide))
    have hm2 := rA u hu (by rw [hul]; exact Nat.le_trans (Nat.add_le_add hMb hnb) (by decide))
    refine Ev.step (f := fun k => (dw.f k q).bind fun nW => (dw.f k u).bind fun j4 => (fw.f k j4.1 (s : Int)).bind fun qi => some (nW.1, qi.1)) (fun k => ?_)
      (Ev.bind (f := fun k nW => (dw.f k u).bind fun j4 => (fw.f k j4.1 (s : Int)).bind fun qi => some (nW.1, qi.1)) hm1
        (Ev.bind (f := fun k j4 => (fw.f k j4.1 (s : Int)).bind fun qi => some (dg (vl q), qi.1)) hm2
          (Ev.bind (f := fun _ qi => some (dg (vl q), qi.1)) hsh (Ev.now _))))
    rw [bV.l0, if_neg (by decide)]
  | succ t ih =>
    intro u q ht hul hu hql hq hz hlt hA
    rw [Nat.pow_succ, Nat.mul_assoc] at hlt
    have htq : t < q.length := by rw [hql]; exact ht
    have hil : t + (n + 2) < u.length := by rw [hul]; exact Nat.add_lt_add_right ht _
    have hlb : u.length ≤ 2000000 := by rw [hul]; exact Nat.add_le_add hMb hnb
    have hx : (((t + 1 : Nat) : Int) - 1) = (t : Int) := by rw [Int.natCast_add]; exact Int.add_sub_cancel _ _
    have hw := EM t (Nat.le_trans (Nat.le_of_lt ht) (Nat.le_trans hMb (by decide)))
    have z1 : (t : Int) < (q.length : Int) := Int.ofNat_lt.2 htq
    have z0 : (0 : Int) ≤ (t : Int) := Int.natCast_nonneg _
    have hgt := Dt (vl u) (4294967296 ^ t) (vl v) (Nat.pow_pos (by decide)) hVpos
    obtain ⟨Q, b, u1, hg, hQ, htk, hcase⟩ := Bt u v hu hv t n hn hil hlb hlt hnorm
    have hrd := EN q t (Q : Int) htq
    rw [hx]
    refine Ev.step (f := fun k => (dA.f k u (t : Int) v).bind fun t131 => (if (0 : Int) ≤ (t : Int) then (if (t : Int) < (q.length : Int) then ((some (q.set ((t : Int)).toNat t131 : List Int)).bind fun y132 => ((fF.f k u (t : Int) v (rd y132 (t : Int))).bind fun gD => (if gD.1 = true then ((dP.f k gD.2 (t : Int) v).bind fun t138 => (bV.l0 k (s : Int) v t138 (y132.set ((t : Int)).toNat (IntKind.u64.wrap ((rd y132 (t : Int)) - 1))) (wrap64 ((t : Int) - 1)))) else (bV.l0 k (s : Int) v gD.2 y132 (wrap64 ((t : Int) - 1)))))) else none) else none)) (fun k => ?_) ?_
    · rw [bV.l0, if_pos z0]
    refine Ev.bind hg (Ev.congr (f := fun k => (fF.f k u (t : Int) v (Q : Int)).bind fun gD => (if gD.1 = true then ((dP.f k gD.2 (t : Int) v).bind fun t138 => (bV.l0 k (s : Int) v t138 ((q.set t (Q : Int)).set t (IntKind.u64.wrap ((Q : Int) - 1))) ((t : Int) - 1))) else (bV.l0 k (s : Int) v gD.2 (q.set t (Q : Int)) ((t : Int) - 1)))) (fun k => ?_) (Ev.bind htk ?_))
    · rw [if_pos z0, if_pos z1, Option.bind_some, Int.toNat_natCast, hrd, hw]
    have hzz : ∀ x : Int, ∀ j, j < t → (q.set t x).getD j 0 = 0 := fun x j hj => by rw [getD_set_ne _ _ _ _ (Nat.ne_of_gt hj)]; exact hz j (Nat.lt_succ_of_lt hj)
    have hset : ∀ X : Nat, vl (q.set t (X : Int)) = vl q + 4294967296 ^ t * X := fun X => by
      rw [Eo q t _ htq (hz t (Nat.lt_succ_self _)), Int.toNat_natCast]
    rcases hcase with ⟨rfl, hQe, hl1, ho1, he⟩ | ⟨rfl, hQe, u2, hgv, hl2, ho2, he⟩
    · refine Ev.congr (f := fun k => bV.l0 k (s : Int) v u1 (q.set t (Q : Int)) ((t : Int) - 1)) (fun k => ?_) (ih u1 _ (Nat.le_of_lt ht) (hl1.trans hul) ho1 (by rw [List.length_set]; exact hql) (mJ hq _ (Int.natCast_nonneg _) (oK hQ)) (hzz _) (Bu _ _ _ _ _ (by rw [← hQe]; exact he) hgt) (by rw [hset]; exact xz _ _ _ _ _ _ _ he hA))
      rw [if_neg (by simp)]
    · have hQ1 : Q - 1 = vl u / 4294967296 ^ t / vl v := by rw [hQe, Nat.add_sub_cancel]
      have hQ0 : 0 < Q := by rw [hQe]; exact Nat.succ_pos _
      refine Ev.congr (f := fun k => (dP.f k u1 (t : Int) v).bind fun t138 => bV.l0 k (s : Int) v t138 (q.set t ((Q - 1 : Nat) : Int)) ((t : Int) - 1)) (fun k => ?_)
        (Ev.bind (f := fun k t138 => bV.l0 k (s : Int) v t138 (q.set t ((Q - 1 : Nat) : Int)) ((t : Int) - 1)) hgv
          (ih u2 _ (Nat.le_of_lt ht) (hl2.trans hul) ho2 (by rw [List.length_set]; exact hql) (mJ hq _ (Int.natCast_nonneg _) (oK (Nat.lt_of_le_of_lt (Nat.sub_le _ _) hQ))) (hzz _) (Bu _ _ _ _ _ (by rw [← hQ1]; exact he) hgt) (by rw [hset]; exact xz _ _ _ _ _ _ _ he hA)))
      rw [if_pos (by simp), Gm Q hQ0 hQ, List.set_set]
end Go.Proofs.YthfphdbebnkdpaaDoor.Pn
end
section
set_option linter.unusedVariables false
set_option linter.unusedSimpArgs false
namespace Go.Proofs.YthfphdbebnkdpaaDoor.Pn
open Go.Proofs.YthfphdbebnkdpaaDoor.P Go.Proofs.YthfphdbebnkdpaaDoorW.aZ Go.Proofs.YthfphdbebnkdpaaDoorW.bL Go.RowKit
theorem Bv (b T P r s : Nat) (hP : 0 < P) (hT : b / P = T) (hr : 1 ≤ r) (hrs : r + s = 32) (h1 : T < 2 ^ r) (h2 : 2 ^ (r - 1) ≤ T) :
    b * 2 ^ s < 4294967296 * P ∧ 2147483648 ≤ b * 2 ^ s / P ∧ 2147483648 * P ≤ b * 2 ^ s := by
  have e1 : 2 ^ r * 2 ^ s = 4294967296 := by rw [← Nat.pow_add, hrs]
  have e2 : 2 ^ (r - 1) * 2 ^ s = 2147483648 := by rw [← Nat.pow_add, show r - 1 + s = 31 by omega]
  have h3 : 2147483648 * P ≤ b * 2 ^ s := by
    rw [← e2, Nat.mul_right_comm]
    refine Nat.mul_le_mul_right _ (Nat.le_trans (Nat.mul_le_mul_right P h2) ?_)
    rw [← hT]; exact Nat.div_mul_le_self _ _
  refine ⟨?_, (Nat.le_div_iff_mul_le hP).2 h3, h3⟩
  have h4 := qj b P hP
  rw [hT] at h4
  have h5 : b < 2 ^ r * P := Nat.lt_of_lt_of_le h4 (Nat.mul_le_mul_right P h1)
  rw [← e1, Nat.mul_right_comm]
  exact (Nat.mul_lt_mul_right (Nat.pow_pos (by decide))).2 h5
theorem Bw (N L : Nat) (h : (dg N).length ≤ L) : ∃ l : List Int, Go.Proofs.YthfphdbebnkdpaaDoorV.mI (List.replicate L 0) (dg N) = some (((dg N).length : Int), l) ∧ l.length = L ∧ OKL l ∧ vl l = N := by
  refine ⟨dg N ++ List.replicate (L - (dg N).length) 0, ?_, ?_, qy.2 ⟨kZ N, oI _⟩, ?_⟩
  · unfold Go.Proofs.YthfphdbebnkdpaaDoorV.mI
    rw [List.length_replicate, Nat.min_eq_right h, List.take_of_length_le h, List.drop_replicate]
  · rw [List.length_append, List.length_replicate]; omega
  · rw [lT, mq, uM, Nat.mul_zero, Nat.add_zero]
theorem CR (r : Nat) (h : r ≤ 32) : wrap64 (32 - (r : Int)) = ((32 - r : Nat) : Int) := by rw [kg (by omega) (by omega)]; omega
theorem w_m (x y : Nat) (h : y ≤ x) (hx : x ≤ 1000000) : wrap64 ((x : Int) - (y : Int)) = ((x - y : Nat) : Int) := by rw [kg (by omega) (by omega)]; omega
theorem Bz (a b n : Nat) (hb : (dg b).length = n + 2) (hab : (dg b).length ≤ (dg a).length) (hla : (dg a).length ≤ 900000) : Ev (fun k => bV.f k (dg a) (dg b)) (dg (a / b), dg (a % b)) := by
  have hP : 0 < 4294967296 ^ (n + 1) := Nat.pow_pos (by decide)
  have hb0 : b ≠ 0 := fun h0 => by rw [h0, iL] at hb; exact absurd hb (by simp)
  have hge := Di hb0
  have hlt := qL b
  rw [hb] at hge hlt
  have htop : b / 4294967296 ^ (n + 1) < 4294967296 := Nat.div_lt_of_lt_mul (by rw [← Nat.pow_succ]; exact hlt)
  have ht0 : b / 4294967296 ^ (n + 1) ≠ 0 := Nat.ne_of_gt (Nat.div_pos hge hP)
  have hrd : (dg b).getD (n + 1) 0 = ((b / 4294967296 ^ (n + 1) : Nat) : Int) := by rw [si, Nat.mod_eq_of_lt htop]
  obtain ⟨r, hbits, hr1, hr2, hr3, hr4⟩ := Cz _ htop ht0
  obtain ⟨hV1, hV2, hV3⟩ := Bv b _ (4294967296 ^ (n + 1)) r (32 - r) hP rfl hr1 (by clear hge hlt htop ht0 hrd hr3 hr4 hbits hP; omega) hr3 hr4
  have hs : 32 - r < 32 := by clear hge hlt htop ht0 hrd hr3 hr4 hbits hP hV1 hV2 hV3; omega
  have hn9 : n + 2 ≤ 900000 := by rw [← hb]; exact Nat.le_trans hab hla
  have hw32 := CR r hr2
  generalize 32 - r = s at *
  have h31 : 2 ^ s ≤ 2147483648 := Nat.pow_le_pow_right (n := 2) (by decide) (Nat.le_of_lt_succ hs : s ≤ 31)
  have hA31 : a * 2 ^ s < 4294967296 ^ (dg a).length * 2147483648 := Nat.lt_of_lt_of_le ((Nat.mul_lt_mul_right (Nat.pow_pos (by decide))).2 (qL a)) (Nat.mul_le_mul_left _ h31)
  have hAlen : (dg (a * 2 ^ s)).length ≤ (dg a).length + 1 := lc (by
    rw [Nat.pow_succ]
    exact Nat.lt_of_lt_of_le hA31 (Nat.mul_le_mul_left _ (by decide)))
  have hvl1 : (dg (b * 2 ^ s)).length ≤ n + 2 := lc (by rw [Nat.pow_succ, Nat.mul_comm (4294967296 ^ (n + 1))]; exact hV1)
  have hvl2 : n + 2 ≤ (dg (b * 2 ^ s)).length := Nat.lt_of_not_le (fun hle => by
    have h1 := p9 hle
    exact absurd (Nat.le_trans (Nat.le_mul_of_pos_left _ (by decide)) hV3) (Nat.not_le.2 h1))
  have hvl := Nat.le_antisymm hvl1 hvl2
  rw [hb] at hab
  obtain ⟨u, hcopy, hul, huo, huv⟩ := Bw (a * 2 ^ s) ((dg a).length + 1) hAlen
  have hla1 : (dg a).length = (dg a).length - (n + 2) + 1 + (n + 1) := by clear hge hlt htop ht0 hrd hr3 hr4 hbits hP hV1 hV2 hV3 hA31 h31; omega
  have hlo := yG (dg (b * 2 ^ s)) (kZ _) n s ((dg a).length - (n + 2) + 1) (a * 2 ^ s) hs hvl (Nat.le_trans hn9 (by decide)) (Nat.le_trans (Nat.succ_le_succ (Nat.le_trans (Nat.sub_le _ _) hla)) (by decide))
    (by rw [mq, Nat.div_div_eq_div_mul, ← Nat.pow_succ]; exact hV2) ((dg a).length - (n + 2) + 1) u (List.replicate ((dg a).length - (n + 2) + 1) 0) (Nat.le_refl _)
    (by rw [hul]; clear hge hlt htop ht0 hrd hr3 hr4 hbits hP hV1 hV2 hV3 hA31 h31; omega) huo (List.length_replicate ..) (oI _) (fun j _ => qP _ j)
    (by
      rw [huv, mq]
      refine Nat.lt_of_lt_of_le hA31 ?_
      rw [hla1, Nat.pow_add, Nat.mul_assoc, Nat.mul_comm (4294967296 ^ (n + 1)), ← hla1]
      exact Nat.mul_le_mul_left _ hV3)
    (by rw [uM, Nat.mul_zero, Nat.add_zero]; exact huv)
  have h2s : 0 < 2 ^ s := Nat.pow_pos (by decide)
  rw [mq, Nat.mul_div_mul_right _ _ h2s, Nat.mul_mod_mul_right, Nat.mul_div_cancel _ h2s] at hlo
  obtain ⟨e1, hsh1⟩ := Bf b s (by rw [hb]; exact Nat.le_trans hn9 (by decide)) hs
  obtain ⟨e2, hsh2⟩ := Bf a s (Nat.le_trans hla (by decide)) hs
  have y1 : wrap64 (((n + 2 : Nat) : Int) - 1) = ((n + 1 : Nat) : Int) := EG n (Nat.le_trans (Nat.le_trans (Nat.le_add_right n 2) hn9) (by decide))
  have y2 : wrap64 (((dg a).length : Int) + 1) = (((dg a).length + 1 : Nat) : Int) := rE _ (Nat.le_trans hla (by decide))
  have y3 : wrap64 (((dg a).length : Int) - ((n + 2 : Nat) : Int)) = (((dg a).length - (n + 2) : Nat) : Int) := w_m _ _ hab (Nat.le_trans hla (by decide))
  have y4 : wrap64 ((((dg a).length - (n + 2) : Nat) : Int) + 1) = (((dg a).length - (n + 2) + 1 : Nat) : Int) := rE _ (Nat.le_trans (Nat.sub_le _ _) (Nat.le_trans hla (by decide)))
  have y5 : (((dg a).length - (n + 2) + 1 : Nat) : Int) - 1 = (((dg a).length - (n + 2) : Nat) : Int) := by rw [Int.natCast_add]; exact Int.add_sub_cancel _ _
  have z3 : ((n + 1 : Nat) : Int) < ((n + 2 : Nat) : Int) := Int.ofNat_lt.2 (Nat.lt_succ_self _)
  have z5 : (dg a).length + 1 ≤ 35184372088832 := Nat.le_trans (Nat.succ_le_succ hla) (by decide)
  have z6 : (dg a).length - (n + 2) + 1 ≤ 35184372088832 := Nat.le_trans (Nat.succ_le_succ (Nat.le_trans (Nat.sub_le _ _) hla)) (by decide)
  rw [y5] at hlo
  clear hge hlt htop ht0 hr3 hr4 hP hV1 hV2 hV3 hA31 h31 hAlen hvl1 hvl2 hvl hla1 huv
  refine Ev.congr (f := fun k => (ig.f k ((b / 4294967296 ^ (n + 1) : Nat) : Int)).bind fun dK => ((fu.f k (dg b) (wrap64 (32 - dK))).bind fun kN => ((fu.f k (dg a) (wrap64 (32 - dK))).bind fun ik => ((Go.Proofs.YthfphdbebnkdpaaDoorV.mI (List.replicate ((dg a).length + 1) 0) ik.1).bind fun nX =>
      (bV.l0 k (wrap64 (32 - dK)) kN.1 nX.2 (List.replicate ((dg a).length - (n + 2) + 1) 0) (((dg a).length - (n + 2) : Nat) : Int)))))) (fun k => ?_) (Ev.bind hbits ?_)
  · rw [bV.f, hb, y1, if_pos (Int.natCast_nonneg _), if_pos z3, gZ, hrd, y2, y3, y4, Int.toNat_natCast, Int.toNat_natCast]
    have q1 : (0 : Int) ≤ (((dg a).length + 1 : Nat) : Int) := Int.natCast_nonneg _
    have q2 : (0 : Int) ≤ (((dg a).length - (n + 2) + 1 : Nat) : Int) := Int.natCast_nonneg _
    simp only [q1, q2, z5, z6, if_true]
  rw [hw32]
  refine Ev.bind hsh1 (Ev.bind hsh2 (Ev.congr (fun k => ?_) hlo))
  rw [hcopy, Option.bind_some]
end Go.Proofs.YthfphdbebnkdpaaDoor.Pn
end
section
namespace Go.Proofs.YthfphdbebnkdpaaDoor.P
open Go.RowKit Go.Proofs.YthfphdbebnkdpaaDoorW.aZ Go.Proofs.YthfphdbebnkdpaaDoorW.bL Go.Proofs.YthfphdbebnkdpaaDoorW.dC
attribute [local go_sem] dZ d9 fA fB dH dI ed ek
set_option linter.unusedVariables false
set_option linter.unusedSimpArgs false
def fI.j0 : Nat → List Int → List Int → Bool → Option (List Int × List Int × Int)
 | 0, _, _, _ => none
 | k + 1, x0, x1, x18 => if x18 = true then (some (([] : List Int), ([] : List Int), 2)) else ((gK.f k x0 x1).bind fun dR => (if dR < 0 then ((dw.f k x0).bind fun gV => (some (([] : List Int), gV.1, gV.2))) else (if (x1.length : Int) = 1 then (if 0 < (x1.length : Int) then ((df.f k x0 (rd x1 0)).bind fun dM => ((jh.f k dM.2.1).bind fun dD => (some (dM.1, dD, dM.2.2)))) else (none)) else ((bV.f k x0 x1).bind fun jw => (some (jw.1, jw.2, 0))))))
def fI.f (k : Nat) (l0 : List Int) (l1 : List Int) : Option (List Int × List Int × Int) := if (l1.length : Int) = 0 then (some (([] : List Int), ([] : List Int), 3)) else ((iT.f k l0).bind fun fM => (if fM = true then ((iT.f k l1).bind fun dK => (fI.j0 k l0 l1 (!dK))) else (fI.j0 k l0 l1 true)))
set_option maxHeartbeats 8000000 in
set_option maxRecDepth 100000 in
theorem fI.calls (k : Nat) (A0 : Option Addr) (c0 : Nat) (l0 : List Int) (A1 : Option Addr) (c1 : Nat) (l1 : List Int) (r1 : List Int) (r2 : List Int) (r3 : Int) (w : World) (hr0 : Kd.C (Kd.int .u64) w A0 l0.length l0) (hc0 : l0.length ≤ c0) (hr1 : Kd.C (Kd.int .u64) w A1 l1.length l1) (hc1 : l1.length ≤ c1) (h : fI.f k l0 l1 = some (r1, r2, r3)) :
  Calls Tryd.prog 34 #[.slice A0 l0.length c0, .slice A1 l1.length c1] w fun e w' => ∃ v0_ v1_ : Value, e = .returned (.tuple #[v0_, v1_, .int .i64 r3]) ∧ Kd.R (Kd.int .u64) 64 w' w.heap.size (fun k_ => some k_ ≠ (v1_ : Value).ownBlock) v0_ r1 ∧ Kd.R (Kd.int .u64) 64 w' w.heap.size (fun k_ => some k_ ≠ (v0_ : Value).ownBlock) v1_ r2 ∧ Below w.heap.size w w' := by
 have HR0 := ae.mk hr0
 have HC0 := ae.mk hc0
 clear hr0 hc0
 have HR1 := ae.mk hr1
 have HC1 := ae.mk hc1
 clear hr1 hc1
 have HB := ae.mk (Below.refl w.heap.size w)
 have H : (if (l1.length : Int) = 0 then (some (([] : List Int), ([] : List Int), 3)) else ((iT.f k l0).bind fun fM => (if fM = true then ((iT.f k l1).bind fun dK => (fI.j0 k l0 l1 (!dK))) else (fI.j0 k l0 l1 true)))) = some (r1, r2, r3) := h
 clear h
 by_cases c3 : (l1.length : Int) = 0
 ·rw [if_pos c3] at H
  have nE : ((l1.length : Int) == 0) = true := beq_iff_eq.mpr c3
  have qD : ((l1.length : Int) != 0) = false := bne_eq_false_iff_eq.mpr c3
  clear c3
  simp only [Option.some.injEq, Prod.mk.injEq] at H
  obtain ⟨rfl, rfl, rfl⟩ := H
  go_enter Tryd.func34, Tryd.ntmps34
  go_wp2
  go_ret3
  exact ⟨_, _, by first | rfl | (simp [errW_none, errW_some] <;> rfl) | (simp [*, errW_none, errW_some] <;> rfl), by first | exact Kd.pu _ _ _ _ _ | exact Kd.N_nil _ _ _ _ _ | exact Kd.V_nil _ _ _ _ _ | exact Kd.Q_nil _ _ _ _ _ | exact Kd.S_nil _ _ _ _ _, by first | exact Kd.pu _ _ _ _ _ | exact Kd.N_nil _ _ _ _ _ | exact Kd.V_nil _ _ _ _ _ | exact Kd.Q_nil _ _ _ _ _ | exact Kd.S_nil _ _ _ _ _, by repeat (first | (with_reducible first | exact HB.out | apply aM | apply aD | apply aH) | exact HB.out)⟩
 ·rw [if_neg c3] at H
  have nE : ((l1.length : Int) == 0) = false := beq_eq_false_iff_ne.mpr c3
  have qD : ((l1.length : Int) != 0) = true := bne_iff_ne.mpr c3
  have xA : ¬ (l1 = []) := fun h_ => c3 (by rw [h_]; rfl)
  have HC4 := ae.mk H
  clear H
  go_enter Tryd.func34, Tryd.ntmps34
  go_upto_region 3 with (fail)
  go_cut [18] (fun v18 wc => ∃ (kq : Nat) (zn : Bool), v18 = .bool zn ∧ ae (fI.j0 kq l0 l1 zn = some (r1, r2, r3)) ∧ ae (kq ≤ k) ∧ ae (Below w.heap.size w wc))
  case first =>
   have H := HC4.out
   clear HC4
   replace H := Option.bind_eq_some_iff.mp H
   obtain ⟨fM, A50, H⟩ := H
   replace H : (if fM = true then ((iT.f k l1).bind fun dK => (fI.j0 k l0 l1 (!dK))) else (fI.j0 k l0 l1 true)) = some (r1, r2, r3) := H
   have A5 := ae.mk A50
   clear A50
   by_cases c6 : fM = true
   ·subst c6
    have H1 : ((iT.f k l1).bind fun dK => (fI.j0 k l0 l1 (!dK))) = some (r1, r2, r3) := by rw [if_pos rfl] at H; exact H
    clear H
    have H := H1
    clear H1
    replace H := Option.bind_eq_some_iff.mp H
    obtain ⟨dK, A70, H⟩ := H
    replace H : (fI.j0 k l0 l1 (!dK)) = some (r1, r2, r3) := H
    have A7 := ae.mk A70
    clear A70
    have H' := ae.mk H
    clear H
    go_wp2_with (first | ((with_reducible refine aW (f := 58) rfl ?_); refine cO (some 20) rfl rfl Tryd.func58 (by kernel_rfl) rfl #[.slice A0 l0.length c0] rfl qt ?_; (with_reducible refine (iT.calls k _ _ l0 true _ ?aU ?aV A5.out).mono ?_); (case aU => exact qs ((Kd.dS HR0.out HB.out))); (case aV => exact HC0.out); rintro e w' ⟨rfl, ⟨nd, rfl⟩⟩; refine ⟨_, rfl, ?_⟩) | (go_at_call 58; (with_reducible refine (iT.calls k _ _ l1 dK _ ?aU ?aV A7.out).mono ?_); (case aU => repeat (first | exact (Kd.dS HR1.out (qw HB)) | (with_reducible refine Kd.q9 ?_ _) | (with_reducible refine Kd.rf ?_ _) | (with_reducible refine Kd.sU ?_))); (case aV => exact HC1.out); rintro e w' ⟨rfl, ⟨nd, rfl⟩⟩))
    go_meet
    case rel => exact ⟨_, (!dK), (by first | rfl | (simp; done) | (simp [*]; done)), H', ⟨by first | omega | exact Nat.le_refl _⟩, ⟨by repeat (first | (with_reducible first | exact HB.out | apply aM | apply aD | apply aH) | exact HB.out)⟩⟩
   ·replace c6 := Bool.eq_false_iff.mpr c6
    subst c6
    have H1 : (fI.j0 k l0 l1 true) = some (r1, r2, r3) := by rw [if_neg (show ¬ (false = true) by decide)] at H; exact H
    clear H
    have H := H1
    clear H1
    have H' := ae.mk H
    clear H
    go_wp2_with (first | ((with_reducible refine aW (f := 58) rfl ?_); refine cO (some 20) rfl rfl Tryd.func58 (by kernel_rfl) rfl #[.slice A0 l0.length c0] rfl qt ?_; (with_reducible refine (iT.calls k _ _ l0 false _ ?aU ?aV A5.out).mono ?_); (case aU => exact qs ((Kd.dS HR0.out HB.out))); (case aV => exact HC0.out); rintro e w' ⟨rfl, ⟨nd, rfl⟩⟩; refine ⟨_, rfl, ?_⟩))
    go_meet
    case rel => exact ⟨_, (true), (by first | rfl | (simp; done) | (simp [*]; done)), H', ⟨by first | omega | exact Nat.le_refl _⟩, ⟨by repeat (first | (with_reducible first | exact HB.out | apply aM | apply aD | apply aH) | exact HB.out)⟩⟩
  case rest =>
   clear HC4
   try clear c1
   try clear p2
   try clear c3
   try clear nE
   try clear qD
   try clear xA
   try clear c5
   try clear c6
   obtain ⟨kq, zn, rfl, HA, HJ3, HB⟩ := hcut
   cases kq with
   | zero => exact absurd HA.out (by simp [fI.j0])
   | succ kj3 =>
    have H := HA.out
    clear HA
    simp only [fI.j0] at H
    by_cases c8 : zn = true
    ·subst c8
     have H1 : (some (([] : List Int), ([] : List Int), 2)) = some (r1, r2, r3) := by rw [if_pos rfl] at H; exact H
     clear H
     have H := H1
     clear H1
     simp only [Option.some.injEq, Prod.mk.injEq] at H
     obtain ⟨rfl, rfl, rfl⟩ := H
     go_wp2
     go_ret3
     exact ⟨_, _, by first | rfl | (simp [errW_none, errW_some] <;> rfl) | (simp [*, errW_none, errW_some] <;> rfl), by first | exact Kd.pu _ _ _ _ _ | exact Kd.N_nil _ _ _ _ _ | exact Kd.V_nil _ _ _ _ _ | exact Kd.Q_nil _ _ _ _ _ | exact Kd.S_nil _ _ _ _ _, by first | exact Kd.pu _ _ _ _ _ | exact Kd.N_nil _ _ _ _ _ | exact Kd.V_nil _ _ _ _ _ | exact Kd.Q_nil _ _ _ _ _ | exact Kd.S_nil _ _ _ _ _, by repeat (first | (with_reducible first | exact HB.out | apply aM | apply aD | apply aH) | exact HB.out)⟩
    ·replace c8 := Bool.eq_false_iff.mpr c8
     subst c8
     have H1 : ((gK.f kj3 l0 l1).bind fun dR => (if dR < 0 then ((dw.f kj3 l0).bind fun gV => (some (([] : List Int), gV.1, gV.2))) else (if (l1.length : Int) = 1 then (if 0 < (l1.length : Int) then ((df.f kj3 l0 (rd l1 0)).bind fun dM => ((jh.f kj3 dM.2.1).bind fun dD => (some (dM.1, dD, dM.2.2)))) else (none)) else ((bV.f kj3 l0 l1).bind fun jw => (some (jw.1, jw.2, 0)))))) = some (r1, r2, r3) := by rw [if_neg (show ¬ (false = true) by decide)] at H; exact H
     clear H
     have H := H1
     clear H1
     replace H := Option.bind_eq_some_iff.mp H
     obtain ⟨dR, A90, H⟩ := H
     replace H : (if dR < 0 then ((dw.f kj3 l0).bind fun gV => (some (([] : List Int), gV.1, gV.2))) else (if (l1.length : Int) = 1 then (if 0 < (l1.length : Int) then ((df.f kj3 l0 (rd l1 0)).bind fun dM => ((jh.f kj3 dM.2.1).bind fun dD => (some (dM.1, dD, dM.2.2)))) else (none)) else ((bV.f kj3 l0 l1).bind fun jw => (some (jw.1, jw.2, 0))))) = some (r1, r2, r3) := H
     have A9 := ae.mk A90
     clear A90
     by_cases c10 : dR < 0
     ·rw [if_pos c10] at H
      have qf : decide (dR < 0) = true := decide_eq_true c10
      clear c10
      replace H := Option.bind_eq_some_iff.mp H
      obtain ⟨⟨fQ, t105⟩, A110, H⟩ := H
      replace H : (some (([] : List Int), fQ, t105)) = some (r1, r2, r3) := H
      have A11 := ae.mk A110
      clear A110
      simp only [Option.some.injEq, Prod.mk.injEq] at H
      obtain ⟨rfl, rfl, rfl⟩ := H
      go_wp2_with (first | ((with_reducible refine aW (f := 33) rfl ?_); refine cO (some 30) rfl rfl Tryd.func33 (by kernel_rfl) rfl #[.slice A0 l0.length c0, .slice A1 l1.length c1] rfl qt ?_; (with_reducible refine (gK.calls kj3 _ _ l0 _ _ l1 dR _ ?aU ?aV ?bJ ?bK A9.out).mono ?_); (case aU => exact qs ((Kd.dS HR0.out HB.out))); (case aV => exact HC0.out); (case bJ => exact qs ((Kd.dS HR1.out HB.out))); (case bK => exact HC1.out); rintro e w' ⟨rfl, ⟨nd, rfl⟩⟩; refine ⟨_, rfl, ?_⟩) | ((with_reducible refine aW (f := 36) rfl ?_); refine cO (some 34) rfl rfl Tryd.func36 (by kernel_rfl) rfl #[.slice A0 l0.length c0] rfl qt ?_; (with_reducible refine (dw.calls kj3 _ _ l0 fQ t105 _ ?aU ?aV A11.out).mono ?_); (case aU => repeat (first | exact (Kd.dS HR0.out (qw HB)) | (with_reducible refine Kd.q9 ?_ _) | (with_reducible refine Kd.rf ?_ _) | (with_reducible refine Kd.sU ?_))); (case aV => exact HC0.out); rintro e w12 ⟨v106, rfl, ho0, hb⟩; refine ⟨_, rfl, ?_⟩; have gF := ae.mk (Kd.bz ho0 (aN (qw HB))); replace HB := ae.mk (av (qw HB) hb); (try clear hb); (try clear hb2); (try clear hk); (try clear hi); (try clear ho0)))
      go_ret3
      exact ⟨_, _, by first | rfl | (simp [errW_none, errW_some] <;> rfl) | (simp [*, errW_none, errW_some] <;> rfl), by first | exact Kd.pu _ _ _ _ _ | exact Kd.N_nil _ _ _ _ _ | exact Kd.V_nil _ _ _ _ _ | exact Kd.Q_nil _ _ _ _ _ | exact Kd.S_nil _ _ _ _ _, by (with_reducible repeat (first | apply Kd.bu | apply Kd.bv | apply Kd.bg)); exact Kd.bG gF.out (fun _ hk => (by simp [Value.ownBlock])), by repeat (first | (with_reducible first | exact HB.out | apply aM | apply aD | apply aH) | exact HB.out)⟩
     ·rw [if_neg c10] at H
      have qf : decide (dR < 0) = false := decide_eq_false c10
      clear c10
      by_cases c13 : (l1.length : Int) = 1
      ·rw [if_pos c13] at H
       have qg : ((l1.length : Int) == 1) = true := beq_iff_eq.mpr c13
       have zk : ((l1.length : Int) != 1) = false := bne_eq_false_iff_eq.mpr c13
       clear c13
       by_cases c14 : 0 < (l1.length : Int)
       ·rw [if_pos c14] at H
        have xk : decide (0 < (l1.length : Int)) = true := decide_eq_true c14
        have Dr : decide (0 < l1.length) = true := decide_eq_true (by omega)
        clear c14
        replace H := Option.bind_eq_some_iff.mp H
        obtain ⟨⟨t109, bi, kE⟩, A150, H⟩ := H
        replace H : ((jh.f kj3 bi).bind fun dD => (some (t109, dD, kE))) = some (r1, r2, r3) := H
        have A15 := ae.mk A150
        clear A150
        replace H := Option.bind_eq_some_iff.mp H
        obtain ⟨dD, A160, H⟩ := H
        replace H : (some (t109, dD, kE)) = some (r1, r2, r3) := H
        have A16 := ae.mk A160
        clear A160
        simp only [Option.some.injEq, Prod.mk.injEq] at H
        obtain ⟨rfl, rfl, rfl⟩ := H
        go_wp2_with (first | ((with_reducible refine aW (f := 33) rfl ?_); refine cO (some 30) rfl rfl Tryd.func33 (by kernel_rfl) rfl #[.slice A0 l0.length c0, .slice A1 l1.length c1] rfl qt ?_; (with_reducible refine (gK.calls kj3 _ _ l0 _ _ l1 dR _ ?aU ?aV ?bJ ?bK A9.out).mono ?_); (case aU => exact qs ((Kd.dS HR0.out HB.out))); (case aV => exact HC0.out); (case bJ => exact qs ((Kd.dS HR1.out HB.out))); (case bK => exact HC1.out); rintro e w' ⟨rfl, ⟨nd, rfl⟩⟩; refine ⟨_, rfl, ?_⟩; have p108 : 0 ≤ (0 : Int) := (by omega); have q108 : 0 < (l1.length : Int) := of_decide_eq_true qa; obtain ⟨ad108, e108, hx108_0⟩ := Kd.gH HR1.out 0 p108 q108; cases e108; have qi108 : (0 < l1.length) = True := eq_true (by omega); (try rw [show ((0 : Int)).toNat = 0 from rfl] at hx108_0); (try rw [Addr.add_zero'] at hx108_0); replace hx108_0 := (HB.out.cell (World.block_lt_of_cell? w _ hx108_0)).trans hx108_0; replace p108 := eq_true p108; replace q108 := eq_true q108) | ((with_reducible refine aW (f := 59) rfl ?_); refine cO (some 48) rfl rfl Tryd.func59 (by kernel_rfl) rfl #[.slice A0 l0.length c0, .int .u64 (rd l1 0)] rfl qt ?_; (with_reducible refine (df.calls kj3 _ _ l0 (rd l1 0) t109 bi kE _ ?aU ?aV A15.out).mono ?_); (case aU => repeat (first | exact (Kd.dS HR0.out (qw HB)) | (with_reducible refine Kd.q9 ?_ _) | (with_reducible refine Kd.rf ?_ _) | (with_reducible refine Kd.sU ?_))); (case aV => exact HC0.out); rintro e w17 ⟨v112, rfl, ho0, hb⟩; refine ⟨_, rfl, ?_⟩; have il := ae.mk (Kd.bz ho0 (aN (qw HB))); replace HB := ae.mk (av (qw HB) hb); (try clear hb); (try clear hb2); (try clear hk); (try clear hi); (try clear ho0)) | ((with_reducible refine aW (f := 35) rfl ?_); refine cO (some 54) rfl rfl Tryd.func35 (by kernel_rfl) rfl #[.int .u64 bi] rfl qt ?_; (with_reducible refine (jh.calls kj3 bi dD _ A16.out).mono ?_); rintro e w18 ⟨v115, rfl, ho0, hb⟩; refine ⟨_, rfl, ?_⟩; have eG := ae.mk (Kd.bz (Kd.aA ho0 (Kd.aY (qr il))) (aN (qw HB))); replace il := ae.mk (Kd.aj (qr il) (Kd.az ho0) hb); replace HB := ae.mk (av (qw HB) hb); (try clear hb); (try clear hb2); (try clear hk); (try clear hi); (try clear ho0)))
        go_ret3
        exact ⟨_, _, by first | rfl | (simp [errW_none, errW_some] <;> rfl) | (simp [*, errW_none, errW_some] <;> rfl), by (with_reducible repeat (first | apply Kd.bu | apply Kd.bv | apply Kd.bg)); exact Kd.bG il.out (fun _ hk => hk.2), by (with_reducible repeat (first | apply Kd.bu | apply Kd.bv | apply Kd.bg)); exact Kd.bG eG.out (fun _ hk => hk.2), by repeat (first | (with_reducible first | exact HB.out | apply aM | apply aD | apply aH) | exact HB.out)⟩
       ·rw [if_neg c14] at H
        exact absurd H (by simp)
      ·rw [if_neg c13] at H
       have qg : ((l1.length : Int) == 1) = false := beq_eq_false_iff_ne.mpr c13
       have zk : ((l1.length : Int) != 1) = true := bne_iff_ne.mpr c13
       replace H := Option.bind_eq_some_iff.mp H
       obtain ⟨⟨t117, pg⟩, A190, H⟩ := H
       replace H : (some (t117, pg, 0)) = some (r1, r2, r3) := H
       have A19 := ae.mk A190
       clear A190
       simp only [Option.some.injEq, Prod.mk.injEq] at H
       obtain ⟨rfl, rfl, rfl⟩ := H
       go_wp2_with (first | ((with_reducible refine aW (f := 33) rfl ?_); refine cO (some 30) rfl rfl Tryd.func33 (by kernel_rfl) rfl #[.slice A0 l0.length c0, .slice A1 l1.length c1] rfl qt ?_; (with_reducible refine (gK.calls kj3 _ _ l0 _ _ l1 dR _ ?aU ?aV ?bJ ?bK A9.out).mono ?_); (case aU => exact qs ((Kd.dS HR0.out HB.out))); (case aV => exact HC0.out); (case bJ => exact qs ((Kd.dS HR1.out HB.out))); (case bK => exact HC1.out); rintro e w' ⟨rfl, ⟨nd, rfl⟩⟩; refine ⟨_, rfl, ?_⟩) | ((with_reducible refine aW (f := 60) rfl ?_); refine cO (some 59) rfl rfl Tryd.func60 (by kernel_rfl) rfl #[.slice A0 l0.length c0, .slice A1 l1.length c1] rfl qt ?_; (with_reducible refine (bV.calls kj3 _ _ l0 _ _ l1 t117 pg _ ?aU ?aV ?bJ ?bK A19.out).mono ?_); (case aU => repeat (first | exact (Kd.dS HR0.out (qw HB)) | (with_reducible refine Kd.q9 ?_ _) | (with_reducible refine Kd.rf ?_ _) | (with_reducible refine Kd.sU ?_))); (case aV => exact HC0.out); (case bJ => repeat (first | exact (Kd.dS HR1.out (qw HB)) | (with_reducible refine Kd.q9 ?_ _) | (with_reducible refine Kd.rf ?_ _) | (with_reducible refine Kd.sU ?_))); (case bK => exact HC1.out); rintro e w20 ⟨v119, v121, rfl, ho0, ho1, hb⟩; refine ⟨_, rfl, ?_⟩; have iJ := ae.mk (Kd.bz ho0 (aN (qw HB))); have oH := ae.mk (Kd.bz ho1 (aN (qw HB))); replace HB := ae.mk (av (qw HB) hb); (try clear hb); (try clear hb2); (try clear hk); (try clear hi); (try clear ho0); (try clear ho1)))
       go_ret3
       exact ⟨_, _, by first | rfl | (simp [errW_none, errW_some] <;> rfl) | (simp [*, errW_none, errW_some] <;> rfl), by (with_reducible repeat (first | apply Kd.bu | apply Kd.bv | apply Kd.bg)); exact iJ.out, by (with_reducible repeat (first | apply Kd.bu | apply Kd.bv | apply Kd.bg)); exact oH.out, by repeat (first | (with_reducible first | exact HB.out | apply aM | apply aD | apply aH) | exact HB.out)⟩
end Go.Proofs.YthfphdbebnkdpaaDoor.P
end
section
set_option linter.unusedVariables false
set_option linter.unusedSimpArgs false
namespace Go.Proofs.YthfphdbebnkdpaaDoor.Pn
open Go.Proofs.YthfphdbebnkdpaaDoor.P Go.Proofs.YthfphdbebnkdpaaDoorW.aZ Go.Proofs.YthfphdbebnkdpaaDoorW.bL Go.RowKit
theorem BA (a : Nat) : Ev (fun k => fI.f k (dg a) (dg 0)) ([], [], 3) := by
  rw [iL]
  refine Ev.now' fun k => ?_
  rw [fI.f, if_pos (show ((([] : List Int).length : Nat) : Int) = 0 from rfl)]
theorem EO (a b : Nat) (hb : b ≠ 0) (hla : (dg a).length ≤ 900000) (hlb : (dg b).length ≤ 900000) : Ev (fun k => fI.f k (dg a) (dg b)) (dg (a / b), dg (a % b), 0) := by
  have hl0 : ¬ ((dg b).length : Int) = 0 := by
    intro h
    exact hb (pO.1 (List.eq_nil_of_length_eq_zero (by omega)))
  have m1 := AP a (Nat.le_trans hla (by decide))
  have m2 := AP b (Nat.le_trans hlb (by decide))
  refine Ev.congr (f := fun k => (iT.f k (dg a)).bind fun fM => (if fM = true then ((iT.f k (dg b)).bind fun dK => (fI.j0 k (dg a) (dg b) (!dK))) else (fI.j0 k (dg a) (dg b) true))) (fun k => ?_) (Ev.bind m1 (Ev.congr (f := fun k => (iT.f k (dg b)).bind fun dK => (fI.j0 k (dg a) (dg b) (!dK))) (fun k => ?_) (Ev.bind (f := fun k dK => fI.j0 k (dg a) (dg b) (!dK)) m2 ?_)))
  · rw [fI.f, if_neg hl0]
  · rw [if_pos rfl]
  have hc := wI a b (Nat.le_trans hla (by decide)) (Nat.le_trans hlb (by decide))
  refine Ev.step (f := fun k => (gK.f k (dg a) (dg b)).bind fun dR => (if dR < 0 then ((dw.f k (dg a)).bind fun gV => (some (([] : List Int), gV.1, gV.2))) else (if ((dg b).length : Int) = 1 then (if 0 < ((dg b).length : Int) then ((df.f k (dg a) (rd (dg b) 0)).bind fun dM => ((jh.f k dM.2.1).bind fun dD => (some (dM.1, dD, dM.2.2)))) else (none)) else ((bV.f k (dg a) (dg b)).bind fun jw => (some (jw.1, jw.2, 0)))))) (fun k => ?_) (Ev.bind hc ?_)
  · rw [fI.j0, if_neg (by decide)]
  unfold qN
  by_cases hlt : a < b
  · rw [if_pos hlt, Nat.div_eq_of_lt hlt, Nat.mod_eq_of_lt hlt, iL]
    refine Ev.congr (f := fun k => (dw.f k (dg a)).bind fun gV => (some (([] : List Int), gV.1, gV.2))) (fun k => ?_) (Ev.bind (f := fun _ gV => (some (([] : List Int), gV.1, gV.2))) (yZ a (Nat.le_trans hla (by decide))) (Ev.now _))
    rw [if_pos (by decide)]
  · have hng : ¬ (if a < b then (-1 : Int) else if b < a then 1 else 0) < 0 := by
      rw [if_neg hlt]; split <;> decide
    by_cases h1 : (dg b).length = 1
    · have hbB : b < 4294967296 := by have := qL b; rw [h1, Nat.pow_one] at this; exact this
      have hrd : rd (dg b) 0 = (b : Int) := by
        rw [show (0 : Int) = ((0 : Nat) : Int) from rfl, gZ, si, Nat.pow_zero, Nat.div_one, Nat.mod_eq_of_lt hbB]
      have hs := AZ a b (Nat.le_trans hla (by decide)) (Nat.pos_of_ne_zero hb) hbB
      have ho := xm (a % b) (Nat.lt_trans (Nat.mod_lt _ (Nat.pos_of_ne_zero hb)) (Nat.lt_trans hbB (by decide)))
      refine Ev.congr (f := fun k => (df.f k (dg a) (b : Int)).bind fun dM => ((jh.f k dM.2.1).bind fun dD => (some (dM.1, dD, dM.2.2)))) (fun k => ?_)
        (Ev.bind (f := fun k dM => ((jh.f k dM.2.1).bind fun dD => (some (dM.1, dD, dM.2.2)))) hs (Ev.bind (f := fun _ dD => some (dg (a / b), dD, (0 : Int))) ho (Ev.now _)))
      rw [if_neg hng, h1, if_pos (show ((1 : Nat) : Int) = 1 from rfl), if_pos (show (0 : Int) < ((1 : Nat) : Int) from by decide), hrd]
    · obtain ⟨n, hn⟩ : ∃ n, (dg b).length = n + 2 := ⟨(dg b).length - 2, by clear m1 m2 hc; omega⟩
      have hk := Bz a b n hn (jr (Nat.le_of_not_lt hlt)) hla
      refine Ev.congr (f := fun k => (bV.f k (dg a) (dg b)).bind fun jw => (some (jw.1, jw.2, 0))) (fun k => ?_) (Ev.bind (f := fun _ jw => some (jw.1, jw.2, (0 : Int))) hk (Ev.now _))
      rw [if_neg hng, if_neg (show ¬ ((dg b).length : Int) = 1 from fun h => h1 (Int.ofNat_inj.1 h))]
end Go.Proofs.YthfphdbebnkdpaaDoor.Pn
end
section
namespace Go.Proofs.YthfphdbebnkdpaaDoor.P
open Go.RowKit Go.Proofs.YthfphdbebnkdpaaDoorW.aZ Go.Proofs.YthfphdbebnkdpaaDoorW.bL Go.Proofs.YthfphdbebnkdpaaDoorW.dC
attribute [local go_sem] dZ d9 fA fB dH dI ed ek
set_option linter.unusedVariables false
set_option linter.unusedSimpArgs false
def aX.f (k : Nat) (a0 : Bool) (l1 : List Int) : Option (Bool × List Int) := (dw.f k l1).bind fun kU => (if a0 = true then (some (decide (0 < kU.1.length), kU.1)) else (some (false, kU.1)))
set_option maxHeartbeats 8000000 in
set_option maxRecDepth 100000 in
theorem aX.calls (k : Nat) (a0 : Bool) (A1 : Option Addr) (c1 : Nat) (l1 : List Int) (r1 : Bool) (r2 : List Int) (w : World) (hr1 : Kd.C (Kd.int .u64) w A1 l1.length l1) (hc1 : l1.length ≤ c1) (h : aX.f k a0 l1 = some (r1, r2)) :
  Calls Tryd.prog 15 #[.bool a0, .slice A1 l1.length c1] w fun e w' => ∃ v1_ : Value, e = .returned (.agg #[.bool r1, v1_]) ∧ Kd.R (Kd.int .u64) 64 w' w.heap.size (fun _ => True) v1_ r2 ∧ Below w.heap.size w w' := by
 have hu25 := Tryd.underlying25
 have HR1 := ae.mk hr1
 have HC1 := ae.mk hc1
 clear hr1 hc1
 have HB := ae.mk (Below.refl w.heap.size w)
 have H : ((dw.f k l1).bind fun kU => (if a0 = true then (some (decide (0 < kU.1.length), kU.1)) else (some (false, kU.1)))) = some (r1, r2) := h
 clear h
 replace H := Option.bind_eq_some_iff.mp H
 obtain ⟨⟨dK, dR⟩, A30, H⟩ := H
 replace H : (if a0 = true then (some (decide (0 < dK.length), dK)) else (some (false, dK))) = some (r1, r2) := H
 have A3 := ae.mk A30
 clear A30
 by_cases c4 : a0 = true
 ·subst c4
  have H1 : (some (decide (0 < dK.length), dK)) = some (r1, r2) := by rw [if_pos rfl] at H; exact H
  clear H
  have H := H1
  clear H1
  simp only [Option.some.injEq, Prod.mk.injEq] at H
  obtain ⟨rfl, rfl⟩ := H
  go_enter Tryd.func15, Tryd.ntmps15
  go_wp2_with (first | ((with_reducible refine bR (N := 4) rfl ?_); (try (refine iw (by rfl) ?_; dsimp only)); refine bS ?hg (N := 4) ?hd (cs := #[.bool false, .slice none 0 0]) (t := 25) ?hr ?_; (case hd => rfl); (case hg => rfl); (case hr => first | (go_simp; done) | (go_simp; rfl)); intro bM hg w5 hbox hb; have ai := ae.mk (hbox); have GW101 := qge HB hg; have gB := qge HB hg; replace HB := ae.mk (av (qw HB) hb); clear hb hbox hg) | ((with_reducible refine aW (f := 36) rfl ?_); refine cO (some 9) rfl rfl Tryd.func36 (by kernel_rfl) rfl #[.slice A1 l1.length c1] rfl qt ?_; (with_reducible refine (dw.calls k _ _ l1 dK dR _ ?aU ?aV A3.out).mono ?_); (case aU => exact qs ((Kd.dS HR1.out HB.out))); (case aV => exact HC1.out); rintro e w6 ⟨v104, rfl, ho0, hb⟩; refine ⟨_, rfl, ?_⟩; have qU := ae.mk (Kd.bz ho0 (aN (qw HB))); replace ai := qbb ai hb; replace HB := ae.mk (av (qw HB) hb); (try clear hb); (try clear hb2); (try clear hk); (try clear hi); (try clear ho0); obtain ⟨Ao7, co7, eo7⟩ := Kd.bD qU.out; subst eo7; have hcz8_0 : w6.cell? ⟨bM, 0, none⟩ = some (.bool false) := (af ai.out 0).trans rfl; have hcz8_1 : w6.cell? ⟨bM, 1, none⟩ = some (.slice none 0 0) := (af ai.out 1).trans rfl; have hfz8_0 := aK ai.out 0; have hfz8_1 := aK ai.out 1))
  refine bodyPost_ret (results_cell_row rfl _ _ bM 25 #[.bool (decide (0 < dK.length)), .slice Ao7 dK.length co7] (0, 0) _ rfl (by refine dG (cs := #[.bool (decide (0 < dK.length)), .slice none 0 0]) ?_ 1 _ rfl; refine dG (cs := #[.bool false, .slice none 0 0]) ?_ 0 _ rfl; (with_reducible repeat (first | refine bP ?_ _ | refine bf ?_ | refine bO ?_ _)); exact ai.out) Tryd.underlying25 rfl (by kernel_rfl)) rfl ?_
  exact ⟨_, by first | rfl | (simp [errW_none, errW_some] <;> rfl) | (simp [*, errW_none, errW_some] <;> rfl), by (with_reducible repeat (first | apply Kd.bu | apply Kd.bv | apply Kd.bg)); exact Kd.bG (Kd.bH (p := ⟨bM, 1, none⟩) (Kd.bH (p := ⟨bM, 0, none⟩) (Kd.bU qU.out ai.out (by decide)) (fun _ hk => hk.2) (.bool (decide (0 < dK.length)))) (fun _ hk => hk.2) (.slice Ao7 dK.length co7)) (fun _ hk => trivial), by repeat (first | (with_reducible first | exact HB.out | apply aM | apply aD | apply aH | refine aQ ?_ gB.out) | exact HB.out)⟩
 ·replace c4 := Bool.eq_false_iff.mpr c4
  subst c4
  have H1 : (some (false, dK)) = some (r1, r2) := by rw [if_neg (show ¬ (false = true) by decide)] at H; exact H
  clear H
  have H := H1
  clear H1
  simp only [Option.some.injEq, Prod.mk.injEq] at H
  obtain ⟨rfl, rfl⟩ := H
  go_enter Tryd.func15, Tryd.ntmps15
  go_wp2_with (first | ((with_reducible refine bR (N := 4) rfl ?_); (try (refine iw (by rfl) ?_; dsimp only)); refine bS ?hg (N := 4) ?hd (cs := #[.bool false, .slice none 0 0]) (t := 25) ?hr ?_; (case hd => rfl); (case hg => rfl); (case hr => first | (go_simp; done) | (go_simp; rfl)); intro bM hg w9 hbox hb; have ai := ae.mk (hbox); have GW101 := qge HB hg; have gB := qge HB hg; replace HB := ae.mk (av (qw HB) hb); clear hb hbox hg) | ((with_reducible refine aW (f := 36) rfl ?_); refine cO (some 9) rfl rfl Tryd.func36 (by kernel_rfl) rfl #[.slice A1 l1.length c1] rfl qt ?_; (with_reducible refine (dw.calls k _ _ l1 dK dR _ ?aU ?aV A3.out).mono ?_); (case aU => exact qs ((Kd.dS HR1.out HB.out))); (case aV => exact HC1.out); rintro e w10 ⟨v104, rfl, ho0, hb⟩; refine ⟨_, rfl, ?_⟩; have qU := ae.mk (Kd.bz ho0 (aN (qw HB))); replace ai := qbb ai hb; replace HB := ae.mk (av (qw HB) hb); (try clear hb); (try clear hb2); (try clear hk); (try clear hi); (try clear ho0); obtain ⟨vS, vT, yH⟩ := Kd.bD qU.out; subst yH; have hcz12_0 : w10.cell? ⟨bM, 0, none⟩ = some (.bool false) := (af ai.out 0).trans rfl; have hcz12_1 : w10.cell? ⟨bM, 1, none⟩ = some (.slice none 0 0) := (af ai.out 1).trans rfl; have hfz12_0 := aK ai.out 0; have hfz12_1 := aK ai.out 1))
  refine bodyPost_ret (results_cell_row rfl _ _ bM 25 #[.bool false, .slice vS dK.length vT] (0, 0) _ rfl (by refine dG (cs := #[.bool false, .slice none 0 0]) ?_ 1 _ rfl; refine dG (cs := #[.bool false, .slice none 0 0]) ?_ 0 _ rfl; (with_reducible repeat (first | refine bP ?_ _ | refine bf ?_ | refine bO ?_ _)); exact ai.out) Tryd.underlying25 rfl (by kernel_rfl)) rfl ?_
  exact ⟨_, by first | rfl | (simp [errW_none, errW_some] <;> rfl) | (simp [*, errW_none, errW_some] <;> rfl), by (with_reducible repeat (first | apply Kd.bu | apply Kd.bv | apply Kd.bg)); exact Kd.bG (Kd.bH (p := ⟨bM, 1, none⟩) (Kd.bH (p := ⟨bM, 0, none⟩) (Kd.bU qU.out ai.out (by decide)) (fun _ hk => hk.2) (.bool false)) (fun _ hk => hk.2) (.slice vS dK.length vT)) (fun _ hk => trivial), by repeat (first | (with_reducible first | exact HB.out | apply aM | apply aD | apply aH | refine aQ ?_ gB.out) | exact HB.out)⟩
end Go.Proofs.YthfphdbebnkdpaaDoor.P
end
section
namespace Go.Proofs.YthfphdbebnkdpaaDoor.P
open Go.RowKit Go.Proofs.YthfphdbebnkdpaaDoorW.aZ Go.Proofs.YthfphdbebnkdpaaDoorW.bL Go.Proofs.YthfphdbebnkdpaaDoorW.dC
attribute [local go_sem] dZ d9 fA fB dH dI ed ek
set_option linter.unusedVariables false
set_option linter.unusedSimpArgs false
def bE.f (k : Nat) (dJ : Bool) (cK : List Int) (dX : Bool) (dY : List Int) : Option (Bool × List Int) := if (dJ == dX) = true then ((dU.f k cK dY).bind fun fQ => ((aX.f k dJ fQ).bind fun iM => (some (iM.1, iM.2)))) else ((dx.f k cK dY).bind fun kr => (if kr.2 = 0 then ((aX.f k dJ kr.1).bind fun pI => (some (pI.1, pI.2))) else ((dx.f k dY cK).bind fun nW => ((aX.f k dX nW.1).bind fun j4 => (some (j4.1, j4.2))))))
def bE.T2 : Bool × List (List Nat × List Nat) := (true, [([], []), ([0], [0]), ([], []), ([2], [2]), ([], []), ([4], [4]), ([3, 5], [3, 5]), ([1, 6, 6], [1, 6]), ([7, 7, 0, 1, 2, 3, 4, 5, 6, 7], [7])])
def bE.B2 : List Nat := [0, 1, 0, 4, 0, 16, 60, 127, 255]
theorem bE.Ep : mi .any (opsOf Tryd.f9 2) = bE.T2 := by kernel_rfl
theorem bE.AQ : kJ bE.T2.2 bE.B2 = true := by kernel_rfl
set_option maxHeartbeats 8000000 in
set_option maxRecDepth 100000 in
theorem bE.calls (k : Nat) (dJ : Bool) (gy : Option Addr) (c0_1 : Nat) (cK : List Int) (dX : Bool) (iq : Option Addr) (c1_1 : Nat) (dY : List Int) (r1 : Bool) (r2 : List Int) (w : World) (hr0_1 : Kd.C (Kd.int .u64) w gy cK.length cK) (hc0_1 : cK.length ≤ c0_1) (hr1_1 : Kd.C (Kd.int .u64) w iq dY.length dY) (hc1_1 : dY.length ≤ c1_1) (h : bE.f k dJ cK dX dY = some (r1, r2)) :
  Calls Tryd.prog 9 #[.agg #[.bool dJ, .slice gy cK.length c0_1], .agg #[.bool dX, .slice iq dY.length c1_1]] w fun e w' => ∃ v1_ : Value, e = .returned (.agg #[.bool r1, v1_]) ∧ Kd.R (Kd.int .u64) 64 w' w.heap.size (fun _ => True) v1_ r2 ∧ Below w.heap.size w w' := by
 have hu25 := Tryd.underlying25
 have ku := ae.mk hr0_1
 have kv := ae.mk hc0_1
 clear hr0_1 hc0_1
 have ny := ae.mk hr1_1
 have nz := ae.mk hc1_1
 clear hr1_1 hc1_1
 have HB := ae.mk (Below.refl w.heap.size w)
 have H : (if (dJ == dX) = true then ((dU.f k cK dY).bind fun fQ => ((aX.f k dJ fQ).bind fun iM => (some (iM.1, iM.2)))) else ((dx.f k cK dY).bind fun kr => (if kr.2 = 0 then ((aX.f k dJ kr.1).bind fun pI => (some (pI.1, pI.2))) else ((dx.f k dY cK).bind fun nW => ((aX.f k dX nW.1).bind fun j4 => (some (j4.1, j4.2))))))) = some (r1, r2) := h
 clear h
 by_cases c3 : (dJ == dX) = true
 ·rw [if_pos c3] at H
  have nE : (dJ == dX) = true := c3
  (try (have qD : decide (dJ = dX) = true := by simpa using c3))
  (try (have xA : (dJ == dX) = true := by simpa using c3))
  clear c3
  replace H := Option.bind_eq_some_iff.mp H
  obtain ⟨fQ, A40, H⟩ := H
  replace H : ((aX.f k dJ fQ).bind fun iM => (some (iM.1, iM.2))) = some (r1, r2) := H
  have A4 := ae.mk A40
  clear A40
  replace H := Option.bind_eq_some_iff.mp H
  obtain ⟨⟨t107, jM⟩, A50, H⟩ := H
  replace H : (some (t107, jM)) = some (r1, r2) := H
  have A5 := ae.mk A50
  clear A50
  simp only [Option.some.injEq, Prod.mk.injEq] at H
  obtain ⟨rfl, rfl⟩ := H
  go_enter Tryd.func9, Tryd.ntmps9
  try go_wp2_with (first | ((with_reducible refine bR (N := 2) rfl ?_); refine bS ?hg (N := 2) ?hd (cs := #[.bool dJ, .slice gy cK.length c0_1]) (t := 25) ?hr ?_; (case hd => rfl); (case hg => rfl); (case hr => first | (go_simp; done) | (go_simp; rfl)); intro bM hg w6 hbox hb; have ai := ae.mk (hbox); have GW101 := qge HB hg; have gB := qge HB hg; replace HB := ae.mk (av (qw HB) hb); clear hb hbox hg) | ((with_reducible refine bR (N := 3) rfl ?_); refine bS ?hg (N := 3) ?hd (cs := #[.bool dX, .slice iq dY.length c1_1]) (t := 25) ?hr ?_; (case hd => rfl); (case hg => rfl); (case hr => first | (go_simp; done) | (go_simp; rfl)); intro cu hg w7 hbox hb; have au := ae.mk (hbox); have GW102 := qge HB hg; have ib := qge HB hg; replace HB := ae.mk (av (qw HB) hb); have eD := qnl ai hg; have eF := qng ai hg; replace ai := qbb ai hb; clear hb hbox hg) | ((with_reducible refine bR (N := 4) rfl ?_); refine bS ?hg (N := 4) ?hd (cs := #[.bool false, .slice none 0 0]) (t := 25) ?hr ?_; (case hd => rfl); (case hg => rfl); (case hr => first | (go_simp; done) | (go_simp; rfl)); intro cB hg w8 hbox hb; have aJ := ae.mk (hbox); have GW103 := qge HB hg; have jB := qge HB hg; replace HB := ae.mk (av (qw HB) hb); have dm := qnl ai hg; have eZ := qng ai hg; replace ai := qbb ai hb; have dh := qnl au hg; have eX := qng au hg; replace au := qbb au hb; clear hb hbox hg; have hnb9 := eD.out; have hnc9 := eF.out; have hnb10 := dm.out; have hnc10 := eZ.out; have hcz11_0 : w8.cell? ⟨bM, 0, none⟩ = some (.bool dJ) := (af ai.out 0).trans rfl; have hcz11_1 : w8.cell? ⟨bM, 1, none⟩ = some (.slice gy cK.length c0_1) := (af ai.out 1).trans rfl; have hfz11_0 := aK ai.out 0; have hfz11_1 := aK ai.out 1; have hnb12 := dh.out; have hnc12 := eX.out; have hcz13_0 : w8.cell? ⟨cu, 0, none⟩ = some (.bool dX) := (af au.out 0).trans rfl; have hcz13_1 : w8.cell? ⟨cu, 1, none⟩ = some (.slice iq dY.length c1_1) := (af au.out 1).trans rfl; have hfz13_0 := aK au.out 0; have hfz13_1 := aK au.out 1))
  replace ai := ae.mk (bf ai.out)
  replace au := ae.mk (bf au.out)
  replace aJ := ae.mk (bf aJ.out)
  replace HB := ae.mk (aH HB.out)
  refine j6 (n := 9) (S := fun w' => w'.cell? ⟨bM, 0, none⟩ = some (.bool dJ) ∧ w'.cell? ⟨bM, 1, none⟩ = some (.slice gy cK.length c0_1) ∧ w'.cell? ⟨cu, 0, none⟩ = some (.bool dX) ∧ w'.cell? ⟨cu, 1, none⟩ = some (.slice iq dY.length c1_1)) (ds := []) #[bF,bF,bF,bF,bF,bF,bF,bF,bF] (by kernel_rfl) rfl rfl ⟨(af ai.out 0).trans rfl, (af ai.out 1).trans rfl, (af au.out 0).trans rfl, (af au.out 1).trans rfl⟩ (fun hHeld => ?_); refine iQ bE.Ep bE.AQ (fun HT_ HW_ => ?_)
  generalize w8.drew = w14 at ai au aJ HB hHeld ⊢
  refine cZ 0 (some 14) HT_ ?_
  refine cZ 2 (some 16) HT_ ?_
  refine cZ 4 (some 18) HT_ ?_
  refine eU 1 (some 15) HT_ HW_ hHeld ?_
  refine eU 3 (some 17) HT_ HW_ hHeld ?_
  refine eU 5 (some 19) HT_ HW_ hHeld ?_
  refine gU 6 (some 20) HT_ (fun K hK => ?_)
  refine fo Tryd.func29 #[.slice gy cK.length c0_1, .slice iq dY.length c1_1] ?_
  with_reducible refine (dU.calls k _ _ cK _ _ dY fQ _ ?aU ?aV ?bJ ?bK A4.out).mono ?_
  (case aU => exact qs ((Kd.dS ku.out HB.out)))
  (case aV => exact kv.out)
  (case bJ => exact qs ((Kd.dS ny.out HB.out)))
  (case bK => exact nz.out)
  rintro e w15 ⟨v105, rfl, ho0, hb⟩
  refine ⟨_, rfl, ?_⟩
  have jO := ae.mk (Kd.bz ho0 (aN (qw HB)))
  replace ai := qbb ai hb
  replace au := qbb au hb
  replace aJ := qbb aJ hb
  replace HB := ae.mk (av (qw HB) hb)
  (try clear hb)
  (try clear hb2)
  (try clear hk)
  (try clear hi)
  (try clear ho0)
  obtain ⟨BB, zP, wH⟩ := Kd.bD jO.out
  (first | subst wH | (injection wH with f1_ f2_ f3_; have f4_ := f1_.symm; have f5_ := f3_.symm; clear f1_ f2_ f3_; subst f4_; subst f5_))
  refine hK.out _ _ ⟨(af ai.out 0).trans rfl, (af ai.out 1).trans rfl, (af au.out 0).trans rfl, (af au.out 1).trans rfl⟩ (fun hHeld => ?_)
  clear hK K
  refine eY (some 20) ?_
  refine gU 7 (some 21) HT_ (fun K hK => ?_)
  refine fo Tryd.func15 #[.bool dJ, .slice BB fQ.length zP] ?_
  with_reducible refine (aX.calls k dJ _ _ fQ t107 jM _ ?aU ?aV A5.out).mono ?_
  (case aU => exact qs ((Kd.ak jO.out).2.2))
  (case aV => exact (Kd.ak jO.out).2.1)
  rintro e w17 ⟨v109, rfl, ho0, hb⟩
  refine ⟨_, rfl, ?_⟩
  have oD := ae.mk (Kd.bz (Kd.aA ho0 (Kd.aY (qr jO))) (aN (qw HB)))
  replace jO := ae.mk (Kd.aj (qr jO) (Kd.az ho0) hb)
  replace ai := qbb ai hb
  replace au := qbb au hb
  replace aJ := qbb aJ hb
  replace HB := ae.mk (av (qw HB) hb)
  (try clear hb)
  (try clear hb2)
  (try clear hk)
  (try clear hi)
  (try clear ho0)
  obtain ⟨fH, fE, tq⟩ := Kd.bD oD.out
  (first | subst tq | (injection tq with f1_ f2_ f3_; have f4_ := f1_.symm; have f5_ := f3_.symm; clear f1_ f2_ f3_; subst f4_; subst f5_))
  refine hK.out _ _ ⟨(af ai.out 0).trans rfl, (af ai.out 1).trans rfl, (af au.out 0).trans rfl, (af au.out 1).trans rfl⟩ (fun hHeld => ?_)
  clear hK K
  refine eY (some 21) ?_
  refine gU 8 (none) HT_ (fun K hK => ?_)
  have hs18 : w17.cell? ⟨cB, 0, none⟩ = some (.bool false) := (af aJ.out 0).trans rfl
  have hfs18 := aK aJ.out 0
  have hns18_0 := dm.out
  have hns18_1 := dh.out
  have hms18_0 := eZ.out
  have hms18_1 := eX.out
  have hs20 : w17.cell? ⟨cB, 1, none⟩ = some (.slice none 0 0) := (af aJ.out 1).trans rfl
  have hfs20 := aK aJ.out 1
  have hns20_0 := dm.out
  have hns20_1 := dh.out
  have hms20_0 := eZ.out
  have hms20_1 := eX.out
  refine pX (w1 := ?_) (by rfl) rfl ?_ ?_
  rotate_left
  ·go_simp
   rfl
  refine hK.out _ _ ⟨((cell_far (p := ⟨cB, _, none⟩) dm.out _).trans (((cell_far (p := ⟨cB, _, none⟩) dm.out _).trans (hHeld.1)))), ((cell_far (p := ⟨cB, _, none⟩) dm.out _).trans (((cell_far (p := ⟨cB, _, none⟩) dm.out _).trans (hHeld.2.1)))), ((cell_far (p := ⟨cB, _, none⟩) dh.out _).trans (((cell_far (p := ⟨cB, _, none⟩) dh.out _).trans (hHeld.2.2.1)))), ((cell_far (p := ⟨cB, _, none⟩) dh.out _).trans (((cell_far (p := ⟨cB, _, none⟩) dh.out _).trans (hHeld.2.2.2))))⟩ (fun hHeld => ?_)
  clear hK K
  refine nM HT_ ?_
  try go_wp2
  refine bodyPost_ret (results_cell_row rfl _ _ cB 25 #[.bool t107, .slice fH jM.length fE] (0, 0) _ rfl (by refine dG (cs := #[.bool t107, .slice none 0 0]) ?_ 1 _ rfl; refine dG (cs := #[.bool false, .slice none 0 0]) ?_ 0 _ rfl; (with_reducible repeat (first | refine bP ?_ _ | refine bf ?_ | refine bO ?_ _)); exact aJ.out) Tryd.underlying25 rfl (by kernel_rfl)) rfl ?_
  exact ⟨_, by first | rfl | (simp [errW_none, errW_some] <;> rfl) | (simp [*, errW_none, errW_some] <;> rfl), by (with_reducible repeat (first | apply Kd.bu | apply Kd.bv | apply Kd.bg)); exact Kd.bG (Kd.bH (p := ⟨cB, 1, none⟩) (Kd.bH (p := ⟨cB, 0, none⟩) (Kd.bU oD.out aJ.out (by decide)) (fun _ hk => hk.2) (.bool t107)) (fun _ hk => hk.2) (.slice fH jM.length fE)) (fun _ hk => trivial), by repeat (first | (with_reducible first | exact HB.out | apply aM | apply aD | apply aH | refine aQ ?_ gB.out | refine aQ ?_ ib.out | refine aQ ?_ jB.out) | exact HB.out)⟩
 ·rw [if_neg c3] at H
  have nE : (dJ == dX) = false := by simpa using c3
  (try (have qD : decide (dJ = dX) = false := by simpa using c3))
  (try (have xA : (dJ == dX) = false := by simpa using c3))
  (try (have JE : ¬ (dJ = dX) := by simpa using c3))
  clear c3
  replace H := Option.bind_eq_some_iff.mp H
  obtain ⟨⟨kE, nY⟩, A210, H⟩ := H
  replace H : (if nY = 0 then ((aX.f k dJ kE).bind fun pI => (some (pI.1, pI.2))) else ((dx.f k dY cK).bind fun nW => ((aX.f k dX nW.1).bind fun j4 => (some (j4.1, j4.2))))) = some (r1, r2) := H
  have A21 := ae.mk A210
  clear A210
  by_cases c22 : nY = 0
  ·rw [if_pos c22] at H
   have AY : (nY == 0) = true := beq_iff_eq.mpr c22
   have Gn : (nY != 0) = false := bne_eq_false_iff_eq.mpr c22
   clear c22
   replace H := Option.bind_eq_some_iff.mp H
   obtain ⟨⟨lw, t116⟩, A230, H⟩ := H
   replace H : (some (lw, t116)) = some (r1, r2) := H
   have A23 := ae.mk A230
   clear A230
   simp only [Option.some.injEq, Prod.mk.injEq] at H
   obtain ⟨rfl, rfl⟩ := H
   go_enter Tryd.func9, Tryd.ntmps9
   go_wp2_with (first | ((with_reducible refine bR (N := 2) rfl ?_); refine bS ?hg (N := 2) ?hd (cs := #[.bool dJ, .slice gy cK.length c0_1]) (t := 25) ?hr ?_; (case hd => rfl); (case hg => rfl); (case hr => first | (go_simp; done) | (go_simp; rfl)); intro bM hg w24 hbox hb; have ai := ae.mk (hbox); have GW101 := qge HB hg; have gB := qge HB hg; replace HB := ae.mk (av (qw HB) hb); clear hb hbox hg) | ((with_reducible refine bR (N := 3) rfl ?_); refine bS ?hg (N := 3) ?hd (cs := #[.bool dX, .slice iq dY.length c1_1]) (t := 25) ?hr ?_; (case hd => rfl); (case hg => rfl); (case hr => first | (go_simp; done) | (go_simp; rfl)); intro cu hg w25 hbox hb; have au := ae.mk (hbox); have GW102 := qge HB hg; have ib := qge HB hg; replace HB := ae.mk (av (qw HB) hb); have eD := qnl ai hg; have eF := qng ai hg; replace ai := qbb ai hb; clear hb hbox hg) | ((with_reducible refine bR (N := 4) rfl ?_); refine bS ?hg (N := 4) ?hd (cs := #[.bool false, .slice none 0 0]) (t := 25) ?hr ?_; (case hd => rfl); (case hg => rfl); (case hr => first | (go_simp; done) | (go_simp; rfl)); intro cB hg w26 hbox hb; have aJ := ae.mk (hbox); have GW103 := qge HB hg; have jB := qge HB hg; replace HB := ae.mk (av (qw HB) hb); have dm := qnl ai hg; have eZ := qng ai hg; replace ai := qbb ai hb; have dh := qnl au hg; have eX := qng au hg; replace au := qbb au hb; clear hb hbox hg; have hnb27 := eD.out; have hnc27 := eF.out; have hnb28 := dm.out; have hnc28 := eZ.out; have hcz29_0 : w26.cell? ⟨bM, 0, none⟩ = some (.bool dJ) := (af ai.out 0).trans rfl; have hcz29_1 : w26.cell? ⟨bM, 1, none⟩ = some (.slice gy cK.length c0_1) := (af ai.out 1).trans rfl; have hfz29_0 := aK ai.out 0; have hfz29_1 := aK ai.out 1; have hnb30 := dh.out; have hnc30 := eX.out; have hcz31_0 : w26.cell? ⟨cu, 0, none⟩ = some (.bool dX) := (af au.out 0).trans rfl; have hcz31_1 : w26.cell? ⟨cu, 1, none⟩ = some (.slice iq dY.length c1_1) := (af au.out 1).trans rfl; have hfz31_0 := aK au.out 0; have hfz31_1 := aK au.out 1) | ((with_reducible refine aW (f := 30) rfl ?_); refine cO (some 27) rfl rfl Tryd.func30 (by kernel_rfl) rfl #[.slice gy cK.length c0_1, .slice iq dY.length c1_1] rfl qt ?_; (with_reducible refine (dx.calls k _ _ cK _ _ dY kE nY _ ?aU ?aV ?bJ ?bK A21.out).mono ?_); (case aU => exact qs ((Kd.dS ku.out HB.out))); (case aV => exact kv.out); (case bJ => exact qs ((Kd.dS ny.out HB.out))); (case bK => exact nz.out); rintro e w32 ⟨v113, rfl, ho0, hb⟩; refine ⟨_, rfl, ?_⟩; have jH := ae.mk (Kd.bz ho0 (aN (qw HB))); replace ai := qbb ai hb; replace au := qbb au hb; replace aJ := qbb aJ hb; replace HB := ae.mk (av (qw HB) hb); (try clear hb); (try clear hb2); (try clear hk); (try clear hi); (try clear ho0); have hcz33_0 : w32.cell? ⟨bM, 0, none⟩ = some (.bool dJ) := (af ai.out 0).trans rfl; have hcz33_1 : w32.cell? ⟨bM, 1, none⟩ = some (.slice gy cK.length c0_1) := (af ai.out 1).trans rfl; have hfz33_0 := aK ai.out 0; have hfz33_1 := aK ai.out 1; obtain ⟨nU, nV, yo⟩ := Kd.bD jH.out; subst yo) | ((with_reducible refine aW (f := 15) rfl ?_); refine cO (some 35) rfl rfl Tryd.func15 (by kernel_rfl) rfl #[.bool dJ, .slice nU kE.length nV] rfl qt ?_; (with_reducible refine (aX.calls k dJ _ _ kE lw t116 _ ?aU ?aV A23.out).mono ?_); (case aU => exact qs ((Kd.ak jH.out).2.2)); (case aV => exact (Kd.ak jH.out).2.1); rintro e w35 ⟨v117, rfl, ho0, hb⟩; refine ⟨_, rfl, ?_⟩; have jG := ae.mk (Kd.bz (Kd.aA ho0 (Kd.aY (qr jH))) (aN (qw HB))); replace jH := ae.mk (Kd.aj (qr jH) (Kd.az ho0) hb); replace ai := qbb ai hb; replace au := qbb au hb; replace aJ := qbb aJ hb; replace HB := ae.mk (av (qw HB) hb); (try clear hb); (try clear hb2); (try clear hk); (try clear hi); (try clear ho0); have hcz36_0 : w35.cell? ⟨cB, 0, none⟩ = some (.bool false) := (af aJ.out 0).trans rfl; have hcz36_1 : w35.cell? ⟨cB, 1, none⟩ = some (.slice none 0 0) := (af aJ.out 1).trans rfl; have hfz36_0 := aK aJ.out 0; have hfz36_1 := aK aJ.out 1; obtain ⟨sF, sG, Er⟩ := Kd.bD jG.out; subst Er))
   refine bodyPost_ret (results_cell_row rfl _ _ cB 25 #[.bool lw, .slice sF t116.length sG] (0, 0) _ rfl (by refine dG (cs := #[.bool lw, .slice none 0 0]) ?_ 1 _ rfl; refine dG (cs := #[.bool false, .slice none 0 0]) ?_ 0 _ rfl; (with_reducible repeat (first | refine bP ?_ _ | refine bf ?_ | refine bO ?_ _)); exact aJ.out) Tryd.underlying25 rfl (by kernel_rfl)) rfl ?_
   exact ⟨_, by first | rfl | (simp [errW_none, errW_some] <;> rfl) | (simp [*, errW_none, errW_some] <;> rfl), by (with_reducible repeat (first | apply Kd.bu | apply Kd.bv | apply Kd.bg)); exact Kd.bG (Kd.bH (p := ⟨cB, 1, none⟩) (Kd.bH (p := ⟨cB, 0, none⟩) (Kd.bU jG.out aJ.out (by decide)) (fun _ hk => hk.2) (.bool lw)) (fun _ hk => hk.2) (.slice sF t116.length sG)) (fun _ hk => trivial), by repeat (first | (with_reducible first | exact HB.out | apply aM | apply aD | apply aH | refine aQ ?_ gB.out | refine aQ ?_ ib.out | refine aQ ?_ jB.out) | exact HB.out)⟩
  ·rw [if_neg c22] at H
   have AY : (nY == 0) = false := beq_eq_false_iff_ne.mpr c22
   have Gn : (nY != 0) = true := bne_iff_ne.mpr c22
   replace H := Option.bind_eq_some_iff.mp H
   obtain ⟨⟨t119, o9⟩, A380, H⟩ := H
   replace H : ((aX.f k dX t119).bind fun j4 => (some (j4.1, j4.2))) = some (r1, r2) := H
   have A38 := ae.mk A380
   clear A380
   replace H := Option.bind_eq_some_iff.mp H
   obtain ⟨⟨qR, t124⟩, A390, H⟩ := H
   replace H : (some (qR, t124)) = some (r1, r2) := H
   have A39 := ae.mk A390
   clear A390
   simp only [Option.some.injEq, Prod.mk.injEq] at H
   obtain ⟨rfl, rfl⟩ := H
   go_enter Tryd.func9, Tryd.ntmps9
   go_wp2_with (first | ((with_reducible refine bR (N := 2) rfl ?_); refine bS ?hg (N := 2) ?hd (cs := #[.bool dJ, .slice gy cK.length c0_1]) (t := 25) ?hr ?_; (case hd => rfl); (case hg => rfl); (case hr => first | (go_simp; done) | (go_simp; rfl)); intro bM hg w40 hbox hb; have ai := ae.mk (hbox); have GW101 := qge HB hg; have gB := qge HB hg; replace HB := ae.mk (av (qw HB) hb); clear hb hbox hg) | ((with_reducible refine bR (N := 3) rfl ?_); refine bS ?hg (N := 3) ?hd (cs := #[.bool dX, .slice iq dY.length c1_1]) (t := 25) ?hr ?_; (case hd => rfl); (case hg => rfl); (case hr => first | (go_simp; done) | (go_simp; rfl)); intro cu hg w41 hbox hb; have au := ae.mk (hbox); have GW102 := qge HB hg; have ib := qge HB hg; replace HB := ae.mk (av (qw HB) hb); have eD := qnl ai hg; have eF := qng ai hg; replace ai := qbb ai hb; clear hb hbox hg) | ((with_reducible refine bR (N := 4) rfl ?_); refine bS ?hg (N := 4) ?hd (cs := #[.bool false, .slice none 0 0]) (t := 25) ?hr ?_; (case hd => rfl); (case hg => rfl); (case hr => first | (go_simp; done) | (go_simp; rfl)); intro cB hg w42 hbox hb; have aJ := ae.mk (hbox); have GW103 := qge HB hg; have jB := qge HB hg; replace HB := ae.mk (av (qw HB) hb); have dm := qnl ai hg; have eZ := qng ai hg; replace ai := qbb ai hb; have dh := qnl au hg; have eX := qng au hg; replace au := qbb au hb; clear hb hbox hg; have hnb43 := eD.out; have hnc43 := eF.out; have hnb44 := dm.out; have hnc44 := eZ.out; have hcz45_0 : w42.cell? ⟨bM, 0, none⟩ = some (.bool dJ) := (af ai.out 0).trans rfl; have hcz45_1 : w42.cell? ⟨bM, 1, none⟩ = some (.slice gy cK.length c0_1) := (af ai.out 1).trans rfl; have hfz45_0 := aK ai.out 0; have hfz45_1 := aK ai.out 1; have hnb46 := dh.out; have hnc46 := eX.out; have hcz47_0 : w42.cell? ⟨cu, 0, none⟩ = some (.bool dX) := (af au.out 0).trans rfl; have hcz47_1 : w42.cell? ⟨cu, 1, none⟩ = some (.slice iq dY.length c1_1) := (af au.out 1).trans rfl; have hfz47_0 := aK au.out 0; have hfz47_1 := aK au.out 1) | ((with_reducible refine aW (f := 30) rfl ?_); refine cO (some 27) rfl rfl Tryd.func30 (by kernel_rfl) rfl #[.slice gy cK.length c0_1, .slice iq dY.length c1_1] rfl qt ?_; (with_reducible refine (dx.calls k _ _ cK _ _ dY kE nY _ ?aU ?aV ?bJ ?bK A21.out).mono ?_); (case aU => exact qs ((Kd.dS ku.out HB.out))); (case aV => exact kv.out); (case bJ => exact qs ((Kd.dS ny.out HB.out))); (case bK => exact nz.out); rintro e w48 ⟨v113, rfl, ho0, hb⟩; refine ⟨_, rfl, ?_⟩; have jH := ae.mk (Kd.bz ho0 (aN (qw HB))); replace ai := qbb ai hb; replace au := qbb au hb; replace aJ := qbb aJ hb; replace HB := ae.mk (av (qw HB) hb); (try clear hb); (try clear hb2); (try clear hk); (try clear hi); (try clear ho0); have hcz49_0 : w48.cell? ⟨cu, 0, none⟩ = some (.bool dX) := (af au.out 0).trans rfl; have hcz49_1 : w48.cell? ⟨cu, 1, none⟩ = some (.slice iq dY.length c1_1) := (af au.out 1).trans rfl; have hfz49_0 := aK au.out 0; have hfz49_1 := aK au.out 1; have hcz50_0 : w48.cell? ⟨bM, 0, none⟩ = some (.bool dJ) := (af ai.out 0).trans rfl; have hcz50_1 : w48.cell? ⟨bM, 1, none⟩ = some (.slice gy cK.length c0_1) := (af ai.out 1).trans rfl; have hfz50_0 := aK ai.out 0; have hfz50_1 := aK ai.out 1) | ((with_reducible refine aW (f := 30) rfl ?_); refine cO (some 41) rfl rfl Tryd.func30 (by kernel_rfl) rfl #[.slice iq dY.length c1_1, .slice gy cK.length c0_1] rfl qt ?_; (with_reducible refine (dx.calls k _ _ dY _ _ cK t119 o9 _ ?aU ?aV ?bJ ?bK A38.out).mono ?_); (case aU => exact qs ((Kd.dS ny.out HB.out))); (case aV => exact nz.out); (case bJ => exact qs ((Kd.dS ku.out HB.out))); (case bK => exact kv.out); rintro e w51 ⟨v121, rfl, ho0, hb⟩; refine ⟨_, rfl, ?_⟩; have oH := ae.mk (Kd.bz (Kd.aA ho0 (Kd.aY (qr jH))) (aN (qw HB))); replace jH := ae.mk (Kd.aj (qr jH) (Kd.az ho0) hb); replace ai := qbb ai hb; replace au := qbb au hb; replace aJ := qbb aJ hb; replace HB := ae.mk (av (qw HB) hb); (try clear hb); (try clear hb2); (try clear hk); (try clear hi); (try clear ho0); have hcz52_0 : w51.cell? ⟨cu, 0, none⟩ = some (.bool dX) := (af au.out 0).trans rfl; have hcz52_1 : w51.cell? ⟨cu, 1, none⟩ = some (.slice iq dY.length c1_1) := (af au.out 1).trans rfl; have hfz52_0 := aK au.out 0; have hfz52_1 := aK au.out 1; obtain ⟨BC, BD, yI⟩ := Kd.bD oH.out; subst yI) | ((with_reducible refine aW (f := 15) rfl ?_); refine cO (some 47) rfl rfl Tryd.func15 (by kernel_rfl) rfl #[.bool dX, .slice BC t119.length BD] rfl qt ?_; (with_reducible refine (aX.calls k dX _ _ t119 qR t124 _ ?aU ?aV A39.out).mono ?_); (case aU => exact qs ((Kd.ak oH.out).2.2)); (case aV => exact (Kd.ak oH.out).2.1); rintro e w54 ⟨v125, rfl, ho0, hb⟩; refine ⟨_, rfl, ?_⟩; have sK := ae.mk (Kd.bz (Kd.aA (Kd.aA ho0 (Kd.aY (qr jH))) (Kd.aY (qr oH))) (aN (qw HB))); replace jH := ae.mk (Kd.aj (qr jH) (Kd.az ho0) hb); replace oH := ae.mk (Kd.aj (qr oH) (Kd.az ho0) hb); replace ai := qbb ai hb; replace au := qbb au hb; replace aJ := qbb aJ hb; replace HB := ae.mk (av (qw HB) hb); (try clear hb); (try clear hb2); (try clear hk); (try clear hi); (try clear ho0); have hcz55_0 : w54.cell? ⟨cB, 0, none⟩ = some (.bool false) := (af aJ.out 0).trans rfl; have hcz55_1 : w54.cell? ⟨cB, 1, none⟩ = some (.slice none 0 0) := (af aJ.out 1).trans rfl; have hfz55_0 := aK aJ.out 0; have hfz55_1 := aK aJ.out 1; obtain ⟨xB, xC, yJ⟩ := Kd.bD sK.out; subst yJ))
   refine bodyPost_ret (results_cell_row rfl _ _ cB 25 #[.bool qR, .slice xB t124.length xC] (0, 0) _ rfl (by refine dG (cs := #[.bool qR, .slice none 0 0]) ?_ 1 _ rfl; refine dG (cs := #[.bool false, .slice none 0 0]) ?_ 0 _ rfl; (with_reducible repeat (first | refine bP ?_ _ | refine bf ?_ | refine bO ?_ _)); exact aJ.out) Tryd.underlying25 rfl (by kernel_rfl)) rfl ?_
   exact ⟨_, by first | rfl | (simp [errW_none, errW_some] <;> rfl) | (simp [*, errW_none, errW_some] <;> rfl), by (with_reducible repeat (first | apply Kd.bu | apply Kd.bv | apply Kd.bg)); exact Kd.bG (Kd.bH (p := ⟨cB, 1, none⟩) (Kd.bH (p := ⟨cB, 0, none⟩) (Kd.bU sK.out aJ.out (by decide)) (fun _ hk => hk.2) (.bool qR)) (fun _ hk => hk.2) (.slice xB t124.length xC)) (fun _ hk => trivial), by repeat (first | (with_reducible first | exact HB.out | apply aM | apply aD | apply aH | refine aQ ?_ gB.out | refine aQ ?_ ib.out | refine aQ ?_ jB.out) | exact HB.out)⟩
end Go.Proofs.YthfphdbebnkdpaaDoor.P
end
section
namespace Go.Proofs.YthfphdbebnkdpaaDoor.P
open Go.RowKit Go.Proofs.YthfphdbebnkdpaaDoorW.aZ Go.Proofs.YthfphdbebnkdpaaDoorW.bL Go.Proofs.YthfphdbebnkdpaaDoorW.dC
attribute [local go_sem] dZ d9 fA fB dH dI ed ek
set_option linter.unusedVariables false
set_option linter.unusedSimpArgs false
def oU.f (k : Nat) (dJ : Bool) (cK : List Int) : Option (Bool × List Int) := (aX.f k (!dJ) cK).bind fun kN => (some (kN.1, kN.2))
set_option maxHeartbeats 8000000 in
set_option maxRecDepth 100000 in
theorem oU.calls (k : Nat) (dJ : Bool) (gy : Option Addr) (c0_1 : Nat) (cK : List Int) (r1 : Bool) (r2 : List Int) (w : World) (hr0_1 : Kd.C (Kd.int .u64) w gy cK.length cK) (hc0_1 : cK.length ≤ c0_1) (h : oU.f k dJ cK = some (r1, r2)) :
  Calls Tryd.prog 32 #[.agg #[.bool dJ, .slice gy cK.length c0_1]] w fun e w' => ∃ v1_ : Value, e = .returned (.agg #[.bool r1, v1_]) ∧ Kd.R (Kd.int .u64) 64 w' w.heap.size (fun _ => True) v1_ r2 ∧ Below w.heap.size w w' := by
 have hu25 := Tryd.underlying25
 have ku := ae.mk hr0_1
 have kv := ae.mk hc0_1
 clear hr0_1 hc0_1
 have HB := ae.mk (Below.refl w.heap.size w)
 have H : ((aX.f k (!dJ) cK).bind fun kN => (some (kN.1, kN.2))) = some (r1, r2) := h
 clear h
 replace H := Option.bind_eq_some_iff.mp H
 obtain ⟨⟨dR, fQ⟩, A20, H⟩ := H
 replace H : (some (dR, fQ)) = some (r1, r2) := H
 have A2 := ae.mk A20
 clear A20
 simp only [Option.some.injEq, Prod.mk.injEq] at H
 obtain ⟨rfl, rfl⟩ := H
 go_enter Tryd.func32, Tryd.ntmps32
 go_wp2_with (first | ((with_reducible refine bR (N := 1) rfl ?_); refine bS ?hg (N := 1) ?hd (cs := #[.bool dJ, .slice gy cK.length c0_1]) (t := 25) ?hr ?_; (case hd => rfl); (case hg => rfl); (case hr => first | (go_simp; done) | (go_simp; rfl)); intro bM hg w3 hbox hb; have ai := ae.mk (hbox); have GW101 := qge HB hg; have gB := qge HB hg; replace HB := ae.mk (av (qw HB) hb); clear hb hbox hg) | ((with_reducible refine bR (N := 2) rfl ?_); refine bS ?hg (N := 2) ?hd (cs := #[.bool false, .slice none 0 0]) (t := 25) ?hr ?_; (case hd => rfl); (case hg => rfl); (case hr => first | (go_simp; done) | (go_simp; rfl)); intro cu hg w4 hbox hb; have au := ae.mk (hbox); have GW102 := qge HB hg; have ib := qge HB hg; replace HB := ae.mk (av (qw HB) hb); have eD := qnl ai hg; have eF := qng ai hg; replace ai := qbb ai hb; clear hb hbox hg; have hnb5 := eD.out; have hnc5 := eF.out; have hcz6_0 : w4.cell? ⟨bM, 0, none⟩ = some (.bool dJ) := (af ai.out 0).trans rfl; have hcz6_1 : w4.cell? ⟨bM, 1, none⟩ = some (.slice gy cK.length c0_1) := (af ai.out 1).trans rfl; have hfz6_0 := aK ai.out 0; have hfz6_1 := aK ai.out 1) | ((with_reducible refine aW (f := 15) rfl ?_); refine cO (some 8) rfl rfl Tryd.func15 (by kernel_rfl) rfl #[.bool (!dJ), .slice gy cK.length c0_1] rfl qt ?_; (with_reducible refine (aX.calls k (!dJ) _ _ cK dR fQ _ ?aU ?aV A2.out).mono ?_); (case aU => exact qs ((Kd.dS ku.out HB.out))); (case aV => exact kv.out); rintro e w7 ⟨v105, rfl, ho0, hb⟩; refine ⟨_, rfl, ?_⟩; have jO := ae.mk (Kd.bz ho0 (aN (qw HB))); replace ai := qbb ai hb; replace au := qbb au hb; replace HB := ae.mk (av (qw HB) hb); (try clear hb); (try clear hb2); (try clear hk); (try clear hi); (try clear ho0); have hcz8_0 : w7.cell? ⟨cu, 0, none⟩ = some (.bool false) := (af au.out 0).trans rfl; have hcz8_1 : w7.cell? ⟨cu, 1, none⟩ = some (.slice none 0 0) := (af au.out 1).trans rfl; have hfz8_0 := aK au.out 0; have hfz8_1 := aK au.out 1; obtain ⟨Ao9, co9, eo9⟩ := Kd.bD jO.out; subst eo9))
 refine bodyPost_ret (results_cell_row rfl _ _ cu 25 #[.bool dR, .slice Ao9 fQ.length co9] (0, 0) _ rfl (by refine dG (cs := #[.bool dR, .slice none 0 0]) ?_ 1 _ rfl; refine dG (cs := #[.bool false, .slice none 0 0]) ?_ 0 _ rfl; (with_reducible repeat (first | refine bP ?_ _ | refine bf ?_ | refine bO ?_ _)); exact au.out) Tryd.underlying25 rfl (by kernel_rfl)) rfl ?_
 exact ⟨_, by first | rfl | (simp [errW_none, errW_some] <;> rfl) | (simp [*, errW_none, errW_some] <;> rfl), by (with_reducible repeat (first | apply Kd.bu | apply Kd.bv | apply Kd.bg)); exact Kd.bG (Kd.bH (p := ⟨cu, 1, none⟩) (Kd.bH (p := ⟨cu, 0, none⟩) (Kd.bU jO.out au.out (by decide)) (fun _ hk => hk.2) (.bool dR)) (fun _ hk => hk.2) (.slice Ao9 fQ.length co9)) (fun _ hk => trivial), by repeat (first | (with_reducible first | exact HB.out | apply aM | apply aD | apply aH | refine aQ ?_ gB.out | refine aQ ?_ ib.out) | exact HB.out)⟩
end Go.Proofs.YthfphdbebnkdpaaDoor.P
end
section
namespace Go.Proofs.YthfphdbebnkdpaaDoor.P
open Go.RowKit Go.Proofs.YthfphdbebnkdpaaDoorW.aZ Go.Proofs.YthfphdbebnkdpaaDoorW.bL Go.Proofs.YthfphdbebnkdpaaDoorW.dC
attribute [local go_sem] dZ d9 fA fB dH dI ed ek
set_option linter.unusedVariables false
set_option linter.unusedSimpArgs false
def bC.f (k : Nat) (dJ : Bool) (cK : List Int) (dX : Bool) (dY : List Int) : Option (Bool × List Int) := (rC.f k cK dY).bind fun fQ => ((aX.f k (dJ != dX) fQ).bind fun iM => (some (iM.1, iM.2)))
def bC.T1 : Bool × List (List Nat × List Nat) := (true, [([], []), ([0], [0]), ([], []), ([2], [2]), ([1, 3], [1, 3]), ([], []), ([5], [5]), ([], []), ([7], [7]), ([6, 8], [6, 8]), ([4, 9, 9], [4, 9]), ([10, 10, 0, 1, 2, 3, 4, 5, 6, 7, 8, 9, 10], [10])])
def bC.B1 : List Nat := [0, 1, 0, 4, 15, 0, 32, 0, 128, 480, 1023, 2047]
theorem bC.JF : mi .any (opsOf Tryd.f10 1) = bC.T1 := by kernel_rfl
theorem bC.Gp : kJ bC.T1.2 bC.B1 = true := by kernel_rfl
set_option maxHeartbeats 8000000 in
set_option maxRecDepth 100000 in
theorem bC.calls (k : Nat) (dJ : Bool) (gy : Option Addr) (c0_1 : Nat) (cK : List Int) (dX : Bool) (iq : Option Addr) (c1_1 : Nat) (dY : List Int) (r1 : Bool) (r2 : List Int) (w : World) (hr0_1 : Kd.C (Kd.int .u64) w gy cK.length cK) (hc0_1 : cK.length ≤ c0_1) (hr1_1 : Kd.C (Kd.int .u64) w iq dY.length dY) (hc1_1 : dY.length ≤ c1_1) (h : bC.f k dJ cK dX dY = some (r1, r2)) :
  Calls Tryd.prog 10 #[.agg #[.bool dJ, .slice gy cK.length c0_1], .agg #[.bool dX, .slice iq dY.length c1_1]] w fun e w' => ∃ v1_ : Value, e = .returned (.agg #[.bool r1, v1_]) ∧ Kd.R (Kd.int .u64) 64 w' w.heap.size (fun _ => True) v1_ r2 ∧ Below w.heap.size w w' := by
 have hu25 := Tryd.underlying25
 have ku := ae.mk hr0_1
 have kv := ae.mk hc0_1
 clear hr0_1 hc0_1
 have ny := ae.mk hr1_1
 have nz := ae.mk hc1_1
 clear hr1_1 hc1_1
 have HB := ae.mk (Below.refl w.heap.size w)
 have H : ((rC.f k cK dY).bind fun fQ => ((aX.f k (dJ != dX) fQ).bind fun iM => (some (iM.1, iM.2)))) = some (r1, r2) := h
 clear h
 replace H := Option.bind_eq_some_iff.mp H
 obtain ⟨fQ, A30, H⟩ := H
 replace H : ((aX.f k (dJ != dX) fQ).bind fun iM => (some (iM.1, iM.2))) = some (r1, r2) := H
 have A3 := ae.mk A30
 clear A30
 replace H := Option.bind_eq_some_iff.mp H
 obtain ⟨⟨t107, jM⟩, A40, H⟩ := H
 replace H : (some (t107, jM)) = some (r1, r2) := H
 have A4 := ae.mk A40
 clear A40
 simp only [Option.some.injEq, Prod.mk.injEq] at H
 obtain ⟨rfl, rfl⟩ := H
 go_enter Tryd.func10, Tryd.ntmps10
 try go_wp2_with (first | ((with_reducible refine bR (N := 2) rfl ?_); refine bS ?hg (N := 2) ?hd (cs := #[.bool dJ, .slice gy cK.length c0_1]) (t := 25) ?hr ?_; (case hd => rfl); (case hg => rfl); (case hr => first | (go_simp; done) | (go_simp; rfl)); intro bM hg w5 hbox hb; have ai := ae.mk (hbox); have GW101 := qge HB hg; have gB := qge HB hg; replace HB := ae.mk (av (qw HB) hb); clear hb hbox hg) | ((with_reducible refine bR (N := 3) rfl ?_); refine bS ?hg (N := 3) ?hd (cs := #[.bool dX, .slice iq dY.length c1_1]) (t := 25) ?hr ?_; (case hd => rfl); (case hg => rfl); (case hr => first | (go_simp; done) | (go_simp; rfl)); intro cu hg w6 hbox hb; have au := ae.mk (hbox); have GW102 := qge HB hg; have ib := qge HB hg; replace HB := ae.mk (av (qw HB) hb); have eD := qnl ai hg; have eF := qng ai hg; replace ai := qbb ai hb; clear hb hbox hg) | ((with_reducible refine bR (N := 4) rfl ?_); refine bS ?hg (N := 4) ?hd (cs := #[.bool false, .slice none 0 0]) (t := 25) ?hr ?_; (case hd => rfl); (case hg => rfl); (case hr => first | (go_simp; done) | (go_simp; rfl)); intro cB hg w7 hbox hb; have aJ := ae.mk (hbox); have GW103 := qge HB hg; have jB := qge HB hg; replace HB := ae.mk (av (qw HB) hb); have dm := qnl ai hg; have eZ := qng ai hg; replace ai := qbb ai hb; have dh := qnl au hg; have eX := qng au hg; replace au := qbb au hb; clear hb hbox hg))
 replace ai := ae.mk (bf ai.out)
 replace au := ae.mk (bf au.out)
 replace aJ := ae.mk (bf aJ.out)
 replace HB := ae.mk (aH HB.out)
 refine j6 (n := 12) (S := fun w' => w'.cell? ⟨bM, 0, none⟩ = some (.bool dJ) ∧ w'.cell? ⟨bM, 1, none⟩ = some (.slice gy cK.length c0_1) ∧ w'.cell? ⟨cu, 0, none⟩ = some (.bool dX) ∧ w'.cell? ⟨cu, 1, none⟩ = some (.slice iq dY.length c1_1)) (ds := []) #[bF,bF,bF,bF,bF,bF,bF,bF,bF,bF,bF,bF] (by kernel_rfl) rfl rfl ⟨(af ai.out 0).trans rfl, (af ai.out 1).trans rfl, (af au.out 0).trans rfl, (af au.out 1).trans rfl⟩ (fun hHeld => ?_); refine iQ bC.JF bC.Gp (fun HT_ HW_ => ?_)
 generalize w7.drew = w8 at ai au aJ HB hHeld ⊢
 refine cZ 0 (some 5) HT_ ?_
 refine cZ 2 (some 7) HT_ ?_
 refine cZ 5 (some 10) HT_ ?_
 refine cZ 7 (some 12) HT_ ?_
 refine eU 1 (some 6) HT_ HW_ hHeld ?_
 refine eU 3 (some 8) HT_ HW_ hHeld ?_
 refine cZ 4 (some 9) HT_ ?_
 refine eU 6 (some 11) HT_ HW_ hHeld ?_
 refine eU 8 (some 13) HT_ HW_ hHeld ?_
 refine gU 9 (some 14) HT_ (fun K hK => ?_)
 refine fo Tryd.func31 #[.slice gy cK.length c0_1, .slice iq dY.length c1_1] ?_
 with_reducible refine (rC.calls k _ _ cK _ _ dY fQ _ ?aU ?aV ?bJ ?bK A3.out).mono ?_
 (case aU => exact qs ((Kd.dS ku.out HB.out)))
 (case aV => exact kv.out)
 (case bJ => exact qs ((Kd.dS ny.out HB.out)))
 (case bK => exact nz.out)
 rintro e w9 ⟨v105, rfl, ho0, hb⟩
 refine ⟨_, rfl, ?_⟩
 have jO := ae.mk (Kd.bz ho0 (aN (qw HB)))
 replace ai := qbb ai hb
 replace au := qbb au hb
 replace aJ := qbb aJ hb
 replace HB := ae.mk (av (qw HB) hb)
 (try clear hb)
 (try clear hb2)
 (try clear hk)
 (try clear hi)
 (try clear ho0)
 obtain ⟨xD, wM, uw⟩ := Kd.bD jO.out
 (first | subst uw | (injection uw with f1_ f2_ f3_; have f4_ := f1_.symm; have f5_ := f3_.symm; clear f1_ f2_ f3_; subst f4_; subst f5_))
 refine hK.out _ _ ⟨(af ai.out 0).trans rfl, (af ai.out 1).trans rfl, (af au.out 0).trans rfl, (af au.out 1).trans rfl⟩ (fun hHeld => ?_)
 clear hK K
 refine eY (some 14) ?_
 refine gU 10 (some 15) HT_ (fun K hK => ?_)
 refine fo Tryd.func15 #[.bool (dJ != dX), .slice xD fQ.length wM] ?_
 with_reducible refine (aX.calls k (dJ != dX) _ _ fQ t107 jM _ ?aU ?aV A4.out).mono ?_
 (case aU => exact qs ((Kd.ak jO.out).2.2))
 (case aV => exact (Kd.ak jO.out).2.1)
 rintro e w11 ⟨v109, rfl, ho0, hb⟩
 refine ⟨_, rfl, ?_⟩
 have oD := ae.mk (Kd.bz (Kd.aA ho0 (Kd.aY (qr jO))) (aN (qw HB)))
 replace jO := ae.mk (Kd.aj (qr jO) (Kd.az ho0) hb)
 replace ai := qbb ai hb
 replace au := qbb au hb
 replace aJ := qbb aJ hb
 replace HB := ae.mk (av (qw HB) hb)
 (try clear hb)
 (try clear hb2)
 (try clear hk)
 (try clear hi)
 (try clear ho0)
 obtain ⟨uo, sw, uO⟩ := Kd.bD oD.out
 (first | subst uO | (injection uO with f1_ f2_ f3_; have f4_ := f1_.symm; have f5_ := f3_.symm; clear f1_ f2_ f3_; subst f4_; subst f5_))
 refine hK.out _ _ ⟨(af ai.out 0).trans rfl, (af ai.out 1).trans rfl, (af au.out 0).trans rfl, (af au.out 1).trans rfl⟩ (fun hHeld => ?_)
 clear hK K
 refine eY (some 15) ?_
 refine gU 11 (none) HT_ (fun K hK => ?_)
 have hs12 : w11.cell? ⟨cB, 0, none⟩ = some (.bool false) := (af aJ.out 0).trans rfl
 have hfs12 := aK aJ.out 0
 have hns12_0 := dm.out
 have hns12_1 := dh.out
 have hms12_0 := eZ.out
 have hms12_1 := eX.out
 have hs14 : w11.cell? ⟨cB, 1, none⟩ = some (.slice none 0 0) := (af aJ.out 1).trans rfl
 have hfs14 := aK aJ.out 1
 have hns14_0 := dm.out
 have hns14_1 := dh.out
 have hms14_0 := eZ.out
 have hms14_1 := eX.out
 refine pX (w1 := ?_) (by rfl) rfl ?_ ?_
 rotate_left
 ·go_simp
  rfl
 refine hK.out _ _ ⟨((cell_far (p := ⟨cB, _, none⟩) dm.out _).trans (((cell_far (p := ⟨cB, _, none⟩) dm.out _).trans (hHeld.1)))), ((cell_far (p := ⟨cB, _, none⟩) dm.out _).trans (((cell_far (p := ⟨cB, _, none⟩) dm.out _).trans (hHeld.2.1)))), ((cell_far (p := ⟨cB, _, none⟩) dh.out _).trans (((cell_far (p := ⟨cB, _, none⟩) dh.out _).trans (hHeld.2.2.1)))), ((cell_far (p := ⟨cB, _, none⟩) dh.out _).trans (((cell_far (p := ⟨cB, _, none⟩) dh.out _).trans (hHeld.2.2.2))))⟩ (fun hHeld => ?_)
 clear hK K
 refine nM HT_ ?_
 try go_wp2
 refine bodyPost_ret (results_cell_row rfl _ _ cB 25 #[.bool t107, .slice uo jM.length sw] (0, 0) _ rfl (by refine dG (cs := #[.bool t107, .slice none 0 0]) ?_ 1 _ rfl; refine dG (cs := #[.bool false, .slice none 0 0]) ?_ 0 _ rfl; (with_reducible repeat (first | refine bP ?_ _ | refine bf ?_ | refine bO ?_ _)); exact aJ.out) Tryd.underlying25 rfl (by kernel_rfl)) rfl ?_
 exact ⟨_, by first | rfl | (simp [errW_none, errW_some] <;> rfl) | (simp [*, errW_none, errW_some] <;> rfl), by (with_reducible repeat (first | apply Kd.bu | apply Kd.bv | apply Kd.bg)); exact Kd.bG (Kd.bH (p := ⟨cB, 1, none⟩) (Kd.bH (p := ⟨cB, 0, none⟩) (Kd.bU oD.out aJ.out (by decide)) (fun _ hk => hk.2) (.bool t107)) (fun _ hk => hk.2) (.slice uo jM.length sw)) (fun _ hk => trivial), by repeat (first | (with_reducible first | exact HB.out | apply aM | apply aD | apply aH | refine aQ ?_ gB.out | refine aQ ?_ ib.out | refine aQ ?_ jB.out) | exact HB.out)⟩
end Go.Proofs.YthfphdbebnkdpaaDoor.P
end
section
namespace Go.Proofs.YthfphdbebnkdpaaDoor.P
open Go.RowKit Go.Proofs.YthfphdbebnkdpaaDoorW.aZ Go.Proofs.YthfphdbebnkdpaaDoorW.bL Go.Proofs.YthfphdbebnkdpaaDoorW.dC
attribute [local go_sem] dZ d9 fA fB dH dI ed ek
set_option linter.unusedVariables false
set_option linter.unusedSimpArgs false
def jD.f (k : Nat) (dJ : Bool) (cK : List Int) (dX : Bool) (dY : List Int) : Option (Bool × List Int) := (oU.f k dX dY).bind fun gV => ((bE.f k dJ cK gV.1 gV.2).bind fun nZ => (some (nZ.1, nZ.2)))
set_option maxHeartbeats 8000000 in
set_option maxRecDepth 100000 in
theorem jD.calls (k : Nat) (dJ : Bool) (gy : Option Addr) (c0_1 : Nat) (cK : List Int) (dX : Bool) (iq : Option Addr) (c1_1 : Nat) (dY : List Int) (r1 : Bool) (r2 : List Int) (w : World) (hr0_1 : Kd.C (Kd.int .u64) w gy cK.length cK) (hc0_1 : cK.length ≤ c0_1) (hr1_1 : Kd.C (Kd.int .u64) w iq dY.length dY) (hc1_1 : dY.length ≤ c1_1) (h : jD.f k dJ cK dX dY = some (r1, r2)) :
  Calls Tryd.prog 11 #[.agg #[.bool dJ, .slice gy cK.length c0_1], .agg #[.bool dX, .slice iq dY.length c1_1]] w fun e w' => ∃ v1_ : Value, e = .returned (.agg #[.bool r1, v1_]) ∧ Kd.R (Kd.int .u64) 64 w' w.heap.size (fun _ => True) v1_ r2 ∧ Below w.heap.size w w' := by
 have hu25 := Tryd.underlying25
 have ku := ae.mk hr0_1
 have kv := ae.mk hc0_1
 clear hr0_1 hc0_1
 have ny := ae.mk hr1_1
 have nz := ae.mk hc1_1
 clear hr1_1 hc1_1
 have HB := ae.mk (Below.refl w.heap.size w)
 have H : ((oU.f k dX dY).bind fun gV => ((bE.f k dJ cK gV.1 gV.2).bind fun nZ => (some (nZ.1, nZ.2)))) = some (r1, r2) := h
 clear h
 replace H := Option.bind_eq_some_iff.mp H
 obtain ⟨⟨fQ, t105⟩, A30, H⟩ := H
 replace H : ((bE.f k dJ cK fQ t105).bind fun nZ => (some (nZ.1, nZ.2))) = some (r1, r2) := H
 have A3 := ae.mk A30
 clear A30
 replace H := Option.bind_eq_some_iff.mp H
 obtain ⟨⟨jM, t109⟩, A40, H⟩ := H
 replace H : (some (jM, t109)) = some (r1, r2) := H
 have A4 := ae.mk A40
 clear A40
 simp only [Option.some.injEq, Prod.mk.injEq] at H
 obtain ⟨rfl, rfl⟩ := H
 go_enter Tryd.func11, Tryd.ntmps11
 try go_wp2_with (first | ((with_reducible refine bR (N := 2) rfl ?_); refine bS ?hg (N := 2) ?hd (cs := #[.bool dJ, .slice gy cK.length c0_1]) (t := 25) ?hr ?_; (case hd => rfl); (case hg => rfl); (case hr => first | (go_simp; done) | (go_simp; rfl)); intro bM hg w5 hbox hb; have ai := ae.mk (hbox); have GW101 := qge HB hg; have gB := qge HB hg; replace HB := ae.mk (av (qw HB) hb); clear hb hbox hg) | ((with_reducible refine bR (N := 3) rfl ?_); refine bS ?hg (N := 3) ?hd (cs := #[.bool dX, .slice iq dY.length c1_1]) (t := 25) ?hr ?_; (case hd => rfl); (case hg => rfl); (case hr => first | (go_simp; done) | (go_simp; rfl)); intro cu hg w6 hbox hb; have au := ae.mk (hbox); have GW102 := qge HB hg; have ib := qge HB hg; replace HB := ae.mk (av (qw HB) hb); have eD := qnl ai hg; have eF := qng ai hg; replace ai := qbb ai hb; clear hb hbox hg) | ((with_reducible refine bR (N := 4) rfl ?_); refine bS ?hg (N := 4) ?hd (cs := #[.bool false, .slice none 0 0]) (t := 25) ?hr ?_; (case hd => rfl); (case hg => rfl); (case hr => first | (go_simp; done) | (go_simp; rfl)); intro cB hg w7 hbox hb; have aJ := ae.mk (hbox); have GW103 := qge HB hg; have jB := qge HB hg; replace HB := ae.mk (av (qw HB) hb); have dm := qnl ai hg; have eZ := qng ai hg; replace ai := qbb ai hb; have dh := qnl au hg; have eX := qng au hg; replace au := qbb au hb; clear hb hbox hg))
 replace ai := ae.mk (bf ai.out)
 replace au := ae.mk (bf au.out)
 replace aJ := ae.mk (bf aJ.out)
 replace HB := ae.mk (aH HB.out)
 refine j6 (n := 5) (S := fun w' => w'.cell? ⟨bM, 0, none⟩ = some (.bool dJ) ∧ w'.cell? ⟨bM, 1, none⟩ = some (.slice gy cK.length c0_1) ∧ w'.cell? ⟨cu, 0, none⟩ = some (.bool dX) ∧ w'.cell? ⟨cu, 1, none⟩ = some (.slice iq dY.length c1_1)) (ds := []) #[bF,bF,bF,bF,bF] (by kernel_rfl) rfl rfl ⟨(af ai.out 0).trans rfl, (af ai.out 1).trans rfl, (af au.out 0).trans rfl, (af au.out 1).trans rfl⟩ (fun hHeld => ?_)
 generalize w7.drew = w8 at ai au aJ HB hHeld ⊢
 refine oV (i := 0) (N := some 5) (v := ?_) (a' := ?_) #[bT,bF,bF,bF,bF] rfl rfl (by kernel_rfl) (fun _ _ _ h => h) (Or.inl ⟨by rfl, ?_⟩) hHeld ?_ ?_
 rotate_left
 ·rintro w' ⟨s0, s1, s2, s3⟩
  go_simp
  with_reducible rfl
 rotate_left
 ·exact qJ
 refine oV (i := 1) (N := some 6) (v := ?_) (a' := ?_) #[bT,bT,bF,bF,bF] rfl rfl (by kernel_rfl) (fun _ _ _ h => h) (Or.inl ⟨by rfl, ?_⟩) hHeld ?_ ?_
 rotate_left
 ·rintro w' ⟨s0, s1, s2, s3⟩
  go_simp
  with_reducible rfl
 rotate_left
 ·exact qJ
 refine vE (i := 2) (N := some 7) #[bT,bT,bT,bF,bF] rfl rfl (by kernel_rfl) (by decide) (fun K hK => ?_)
 refine fo Tryd.func32 #[.agg #[.bool dX, .slice iq dY.length c1_1]] ?_
 with_reducible refine (oU.calls k dX _ _ dY fQ t105 _ ?aU ?aV A3.out).mono ?_
 (case aU => exact qs ((Kd.dS ny.out HB.out)))
 (case aV => exact nz.out)
 rintro e w9 ⟨v106, rfl, ho0, hb⟩
 refine ⟨_, rfl, ?_⟩
 have gF := ae.mk (Kd.bz ho0 (aN (qw HB)))
 replace ai := qbb ai hb
 replace au := qbb au hb
 replace aJ := qbb aJ hb
 replace HB := ae.mk (av (qw HB) hb)
 (try clear hb)
 (try clear hb2)
 (try clear hk)
 (try clear hi)
 (try clear ho0)
 obtain ⟨xD, wM, uw⟩ := Kd.bD gF.out
 (first | subst uw | (injection uw with f1_ f2_ f3_; have f4_ := f1_.symm; have f5_ := f3_.symm; clear f1_ f2_ f3_; subst f4_; subst f5_))
 refine hK.out _ _ ⟨(af ai.out 0).trans rfl, (af ai.out 1).trans rfl, (af au.out 0).trans rfl, (af au.out 1).trans rfl⟩ (fun hHeld => ?_)
 clear hK K
 refine eY (some 7) ?_
 refine vE (i := 3) (N := some 8) #[bT,bT,bT,bT,bF] rfl rfl (by kernel_rfl) (by decide) (fun K hK => ?_)
 refine fo Tryd.func9 #[.agg #[.bool dJ, .slice gy cK.length c0_1], .agg #[.bool fQ, .slice xD t105.length wM]] ?_
 with_reducible refine (bE.calls k dJ _ _ cK fQ _ _ t105 jM t109 _ ?aU ?aV ?bJ ?bK A4.out).mono ?_
 (case aU => exact qs ((Kd.dS ku.out HB.out)))
 (case aV => exact kv.out)
 (case bJ => exact qs ((Kd.ak gF.out).2.2))
 (case bK => exact (Kd.ak gF.out).2.1)
 rintro e w11 ⟨v110, rfl, ho0, hb⟩
 refine ⟨_, rfl, ?_⟩
 have qQ := ae.mk (Kd.bz (Kd.aA ho0 (Kd.aY (qr gF))) (aN (qw HB)))
 replace gF := ae.mk (Kd.aj (qr gF) (Kd.az ho0) hb)
 replace ai := qbb ai hb
 replace au := qbb au hb
 replace aJ := qbb aJ hb
 replace HB := ae.mk (av (qw HB) hb)
 (try clear hb)
 (try clear hb2)
 (try clear hk)
 (try clear hi)
 (try clear ho0)
 obtain ⟨uo, sw, uO⟩ := Kd.bD qQ.out
 (first | subst uO | (injection uO with f1_ f2_ f3_; have f4_ := f1_.symm; have f5_ := f3_.symm; clear f1_ f2_ f3_; subst f4_; subst f5_))
 refine hK.out _ _ ⟨(af ai.out 0).trans rfl, (af ai.out 1).trans rfl, (af au.out 0).trans rfl, (af au.out 1).trans rfl⟩ (fun hHeld => ?_)
 clear hK K
 refine eY (some 8) ?_
 refine vE (i := 4) (N := none) #[bT,bT,bT,bT,bT] rfl rfl (by kernel_rfl) (by decide) (fun K hK => ?_)
 have hs12 : w11.cell? ⟨cB, 0, none⟩ = some (.bool false) := (af aJ.out 0).trans rfl
 have hfs12 := aK aJ.out 0
 have hns12_0 := dm.out
 have hns12_1 := dh.out
 have hms12_0 := eZ.out
 have hms12_1 := eX.out
 have hs14 : w11.cell? ⟨cB, 1, none⟩ = some (.slice none 0 0) := (af aJ.out 1).trans rfl
 have hfs14 := aK aJ.out 1
 have hns14_0 := dm.out
 have hns14_1 := dh.out
 have hms14_0 := eZ.out
 have hms14_1 := eX.out
 refine pX (w1 := ?_) (by rfl) rfl ?_ ?_
 rotate_left
 ·go_simp
  rfl
 refine hK.out _ _ ⟨((cell_far (p := ⟨cB, _, none⟩) dm.out _).trans (((cell_far (p := ⟨cB, _, none⟩) dm.out _).trans (hHeld.1)))), ((cell_far (p := ⟨cB, _, none⟩) dm.out _).trans (((cell_far (p := ⟨cB, _, none⟩) dm.out _).trans (hHeld.2.1)))), ((cell_far (p := ⟨cB, _, none⟩) dh.out _).trans (((cell_far (p := ⟨cB, _, none⟩) dh.out _).trans (hHeld.2.2.1)))), ((cell_far (p := ⟨cB, _, none⟩) dh.out _).trans (((cell_far (p := ⟨cB, _, none⟩) dh.out _).trans (hHeld.2.2.2))))⟩ (fun hHeld => ?_)
 clear hK K
 refine wX (by kernel_rfl) ?_
 try go_wp2
 refine bodyPost_ret (results_cell_row rfl _ _ cB 25 #[.bool jM, .slice uo t109.length sw] (0, 0) _ rfl (by refine dG (cs := #[.bool jM, .slice none 0 0]) ?_ 1 _ rfl; refine dG (cs := #[.bool false, .slice none 0 0]) ?_ 0 _ rfl; (with_reducible repeat (first | refine bP ?_ _ | refine bf ?_ | refine bO ?_ _)); exact aJ.out) Tryd.underlying25 rfl (by kernel_rfl)) rfl ?_
 exact ⟨_, by first | rfl | (simp [errW_none, errW_some] <;> rfl) | (simp [*, errW_none, errW_some] <;> rfl), by (with_reducible repeat (first | apply Kd.bu | apply Kd.bv | apply Kd.bg)); exact Kd.bG (Kd.bH (p := ⟨cB, 1, none⟩) (Kd.bH (p := ⟨cB, 0, none⟩) (Kd.bU qQ.out aJ.out (by decide)) (fun _ hk => hk.2) (.bool jM)) (fun _ hk => hk.2) (.slice uo t109.length sw)) (fun _ hk => trivial), by repeat (first | (with_reducible first | exact HB.out | apply aM | apply aD | apply aH | refine aQ ?_ gB.out | refine aQ ?_ ib.out | refine aQ ?_ jB.out) | exact HB.out)⟩
end Go.Proofs.YthfphdbebnkdpaaDoor.P
end
section
namespace Go.Proofs.YthfphdbebnkdpaaDoor.P
open Go.RowKit Go.Proofs.YthfphdbebnkdpaaDoorW.aZ Go.Proofs.YthfphdbebnkdpaaDoorW.bL Go.Proofs.YthfphdbebnkdpaaDoorW.dC
attribute [local go_sem] dZ d9 fA fB dH dI ed ek
set_option linter.unusedVariables false
set_option linter.unusedSimpArgs false
def dE.f (dJ : Bool) (cK : List Int) : Option (Int) := if (cK.length : Int) = 0 then (some 0) else (if dJ = true then (some (-1)) else (some 1))
set_option maxHeartbeats 8000000 in
set_option maxRecDepth 100000 in
theorem dE.calls (dJ : Bool) (gy : Option Addr) (c0_1 : Nat) (cK : List Int) (r : Int) (w : World) (hr0_1 : Kd.C (Kd.int .u64) w gy cK.length cK) (hc0_1 : cK.length ≤ c0_1) (h : dE.f dJ cK = some r) :
  Calls Tryd.prog 14 #[.agg #[.bool dJ, .slice gy cK.length c0_1]] w fun e w' => e = .returned (.int .i64 r) ∧ Below w.heap.size w w' := by
 have hu25 := Tryd.underlying25
 have ku := ae.mk hr0_1
 have kv := ae.mk hc0_1
 clear hr0_1 hc0_1
 have HB := ae.mk (Below.refl w.heap.size w)
 have H : (if (cK.length : Int) = 0 then (some 0) else (if dJ = true then (some (-1)) else (some 1))) = some r := h
 clear h
 by_cases c2 : (cK.length : Int) = 0
 ·rw [if_pos c2] at H
  have qM : ((cK.length : Int) == 0) = true := beq_iff_eq.mpr c2
  have Em : ((cK.length : Int) != 0) = false := bne_eq_false_iff_eq.mpr c2
  clear c2
  obtain rfl := Option.some.inj H
  go_enter Tryd.func14, Tryd.ntmps14
  go_wp2_with (first | ((with_reducible refine bR (N := 1) rfl ?_); refine bS ?hg (N := 1) ?hd (cs := #[.bool dJ, .slice gy cK.length c0_1]) (t := 25) ?hr ?_; (case hd => rfl); (case hg => rfl); (case hr => first | (go_simp; done) | (go_simp; rfl)); intro bM hg w3 hbox hb; have ai := ae.mk (hbox); have GW101 := qge HB hg; have gB := qge HB hg; replace HB := ae.mk (av (qw HB) hb); clear hb hbox hg; have hcz4_0 : w3.cell? ⟨bM, 0, none⟩ = some (.bool dJ) := (af ai.out 0).trans rfl; have hcz4_1 : w3.cell? ⟨bM, 1, none⟩ = some (.slice gy cK.length c0_1) := (af ai.out 1).trans rfl; have hfz4_0 := aK ai.out 0; have hfz4_1 := aK ai.out 1))
  go_ret
  exact ⟨by first | rfl | (simp [errW_none, errW_some] <;> rfl) | (simp [*, errW_none, errW_some] <;> rfl), by repeat (first | (with_reducible first | exact HB.out | apply aM | apply aD | apply aH | refine aQ ?_ gB.out) | exact HB.out)⟩
 ·rw [if_neg c2] at H
  have qM : ((cK.length : Int) == 0) = false := beq_eq_false_iff_ne.mpr c2
  have Em : ((cK.length : Int) != 0) = true := bne_iff_ne.mpr c2
  have Kr : ¬ (cK = []) := fun h_ => c2 (by rw [h_]; rfl)
  by_cases c5 : dJ = true
  ·subst c5
   have H1 : (some (-1)) = some r := by rw [if_pos rfl] at H; exact H
   clear H
   have H := H1
   clear H1
   obtain rfl := Option.some.inj H
   go_enter Tryd.func14, Tryd.ntmps14
   go_wp2_with (first | ((with_reducible refine bR (N := 1) rfl ?_); refine bS ?hg (N := 1) ?hd (cs := #[.bool true, .slice gy cK.length c0_1]) (t := 25) ?hr ?_; (case hd => rfl); (case hg => rfl); (case hr => first | (go_simp; done) | (go_simp; rfl)); intro bM hg w6 hbox hb; have ai := ae.mk (hbox); have GW101 := qge HB hg; have gB := qge HB hg; replace HB := ae.mk (av (qw HB) hb); clear hb hbox hg; have hcz7_0 : w6.cell? ⟨bM, 0, none⟩ = some (.bool true) := (af ai.out 0).trans rfl; have hcz7_1 : w6.cell? ⟨bM, 1, none⟩ = some (.slice gy cK.length c0_1) := (af ai.out 1).trans rfl; have hfz7_0 := aK ai.out 0; have hfz7_1 := aK ai.out 1))
   go_ret
   exact ⟨by first | rfl | (simp [errW_none, errW_some] <;> rfl) | (simp [*, errW_none, errW_some] <;> rfl), by repeat (first | (with_reducible first | exact HB.out | apply aM | apply aD | apply aH | refine aQ ?_ gB.out) | exact HB.out)⟩
  ·replace c5 := Bool.eq_false_iff.mpr c5
   subst c5
   have H1 : (some 1) = some r := by rw [if_neg (show ¬ (false = true) by decide)] at H; exact H
   clear H
   have H := H1
   clear H1
   obtain rfl := Option.some.inj H
   go_enter Tryd.func14, Tryd.ntmps14
   go_wp2_with (first | ((with_reducible refine bR (N := 1) rfl ?_); refine bS ?hg (N := 1) ?hd (cs := #[.bool false, .slice gy cK.length c0_1]) (t := 25) ?hr ?_; (case hd => rfl); (case hg => rfl); (case hr => first | (go_simp; done) | (go_simp; rfl)); intro bM hg w8 hbox hb; have ai := ae.mk (hbox); have GW101 := qge HB hg; have gB := qge HB hg; replace HB := ae.mk (av (qw HB) hb); clear hb hbox hg; have hcz9_0 : w8.cell? ⟨bM, 0, none⟩ = some (.bool false) := (af ai.out 0).trans rfl; have hcz9_1 : w8.cell? ⟨bM, 1, none⟩ = some (.slice gy cK.length c0_1) := (af ai.out 1).trans rfl; have hfz9_0 := aK ai.out 0; have hfz9_1 := aK ai.out 1))
   go_ret
   exact ⟨by first | rfl | (simp [errW_none, errW_some] <;> rfl) | (simp [*, errW_none, errW_some] <;> rfl), by repeat (first | (with_reducible first | exact HB.out | apply aM | apply aD | apply aH | refine aQ ?_ gB.out) | exact HB.out)⟩
end Go.Proofs.YthfphdbebnkdpaaDoor.P
end
section
namespace Go.Proofs.YthfphdbebnkdpaaDoor.P
open Go.RowKit Go.Proofs.YthfphdbebnkdpaaDoorW.aZ Go.Proofs.YthfphdbebnkdpaaDoorW.bL Go.Proofs.YthfphdbebnkdpaaDoorW.dC
attribute [local go_sem] dZ d9 fA fB dH dI ed ek
set_option linter.unusedVariables false
set_option linter.unusedSimpArgs false
def dn.f (k : Nat) (dJ : Bool) (cK : List Int) (dX : Bool) (dY : List Int) : Option (Int) := (dE.f dJ cK).bind fun dR => ((dE.f dX dY).bind fun fQ => (if dR < fQ then (some (-1)) else (if dR > fQ then (some 1) else ((gK.f k cK dY).bind fun t105 => (some (wrap64 (dR * t105)))))))
set_option maxHeartbeats 8000000 in
set_option maxRecDepth 100000 in
theorem dn.calls (k : Nat) (dJ : Bool) (gy : Option Addr) (c0_1 : Nat) (cK : List Int) (dX : Bool) (iq : Option Addr) (c1_1 : Nat) (dY : List Int) (r : Int) (w : World) (hr0_1 : Kd.C (Kd.int .u64) w gy cK.length cK) (hc0_1 : cK.length ≤ c0_1) (hr1_1 : Kd.C (Kd.int .u64) w iq dY.length dY) (hc1_1 : dY.length ≤ c1_1) (h : dn.f k dJ cK dX dY = some r) :
  Calls Tryd.prog 12 #[.agg #[.bool dJ, .slice gy cK.length c0_1], .agg #[.bool dX, .slice iq dY.length c1_1]] w fun e w' => e = .returned (.int .i64 r) ∧ Below w.heap.size w w' := by
 have hu25 := Tryd.underlying25
 have ku := ae.mk hr0_1
 have kv := ae.mk hc0_1
 clear hr0_1 hc0_1
 have ny := ae.mk hr1_1
 have nz := ae.mk hc1_1
 clear hr1_1 hc1_1
 have HB := ae.mk (Below.refl w.heap.size w)
 have H : ((dE.f dJ cK).bind fun dR => ((dE.f dX dY).bind fun fQ => (if dR < fQ then (some (-1)) else (if dR > fQ then (some 1) else ((gK.f k cK dY).bind fun t105 => (some (wrap64 (dR * t105)))))))) = some r := h
 clear h
 replace H := Option.bind_eq_some_iff.mp H
 obtain ⟨dR, A30, H⟩ := H
 replace H : ((dE.f dX dY).bind fun fQ => (if dR < fQ then (some (-1)) else (if dR > fQ then (some 1) else ((gK.f k cK dY).bind fun t105 => (some (wrap64 (dR * t105))))))) = some r := H
 have A3 := ae.mk A30
 clear A30
 replace H := Option.bind_eq_some_iff.mp H
 obtain ⟨fQ, A40, H⟩ := H
 replace H : (if dR < fQ then (some (-1)) else (if dR > fQ then (some 1) else ((gK.f k cK dY).bind fun t105 => (some (wrap64 (dR * t105)))))) = some r := H
 have A4 := ae.mk A40
 clear A40
 by_cases c5 : dR < fQ
 ·rw [if_pos c5] at H
  have jW : decide (dR < fQ) = true := decide_eq_true c5
  clear c5
  obtain rfl := Option.some.inj H
  go_enter Tryd.func12, Tryd.ntmps12
  try go_wp2_with (first | ((with_reducible refine bR (N := 2) rfl ?_); refine bS ?hg (N := 2) ?hd (cs := #[.bool dJ, .slice gy cK.length c0_1]) (t := 25) ?hr ?_; (case hd => rfl); (case hg => rfl); (case hr => first | (go_simp; done) | (go_simp; rfl)); intro bM hg w6 hbox hb; have ai := ae.mk (hbox); have GW101 := qge HB hg; have gB := qge HB hg; replace HB := ae.mk (av (qw HB) hb); clear hb hbox hg) | ((with_reducible refine bR (N := 3) rfl ?_); refine bS ?hg (N := 3) ?hd (cs := #[.bool dX, .slice iq dY.length c1_1]) (t := 25) ?hr ?_; (case hd => rfl); (case hg => rfl); (case hr => first | (go_simp; done) | (go_simp; rfl)); intro cu hg w7 hbox hb; have au := ae.mk (hbox); have GW102 := qge HB hg; have ib := qge HB hg; replace HB := ae.mk (av (qw HB) hb); have eD := qnl ai hg; have eF := qng ai hg; replace ai := qbb ai hb; clear hb hbox hg))
  replace ai := ae.mk (bf ai.out)
  replace au := ae.mk (bf au.out)
  replace HB := ae.mk (aH HB.out)
  refine j6 (n := 6) (S := fun w' => w'.cell? ⟨bM, 0, none⟩ = some (.bool dJ) ∧ w'.cell? ⟨bM, 1, none⟩ = some (.slice gy cK.length c0_1) ∧ w'.cell? ⟨cu, 0, none⟩ = some (.bool dX) ∧ w'.cell? ⟨cu, 1, none⟩ = some (.slice iq dY.length c1_1)) (ds := []) #[bF,bF,bF,bF,bF,bF] (by kernel_rfl) rfl rfl ⟨(af ai.out 0).trans rfl, (af ai.out 1).trans rfl, (af au.out 0).trans rfl, (af au.out 1).trans rfl⟩ (fun hHeld => ?_)
  generalize w7.drew = w8 at ai au HB hHeld ⊢
  refine oV (i := 0) (N := some 7) (v := ?_) (a' := ?_) #[bT,bF,bF,bF,bF,bF] rfl rfl (by kernel_rfl) (fun _ _ _ h => h) (Or.inl ⟨by rfl, ?_⟩) hHeld ?_ ?_
  rotate_left
  ·rintro w' ⟨s0, s1, s2, s3⟩
   go_simp
   with_reducible rfl
  rotate_left
  ·exact qJ
  refine oV (i := 2) (N := some 9) (v := ?_) (a' := ?_) #[bT,bF,bT,bF,bF,bF] rfl rfl (by kernel_rfl) (fun _ _ _ h => h) (Or.inl ⟨by rfl, ?_⟩) hHeld ?_ ?_
  rotate_left
  ·rintro w' ⟨s0, s1, s2, s3⟩
   go_simp
   with_reducible rfl
  rotate_left
  ·exact qJ
  refine vE (i := 1) (N := some 8) #[bT,bT,bT,bF,bF,bF] rfl rfl (by kernel_rfl) (by decide) (fun K hK => ?_)
  refine fo Tryd.func14 #[.agg #[.bool dJ, .slice gy cK.length c0_1]] ?_
  with_reducible refine (dE.calls dJ _ _ cK dR _ ?aU ?aV A3.out).mono ?_
  (case aU => exact qs ((Kd.dS ku.out HB.out)))
  (case aV => exact kv.out)
  rintro e w9 ⟨rfl, hb⟩
  refine ⟨_, rfl, ?_⟩
  replace ai := qbb ai hb
  replace au := qbb au hb
  replace HB := ae.mk (av (qw HB) hb)
  (try clear hb)
  (try clear hb2)
  (try clear hk)
  (try clear hi)
  refine hK.out _ _ ⟨(af ai.out 0).trans rfl, (af ai.out 1).trans rfl, (af au.out 0).trans rfl, (af au.out 1).trans rfl⟩ (fun hHeld => ?_)
  clear hK K
  refine eY (some 8) ?_
  refine vE (i := 3) (N := some 10) #[bT,bT,bT,bT,bF,bF] rfl rfl (by kernel_rfl) (by decide) (fun K hK => ?_)
  refine fo Tryd.func14 #[.agg #[.bool dX, .slice iq dY.length c1_1]] ?_
  with_reducible refine (dE.calls dX _ _ dY fQ _ ?aU ?aV A4.out).mono ?_
  (case aU => exact qs ((Kd.dS ny.out HB.out)))
  (case aV => exact nz.out)
  rintro e w10 ⟨rfl, hb⟩
  refine ⟨_, rfl, ?_⟩
  replace ai := qbb ai hb
  replace au := qbb au hb
  replace HB := ae.mk (av (qw HB) hb)
  (try clear hb)
  (try clear hb2)
  (try clear hk)
  (try clear hi)
  refine hK.out _ _ ⟨(af ai.out 0).trans rfl, (af ai.out 1).trans rfl, (af au.out 0).trans rfl, (af au.out 1).trans rfl⟩ (fun hHeld => ?_)
  clear hK K
  refine eY (some 10) ?_
  refine tL (i := 4) (N := some 5) (v := ?_) (a' := ?_) #[bT,bT,bT,bT,bT,bF] rfl rfl (by kernel_rfl) (fun _ _ _ h => h) (Or.inl ⟨by rfl, ?_⟩) ?_ ?_
  rotate_left
  ·intro w'
   go_simp
   with_reducible rfl
  rotate_left
  ·exact qJ
  refine tL (i := 5) (N := some 6) (v := ?_) (a' := ?_) #[bT,bT,bT,bT,bT,bT] rfl rfl (by kernel_rfl) (fun _ _ _ h => h) (Or.inl ⟨by rfl, ?_⟩) ?_ ?_
  rotate_left
  ·intro w'
   go_simp
   with_reducible rfl
  rotate_left
  ·exact qJ
  refine wX (by kernel_rfl) ?_
  try go_wp2
  go_ret
  exact ⟨by first | rfl | (simp [errW_none, errW_some] <;> rfl) | (simp [*, errW_none, errW_some] <;> rfl), by repeat (first | (with_reducible first | exact HB.out | apply aM | apply aD | apply aH | refine aQ ?_ gB.out | refine aQ ?_ ib.out) | exact HB.out)⟩
 ·rw [if_neg c5] at H
  have jW : decide (dR < fQ) = false := decide_eq_false c5
  clear c5
  by_cases c11 : dR > fQ
  ·rw [if_pos c11] at H
   have qB : decide (fQ < dR) = true := decide_eq_true c11
   clear c11
   obtain rfl := Option.some.inj H
   go_enter Tryd.func12, Tryd.ntmps12
   try go_wp2_with (first | ((with_reducible refine bR (N := 2) rfl ?_); refine bS ?hg (N := 2) ?hd (cs := #[.bool dJ, .slice gy cK.length c0_1]) (t := 25) ?hr ?_; (case hd => rfl); (case hg => rfl); (case hr => first | (go_simp; done) | (go_simp; rfl)); intro bM hg w12 hbox hb; have ai := ae.mk (hbox); have GW101 := qge HB hg; have gB := qge HB hg; replace HB := ae.mk (av (qw HB) hb); clear hb hbox hg) | ((with_reducible refine bR (N := 3) rfl ?_); refine bS ?hg (N := 3) ?hd (cs := #[.bool dX, .slice iq dY.length c1_1]) (t := 25) ?hr ?_; (case hd => rfl); (case hg => rfl); (case hr => first | (go_simp; done) | (go_simp; rfl)); intro cu hg w13 hbox hb; have au := ae.mk (hbox); have GW102 := qge HB hg; have ib := qge HB hg; replace HB := ae.mk (av (qw HB) hb); have eD := qnl ai hg; have eF := qng ai hg; replace ai := qbb ai hb; clear hb hbox hg))
   replace ai := ae.mk (bf ai.out)
   replace au := ae.mk (bf au.out)
   replace HB := ae.mk (aH HB.out)
   refine j6 (n := 6) (S := fun w' => w'.cell? ⟨bM, 0, none⟩ = some (.bool dJ) ∧ w'.cell? ⟨bM, 1, none⟩ = some (.slice gy cK.length c0_1) ∧ w'.cell? ⟨cu, 0, none⟩ = some (.bool dX) ∧ w'.cell? ⟨cu, 1, none⟩ = some (.slice iq dY.length c1_1)) (ds := []) #[bF,bF,bF,bF,bF,bF] (by kernel_rfl) rfl rfl ⟨(af ai.out 0).trans rfl, (af ai.out 1).trans rfl, (af au.out 0).trans rfl, (af au.out 1).trans rfl⟩ (fun hHeld => ?_)
   generalize w13.drew = w14 at ai au HB hHeld ⊢
   refine oV (i := 0) (N := some 7) (v := ?_) (a' := ?_) #[bT,bF,bF,bF,bF,bF] rfl rfl (by kernel_rfl) (fun _ _ _ h => h) (Or.inl ⟨by rfl, ?_⟩) hHeld ?_ ?_
   rotate_left
   ·rintro w' ⟨s0, s1, s2, s3⟩
    go_simp
    with_reducible rfl
   rotate_left
   ·exact qJ
   refine oV (i := 2) (N := some 9) (v := ?_) (a' := ?_) #[bT,bF,bT,bF,bF,bF] rfl rfl (by kernel_rfl) (fun _ _ _ h => h) (Or.inl ⟨by rfl, ?_⟩) hHeld ?_ ?_
   rotate_left
   ·rintro w' ⟨s0, s1, s2, s3⟩
    go_simp
    with_reducible rfl
   rotate_left
   ·exact qJ
   refine vE (i := 1) (N := some 8) #[bT,bT,bT,bF,bF,bF] rfl rfl (by kernel_rfl) (by decide) (fun K hK => ?_)
   refine fo Tryd.func14 #[.agg #[.bool dJ, .slice gy cK.length c0_1]] ?_
   with_reducible refine (dE.calls dJ _ _ cK dR _ ?aU ?aV A3.out).mono ?_
   (case aU => exact qs ((Kd.dS ku.out HB.out)))
   (case aV => exact kv.out)
   rintro e w15 ⟨rfl, hb⟩
   refine ⟨_, rfl, ?_⟩
   replace ai := qbb ai hb
   replace au := qbb au hb
   replace HB := ae.mk (av (qw HB) hb)
   (try clear hb)
   (try clear hb2)
   (try clear hk)
   (try clear hi)
   refine hK.out _ _ ⟨(af ai.out 0).trans rfl, (af ai.out 1).trans rfl, (af au.out 0).trans rfl, (af au.out 1).trans rfl⟩ (fun hHeld => ?_)
   clear hK K
   refine eY (some 8) ?_
   refine vE (i := 3) (N := some 10) #[bT,bT,bT,bT,bF,bF] rfl rfl (by kernel_rfl) (by decide) (fun K hK => ?_)
   refine fo Tryd.func14 #[.agg #[.bool dX, .slice iq dY.length c1_1]] ?_
   with_reducible refine (dE.calls dX _ _ dY fQ _ ?aU ?aV A4.out).mono ?_
   (case aU => exact qs ((Kd.dS ny.out HB.out)))
   (case aV => exact nz.out)
   rintro e w16 ⟨rfl, hb⟩
   refine ⟨_, rfl, ?_⟩
   replace ai := qbb ai hb
   replace au := qbb au hb
   replace HB := ae.mk (av (qw HB) hb)
   (try clear hb)
   (try clear hb2)
   (try clear hk)
   (try clear hi)
   refine hK.out _ _ ⟨(af ai.out 0).trans rfl, (af ai.out 1).trans rfl, (af au.out 0).trans rfl, (af au.out 1).trans rfl⟩ (fun hHeld => ?_)
   clear hK K
   refine eY (some 10) ?_
   refine tL (i := 4) (N := some 5) (v := ?_) (a' := ?_) #[bT,bT,bT,bT,bT,bF] rfl rfl (by kernel_rfl) (fun _ _ _ h => h) (Or.inl ⟨by rfl, ?_⟩) ?_ ?_
   rotate_left
   ·intro w'
    go_simp
    with_reducible rfl
   rotate_left
   ·exact qJ
   refine tL (i := 5) (N := some 6) (v := ?_) (a' := ?_) #[bT,bT,bT,bT,bT,bT] rfl rfl (by kernel_rfl) (fun _ _ _ h => h) (Or.inl ⟨by rfl, ?_⟩) ?_ ?_
   rotate_left
   ·intro w'
    go_simp
    with_reducible rfl
   rotate_left
   ·exact qJ
   refine wX (by kernel_rfl) ?_
   try go_wp2
   go_ret
   exact ⟨by first | rfl | (simp [errW_none, errW_some] <;> rfl) | (simp [*, errW_none, errW_some] <;> rfl), by repeat (first | (with_reducible first | exact HB.out | apply aM | apply aD | apply aH | refine aQ ?_ gB.out | refine aQ ?_ ib.out) | exact HB.out)⟩
  ·rw [if_neg c11] at H
   have qB : decide (fQ < dR) = false := decide_eq_false c11
   clear c11
   replace H := Option.bind_eq_some_iff.mp H
   obtain ⟨t105, A170, H⟩ := H
   replace H : (some (wrap64 (dR * t105))) = some r := H
   have A17 := ae.mk A170
   clear A170
   obtain rfl := Option.some.inj H
   go_enter Tryd.func12, Tryd.ntmps12
   try go_wp2_with (first | ((with_reducible refine bR (N := 2) rfl ?_); refine bS ?hg (N := 2) ?hd (cs := #[.bool dJ, .slice gy cK.length c0_1]) (t := 25) ?hr ?_; (case hd => rfl); (case hg => rfl); (case hr => first | (go_simp; done) | (go_simp; rfl)); intro bM hg w18 hbox hb; have ai := ae.mk (hbox); have GW101 := qge HB hg; have gB := qge HB hg; replace HB := ae.mk (av (qw HB) hb); clear hb hbox hg) | ((with_reducible refine bR (N := 3) rfl ?_); refine bS ?hg (N := 3) ?hd (cs := #[.bool dX, .slice iq dY.length c1_1]) (t := 25) ?hr ?_; (case hd => rfl); (case hg => rfl); (case hr => first | (go_simp; done) | (go_simp; rfl)); intro cu hg w19 hbox hb; have au := ae.mk (hbox); have GW102 := qge HB hg; have ib := qge HB hg; replace HB := ae.mk (av (qw HB) hb); have eD := qnl ai hg; have eF := qng ai hg; replace ai := qbb ai hb; clear hb hbox hg))
   replace ai := ae.mk (bf ai.out)
   replace au := ae.mk (bf au.out)
   replace HB := ae.mk (aH HB.out)
   refine j6 (n := 6) (S := fun w' => w'.cell? ⟨bM, 0, none⟩ = some (.bool dJ) ∧ w'.cell? ⟨bM, 1, none⟩ = some (.slice gy cK.length c0_1) ∧ w'.cell? ⟨cu, 0, none⟩ = some (.bool dX) ∧ w'.cell? ⟨cu, 1, none⟩ = some (.slice iq dY.length c1_1)) (ds := []) #[bF,bF,bF,bF,bF,bF] (by kernel_rfl) rfl rfl ⟨(af ai.out 0).trans rfl, (af ai.out 1).trans rfl, (af au.out 0).trans rfl, (af au.out 1).trans rfl⟩ (fun hHeld => ?_)
   generalize w19.drew = w20 at ai au HB hHeld ⊢
   refine oV (i := 0) (N := some 7) (v := ?_) (a' := ?_) #[bT,bF,bF,bF,bF,bF] rfl rfl (by kernel_rfl) (fun _ _ _ h => h) (Or.inl ⟨by rfl, ?_⟩) hHeld ?_ ?_
   rotate_left
   ·rintro w' ⟨s0, s1, s2, s3⟩
    go_simp
    with_reducible rfl
   rotate_left
   ·exact qJ
   refine oV (i := 2) (N := some 9) (v := ?_) (a' := ?_) #[bT,bF,bT,bF,bF,bF] rfl rfl (by kernel_rfl) (fun _ _ _ h => h) (Or.inl ⟨by rfl, ?_⟩) hHeld ?_ ?_
   rotate_left
   ·rintro w' ⟨s0, s1, s2, s3⟩
    go_simp
    with_reducible rfl
   rotate_left
   ·exact qJ
   refine vE (i := 1) (N := some 8) #[bT,bT,bT,bF,bF,bF] rfl rfl (by kernel_rfl) (by decide) (fun K hK => ?_)
   refine fo Tryd.func14 #[.agg #[.bool dJ, .slice gy cK.length c0_1]] ?_
   with_reducible refine (dE.calls dJ _ _ cK dR _ ?aU ?aV A3.out).mono ?_
   (case aU => exact qs ((Kd.dS ku.out HB.out)))
   (case aV => exact kv.out)
   rintro e w21 ⟨rfl, hb⟩
   refine ⟨_, rfl, ?_⟩
   replace ai := qbb ai hb
   replace au := qbb au hb
   replace HB := ae.mk (av (qw HB) hb)
   (try clear hb)
   (try clear hb2)
   (try clear hk)
   (try clear hi)
   refine hK.out _ _ ⟨(af ai.out 0).trans rfl, (af ai.out 1).trans rfl, (af au.out 0).trans rfl, (af au.out 1).trans rfl⟩ (fun hHeld => ?_)
   clear hK K
   refine eY (some 8) ?_
   refine vE (i := 3) (N := some 10) #[bT,bT,bT,bT,bF,bF] rfl rfl (by kernel_rfl) (by decide) (fun K hK => ?_)
   refine fo Tryd.func14 #[.agg #[.bool dX, .slice iq dY.length c1_1]] ?_
   with_reducible refine (dE.calls dX _ _ dY fQ _ ?aU ?aV A4.out).mono ?_
   (case aU => exact qs ((Kd.dS ny.out HB.out)))
   (case aV => exact nz.out)
   rintro e w22 ⟨rfl, hb⟩
   refine ⟨_, rfl, ?_⟩
   replace ai := qbb ai hb
   replace au := qbb au hb
   replace HB := ae.mk (av (qw HB) hb)
   (try clear hb)
   (try clear hb2)
   (try clear hk)
   (try clear hi)
   refine hK.out _ _ ⟨(af ai.out 0).trans rfl, (af ai.out 1).trans rfl, (af au.out 0).trans rfl, (af au.out 1).trans rfl⟩ (fun hHeld => ?_)
   clear hK K
   refine eY (some 10) ?_
   refine tL (i := 4) (N := some 5) (v := ?_) (a' := ?_) #[bT,bT,bT,bT,bT,bF] rfl rfl (by kernel_rfl) (fun _ _ _ h => h) (Or.inl ⟨by rfl, ?_⟩) ?_ ?_
   rotate_left
   ·intro w'
    go_simp
    with_reducible rfl
   rotate_left
   ·exact qJ
   refine tL (i := 5) (N := some 6) (v := ?_) (a' := ?_) #[bT,bT,bT,bT,bT,bT] rfl rfl (by kernel_rfl) (fun _ _ _ h => h) (Or.inl ⟨by rfl, ?_⟩) ?_ ?_
   rotate_left
   ·intro w'
    go_simp
    with_reducible rfl
   rotate_left
   ·exact qJ
   refine wX (by kernel_rfl) ?_
   have hnb23 := eD.out
   have hnc23 := eF.out
   have hcz24_0 : w22.cell? ⟨bM, 0, none⟩ = some (.bool dJ) := (af ai.out 0).trans rfl
   have hcz24_1 : w22.cell? ⟨bM, 1, none⟩ = some (.slice gy cK.length c0_1) := (af ai.out 1).trans rfl
   have hfz24_0 := aK ai.out 0
   have hfz24_1 := aK ai.out 1
   have hcz25_0 : w22.cell? ⟨cu, 0, none⟩ = some (.bool dX) := (af au.out 0).trans rfl
   have hcz25_1 : w22.cell? ⟨cu, 1, none⟩ = some (.slice iq dY.length c1_1) := (af au.out 1).trans rfl
   have hfz25_0 := aK au.out 0
   have hfz25_1 := aK au.out 1
   try go_wp2_with (first | ((with_reducible refine aW (f := 33) rfl ?_); refine cO (some 24) rfl rfl Tryd.func33 (by kernel_rfl) rfl #[.slice gy cK.length c0_1, .slice iq dY.length c1_1] rfl qt ?_; (with_reducible refine (gK.calls k _ _ cK _ _ dY t105 _ ?aU ?aV ?bJ ?bK A17.out).mono ?_); (case aU => exact qs ((Kd.dS ku.out HB.out))); (case aV => exact kv.out); (case bJ => exact qs ((Kd.dS ny.out HB.out))); (case bK => exact nz.out); rintro e w' ⟨rfl, ⟨nd, rfl⟩⟩; refine ⟨_, rfl, ?_⟩))
   go_ret
   exact ⟨by first | rfl | (simp [errW_none, errW_some] <;> rfl) | (simp [*, errW_none, errW_some] <;> rfl), by repeat (first | (with_reducible first | exact HB.out | apply aM | apply aD | apply aH | refine aQ ?_ gB.out | refine aQ ?_ ib.out) | exact HB.out)⟩
end Go.Proofs.YthfphdbebnkdpaaDoor.P
end
section
set_option linter.unusedVariables false
set_option linter.unusedSimpArgs false
namespace Go.Proofs.YthfphdbebnkdpaaDoor.Pn
open Go.Proofs.YthfphdbebnkdpaaDoor.P Go.Proofs.YthfphdbebnkdpaaDoorW.aZ Go.Proofs.YthfphdbebnkdpaaDoorW.bL Go.RowKit
def sg (s : Bool) (n : Nat) : Int := if s then -(n : Int) else (n : Int)
def zb (z : Int) : Bool := decide (z < 0)
def zl (z : Int) : List Int := dg z.natAbs
theorem Gq (s : Bool) (n : Nat) : zb (sg s n) = (s && decide (n ≠ 0)) := by
  cases s
  · exact decide_eq_false (Int.not_lt.2 (Int.natCast_nonneg n))
  · rw [Bool.true_and]
    exact decide_eq_decide.2 (show (-(n : Int) < 0) ↔ n ≠ 0 from by omega)
theorem EP (s : Bool) (n : Nat) : zl (sg s n) = dg n := by cases s <;> simp [zl, sg]
theorem oC (s : Bool) (n : Nat) (hn : (dg n).length ≤ 1000000) : Ev (fun k => aX.f k s (dg n)) (zb (sg s n), zl (sg s n)) := by
  rw [Gq, EP]
  refine Ev.bind (f := fun k kU => (if s = true then (some (decide (0 < kU.1.length), kU.1)) else (some (false, kU.1)))) (yZ n (Nat.le_trans hn (by decide))) (Ev.now' fun k => ?_)
  cases s
  · rfl
  · have : decide (0 < (dg n).length) = (true && decide (n ≠ 0)) := by
      rw [Bool.true_and]
      refine decide_eq_decide.2 ⟨fun h h0 => ?_, fun h => Nat.pos_of_ne_zero fun h1 => h (pO.1 (List.eq_nil_of_length_eq_zero h1))⟩
      rw [h0, iL] at h; exact absurd h (by decide)
    rw [if_pos rfl, this]
theorem EQ (z : Int) : sg (!zb z) z.natAbs = -z := by
  unfold sg zb
  by_cases h : z < 0
  · rw [decide_eq_true h, if_neg (by decide)]; omega
  · rw [decide_eq_false h, if_pos (by decide)]; omega
theorem Gr (z : Int) (hz : (zl z).length ≤ 1000000) : Ev (fun k => oU.f k (zb z) (zl z)) (zb (-z), zl (-z)) := by
  have h := oC (!zb z) z.natAbs hz
  rw [EQ] at h
  exact Ev.bind (f := fun _ kN => some (kN.1, kN.2)) h (Ev.now _)
theorem ER (x y : Int) : sg (zb x != zb y) (x.natAbs * y.natAbs) = x * y := by
  rw [← Int.natAbs_mul]
  rcases Int.lt_or_le x 0 with hx | hx <;> rcases Int.lt_or_le y 0 with hy | hy
  · have : 0 ≤ x * y := Int.le_of_lt (Int.mul_pos_of_neg_of_neg hx hy)
    rw [show zb x = true from decide_eq_true hx, show zb y = true from decide_eq_true hy]; simp only [sg, bne_self_eq_false, Bool.false_eq_true, if_false]
    exact Int.natAbs_of_nonneg this
  · have : x * y ≤ 0 := Int.mul_nonpos_of_nonpos_of_nonneg (Int.le_of_lt hx) hy
    rw [show zb x = true from decide_eq_true hx, show zb y = false from decide_eq_false (Int.not_lt.2 hy)]; simp only [sg, Bool.true_bne, Bool.not_false, if_true]
    generalize x * y = z at this ⊢; omega
  · have : x * y ≤ 0 := Int.mul_nonpos_of_nonneg_of_nonpos hx (Int.le_of_lt hy)
    rw [show zb y = true from decide_eq_true hy, show zb x = false from decide_eq_false (Int.not_lt.2 hx)]; simp only [sg, Bool.false_bne, if_true]
    generalize x * y = z at this ⊢; omega
  · have : 0 ≤ x * y := Int.mul_nonneg hx hy
    rw [show zb x = false from decide_eq_false (Int.not_lt.2 hx), show zb y = false from decide_eq_false (Int.not_lt.2 hy)]; simp only [sg, bne_self_eq_false, Bool.false_eq_true, if_false]
    exact Int.natAbs_of_nonneg this
theorem tV (x y : Int) (hx : (zl x).length ≤ 50000) (hy : (zl y).length ≤ 50000) : Ev (fun k => bC.f k (zb x) (zl x) (zb y) (zl y)) (zb (x * y), zl (x * y)) := by
  have h := oC (zb x != zb y) (x.natAbs * y.natAbs) (Nat.le_trans (sH _ _) (Nat.le_trans (Nat.add_le_add hx hy) (by decide)))
  rw [ER] at h
  exact Ev.bind (f := fun k fQ => (aX.f k (zb x != zb y) fQ).bind fun iM => some (iM.1, iM.2)) (Ex _ _ hx hy) (Ev.bind (f := fun _ iM => some (iM.1, iM.2)) h (Ev.now _))
theorem BF (x : Int) : (zb x = true ↔ x < 0) := decide_eq_true_iff
theorem xE (s : Bool) (n : Nat) : (s = true ∧ sg s n = -(n : Int)) ∨ (s = false ∧ sg s n = (n : Int)) := by cases s <;> simp [sg]
theorem nA (x : Int) : (zb x = true ∧ x < 0) ∨ (zb x = false ∧ 0 ≤ x) := by
  by_cases h : x < 0
  · exact .inl ⟨decide_eq_true h, h⟩
  · exact .inr ⟨decide_eq_false h, Int.not_lt.1 h⟩
theorem ES (x y : Int) (h : zb x = zb y) : sg (zb x) (x.natAbs + y.natAbs) = x + y := by
  rcases nA x with ⟨h1, h2⟩ | ⟨h1, h2⟩ <;> rcases nA y with ⟨h3, h4⟩ | ⟨h3, h4⟩ <;> rcases xE (zb x) (x.natAbs + y.natAbs) with ⟨h5, h6⟩ | ⟨h5, h6⟩ <;> simp [h1, h3] at h h5 <;> omega
theorem BG (x y : Int) (h : zb x ≠ zb y) (hle : y.natAbs ≤ x.natAbs) : sg (zb x) (x.natAbs - y.natAbs) = x + y := by
  rcases nA x with ⟨h1, h2⟩ | ⟨h1, h2⟩ <;> rcases nA y with ⟨h3, h4⟩ | ⟨h3, h4⟩ <;> rcases xE (zb x) (x.natAbs - y.natAbs) with ⟨h5, h6⟩ | ⟨h5, h6⟩ <;> simp [h1, h3] at h h5 <;> omega
theorem wP (n m L : Nat) (h : (dg n).length ≤ L) : (dg (n - m)).length ≤ L := Nat.le_trans (jr (Nat.sub_le _ _)) h
theorem sM (x y : Int) (hx : (zl x).length ≤ 900000) (hy : (zl y).length ≤ 900000) : Ev (fun k => bE.f k (zb x) (zl x) (zb y) (zl y)) (zb (x + y), zl (x + y)) := by
  have hx6 : (zl x).length ≤ 1000000 := Nat.le_trans hx (by decide)
  have hy6 : (zl y).length ≤ 1000000 := Nat.le_trans hy (by decide)
  by_cases h : zb x = zb y
  · have hm := oC (zb x) (x.natAbs + y.natAbs) (Nat.le_trans (pG _ _ 900000 hx hy) (by decide))
    rw [ES x y h] at hm
    refine Ev.congr (f := fun k => (dU.f k (zl x) (zl y)).bind fun fQ => ((aX.f k (zb x) fQ).bind fun iM => (some (iM.1, iM.2)))) (fun k => ?_)
      (Ev.bind (f := fun k fQ => ((aX.f k (zb x) fQ).bind fun iM => (some (iM.1, iM.2)))) (qO _ _ hx6 hy6) (Ev.bind (f := fun _ iM => some (iM.1, iM.2)) hm (Ev.now _)))
    rw [bE.f, if_pos (by rw [h]; exact beq_self_eq_true _)]
  · refine Ev.congr (f := fun k => (dx.f k (zl x) (zl y)).bind fun kr => (if kr.2 = 0 then ((aX.f k (zb x) kr.1).bind fun pI => (some (pI.1, pI.2))) else ((dx.f k (zl y) (zl x)).bind fun nW => ((aX.f k (zb y) nW.1).bind fun j4 => (some (j4.1, j4.2)))))) (fun k => ?_) ?_
    · rw [bE.f, if_neg (by rw [beq_iff_eq]; exact h)]
    by_cases hle : y.natAbs ≤ x.natAbs
    · have hm := oC (zb x) (x.natAbs - y.natAbs) (wP _ _ _ hx6)
      rw [BG x y h hle] at hm
      refine Ev.bind (uQ _ _ hx6 hy6 hle) (Ev.congr (f := fun k => (aX.f k (zb x) (dg (x.natAbs - y.natAbs))).bind fun pI => (some (pI.1, pI.2))) (fun k => ?_) (Ev.bind (f := fun _ iM => some (iM.1, iM.2)) hm (Ev.now _)))
      rw [if_pos rfl]
    · have hlt := Nat.lt_of_not_le hle
      have hm := oC (zb y) (y.natAbs - x.natAbs) (wP _ _ _ hy6)
      rw [BG y x (Ne.symm h) (Nat.le_of_lt hlt), Int.add_comm] at hm
      have hs : Ev (fun k => dx.f k (zl y) (zl x)) (dg (y.natAbs - x.natAbs), 0) := uQ _ _ hy6 hx6 (Nat.le_of_lt hlt)
      refine Ev.bind (AL _ _ hx6 hy6 hlt) (Ev.congr (f := fun k => (dx.f k (zl y) (zl x)).bind fun nW => ((aX.f k (zb y) nW.1).bind fun j4 => (some (j4.1, j4.2)))) (fun k => ?_)
        (Ev.bind (f := fun k nW => ((aX.f k (zb y) nW.1).bind fun j4 => (some (j4.1, j4.2)))) hs (Ev.bind (f := fun _ iM => some (iM.1, iM.2)) hm (Ev.now _))))
      rw [if_neg (by decide)]
theorem Gs (x y : Int) (hx : (zl x).length ≤ 900000) (hy : (zl y).length ≤ 900000) : Ev (fun k => jD.f k (zb x) (zl x) (zb y) (zl y)) (zb (x - y), zl (x - y)) := by
  have e : zl (-y) = zl y := by unfold zl; rw [Int.natAbs_neg]
  have h := sM x (-y) hx (by rw [e]; exact hy)
  rw [← Int.sub_eq_add_neg] at h
  exact Ev.bind (f := fun k gV => (bE.f k (zb x) (zl x) gV.1 gV.2).bind fun nZ => some (nZ.1, nZ.2)) (Gr y (Nat.le_trans hy (by decide))) (Ev.bind (f := fun _ nZ => some (nZ.1, nZ.2)) h (Ev.now _))
theorem wQ (x : Int) : dE.f (zb x) (zl x) = some (if x = 0 then 0 else if x < 0 then -1 else 1) := by
  unfold dE.f
  by_cases h : x = 0
  · subst h
    rw [if_pos (show ((zl 0).length : Int) = 0 from by rw [show zl 0 = [] from iL]; rfl), if_pos rfl]
  · have hl : ¬ ((zl x).length : Int) = 0 := fun h0 => h (by
      have := pO.1 (List.eq_nil_of_length_eq_zero (show (zl x).length = 0 by omega)); omega)
    rw [if_neg hl, if_neg h]
    by_cases h2 : x < 0
    · rw [if_pos ((BF x).2 h2), if_pos h2]
    · rw [if_neg (fun h3 => h2 ((BF x).1 h3)), if_neg h2]
theorem CS (x y : Int) : (if (if x = 0 then (0 : Int) else if x < 0 then -1 else 1) < (if y = 0 then (0 : Int) else if y < 0 then -1 else 1) then (-1 : Int) else if (if x = 0 then (0 : Int) else if x < 0 then -1 else 1) > (if y = 0 then (0 : Int) else if y < 0 then -1 else 1) then 1 else
    wrap64 ((if x = 0 then (0 : Int) else if x < 0 then -1 else 1) * qN x.natAbs y.natAbs)) = (if x < y then (-1 : Int) else if y < x then 1 else 0) := by
  unfold qN
  by_cases hx : x = 0 <;> by_cases hy : y = 0 <;> by_cases hx2 : x < 0 <;> by_cases hy2 : y < 0 <;> simp only [hx, hy, hx2, hy2, if_true, if_false] <;> (repeat' split) <;> first | omega | rfl | (unfold wrap64; omega)
theorem BH (x y : Int) (hx : (zl x).length ≤ 1000000) (hy : (zl y).length ≤ 1000000) : Ev (fun k => dn.f k (zb x) (zl x) (zb y) (zl y)) (if x < y then (-1 : Int) else if y < x then 1 else 0) := by
  have hc : Ev (fun k => gK.f k (zl x) (zl y)) (qN x.natAbs y.natAbs) := wI _ _ (Nat.le_trans hx (by decide)) (Nat.le_trans hy (by decide))
  have h1 := wQ x
  have h2 := wQ y
  rw [← CS]
  generalize (if x = 0 then (0 : Int) else if x < 0 then -1 else 1) = sx at *
  generalize (if y = 0 then (0 : Int) else if y < 0 then -1 else 1) = sy at *
  refine Ev.congr (f := fun k => (if sx < sy then (some (-1)) else (if sx > sy then (some 1) else ((gK.f k (zl x) (zl y)).bind fun t105 => (some (wrap64 (sx * t105))))))) (fun k => ?_) ?_
  · rw [dn.f, h1, Option.bind_some, h2, Option.bind_some]
  by_cases ha : sx < sy
  · rw [if_pos ha]
    exact Ev.now' fun k => by rw [if_pos ha]
  · rw [if_neg ha]
    by_cases hb : sx > sy
    · rw [if_pos hb]
      exact Ev.now' fun k => by rw [if_neg ha, if_pos hb]
    · rw [if_neg hb]
      exact Ev.congr (fun k => by rw [if_neg ha, if_neg hb]) (Ev.bind (f := fun _ t105 => some (wrap64 (sx * t105))) hc (Ev.now _))
end Go.Proofs.YthfphdbebnkdpaaDoor.Pn
end
section
namespace Go.Proofs.YthfphdbebnkdpaaDoor.P
open Go.RowKit Go.Proofs.YthfphdbebnkdpaaDoorW.aZ Go.Proofs.YthfphdbebnkdpaaDoorW.bL Go.Proofs.YthfphdbebnkdpaaDoorW.dC
attribute [local go_sem] dZ d9 fA fB dH dI ed ek
set_option linter.unusedVariables false
set_option linter.unusedSimpArgs false
def dB.j0 : Nat → List Int → List Int → Int → Bool → Bool → List Int → Bool → List Int → Option (Bool × List Int × Bool × List Int × Int)
 | 0, _, _, _, _, _, _, _, _ => none
 | k + 1, x7, x8, x9, x33, kK, mg, jZ, j3 => if x33 = true then ((jh.f k 1).bind fun nY => ((dU.f k x7 nY).bind fun lw => ((dx.f k j3 x8).bind fun mh => ((aX.f k (kK != jZ) lw).bind fun jS => ((aX.f k jZ mh.1).bind fun iW => (some (jS.1, jS.2, iW.1, iW.2, x9))))))) else ((aX.f k (kK != jZ) x7).bind fun tX => ((aX.f k jZ x8).bind fun gD => (some (tX.1, tX.2, gD.1, gD.2, x9))))
def dB.f (k : Nat) (dJ : Bool) (cK : List Int) (dX : Bool) (dY : List Int) : Option (Bool × List Int × Bool × List Int × Int) := (fI.f k cK dY).bind fun eH => (if eH.2.2 = 0 then (if (dJ != dX) = true then (dB.j0 k eH.1 eH.2.1 eH.2.2 (decide (0 < eH.2.1.length)) dJ cK dX dY) else (dB.j0 k eH.1 eH.2.1 eH.2.2 false dJ cK dX dY)) else (some (false, ([] : List Int), false, ([] : List Int), eH.2.2)))
def dB.T7 : Bool × List (List Nat × List Nat) := (true, [([], []), ([0], [0]), ([], []), ([2], [2]), ([1, 3], [1, 3]), ([], []), ([4, 5], [4, 5]), ([], []), ([7], [7]), ([], []), ([8, 9, 6], [8, 9]), ([], []), ([6, 10, 0, 1, 2, 3, 4, 5, 6], [6]), ([10, 12, 0, 1, 2, 3, 4, 5, 6, 7, 8, 9, 10, 12], [10]), ([11, 13, 0, 1, 2, 3, 4, 5, 6, 7, 8, 9, 10, 11, 12, 13], [11])])
def dB.B7 : List Nat := [0, 1, 0, 4, 15, 0, 63, 0, 128, 0, 1023, 0, 2047, 6143, 16383]
theorem dB.Gt : mi .any (opsOf Tryd.f13 7) = dB.T7 := by kernel_rfl
theorem dB.Du : kJ dB.T7.2 dB.B7 = true := by kernel_rfl
set_option maxHeartbeats 8000000 in
set_option maxRecDepth 100000 in
theorem dB.calls (k : Nat) (dJ : Bool) (gy : Option Addr) (c0_1 : Nat) (cK : List Int) (dX : Bool) (iq : Option Addr) (c1_1 : Nat) (dY : List Int) (r1 : Bool) (r2 : List Int) (r3 : Bool) (r4 : List Int) (r5 : Int) (w : World) (hr0_1 : Kd.C (Kd.int .u64) w gy cK.length cK) (hc0_1 : cK.length ≤ c0_1) (hr1_1 : Kd.C (Kd.int .u64) w iq dY.length dY) (hc1_1 : dY.length ≤ c1_1) (h : dB.f k dJ cK dX dY = some (r1, r2, r3, r4, r5)) :
  Calls Tryd.prog 13 #[.agg #[.bool dJ, .slice gy cK.length c0_1], .agg #[.bool dX, .slice iq dY.length c1_1]] w fun e w' => ∃ v1_ v3_ : Value, e = .returned (.tuple #[.agg #[.bool r1, v1_], .agg #[.bool r3, v3_], .int .i64 r5]) ∧ Kd.R (Kd.int .u64) 64 w' w.heap.size (fun k_ => some k_ ≠ (v3_ : Value).ownBlock) v1_ r2 ∧ Kd.R (Kd.int .u64) 64 w' w.heap.size (fun k_ => some k_ ≠ (v1_ : Value).ownBlock) v3_ r4 ∧ Below w.heap.size w w' := by
 have hu25 := Tryd.underlying25
 have ku := ae.mk hr0_1
 have kv := ae.mk hc0_1
 clear hr0_1 hc0_1
 have ny := ae.mk hr1_1
 have nz := ae.mk hc1_1
 clear hr1_1 hc1_1
 have HB := ae.mk (Below.refl w.heap.size w)
 have H : ((fI.f k cK dY).bind fun eH => (if eH.2.2 = 0 then (if (dJ != dX) = true then (dB.j0 k eH.1 eH.2.1 eH.2.2 (decide (0 < eH.2.1.length)) dJ cK dX dY) else (dB.j0 k eH.1 eH.2.1 eH.2.2 false dJ cK dX dY)) else (some (false, ([] : List Int), false, ([] : List Int), eH.2.2)))) = some (r1, r2, r3, r4, r5) := h
 clear h
 replace H := Option.bind_eq_some_iff.mp H
 obtain ⟨⟨t105, bA, t107⟩, A30, H⟩ := H
 replace H : (if t107 = 0 then (if (dJ != dX) = true then (dB.j0 k t105 bA t107 (decide (0 < bA.length)) dJ cK dX dY) else (dB.j0 k t105 bA t107 false dJ cK dX dY)) else (some (false, ([] : List Int), false, ([] : List Int), t107))) = some (r1, r2, r3, r4, r5) := H
 have A3 := ae.mk A30
 clear A30
 by_cases c4 : t107 = 0
 ·rw [if_pos c4] at H
  have ll : (t107 == 0) = true := beq_iff_eq.mpr c4
  have pQ : (t107 != 0) = false := bne_eq_false_iff_eq.mpr c4
  clear c4
  have HC5 := ae.mk H
  clear H
  go_enter Tryd.func13, Tryd.ntmps13
  go_upto_region 4 with (first | ((with_reducible refine bR (N := 2) rfl ?_); (try (refine iw (by rfl) ?_; dsimp only)); refine bS ?hg (N := 2) ?hd (cs := #[.bool dJ, .slice gy cK.length c0_1]) (t := 25) ?hr ?_; (case hd => rfl); (case hg => rfl); (case hr => first | (go_simp; done) | (go_simp; rfl)); intro bM hg w6 hbox hb; have ai := ae.mk (hbox); have GW101 := qge HB hg; have gB := qge HB hg; replace HB := ae.mk (av (qw HB) hb); clear hb hbox hg) | ((with_reducible refine bR (N := 3) rfl ?_); (try (refine iw (by rfl) ?_; dsimp only)); refine bS ?hg (N := 3) ?hd (cs := #[.bool dX, .slice iq dY.length c1_1]) (t := 25) ?hr ?_; (case hd => rfl); (case hg => rfl); (case hr => first | (go_simp; done) | (go_simp; rfl)); intro cu hg w7 hbox hb; have au := ae.mk (hbox); have GW102 := qge HB hg; have ib := qge HB hg; replace HB := ae.mk (av (qw HB) hb); have eD := qnl ai hg; have eF := qng ai hg; replace ai := qbb ai hb; clear hb hbox hg) | ((with_reducible refine bR (N := 4) rfl ?_); (try (refine iw (by rfl) ?_; dsimp only)); refine bS ?hg (N := 4) ?hd (cs := #[.bool false, .slice none 0 0]) (t := 25) ?hr ?_; (case hd => rfl); (case hg => rfl); (case hr => first | (go_simp; done) | (go_simp; rfl)); intro cB hg w8 hbox hb; have aJ := ae.mk (hbox); have GW103 := qge HB hg; have jB := qge HB hg; replace HB := ae.mk (av (qw HB) hb); have dm := qnl ai hg; have eZ := qng ai hg; replace ai := qbb ai hb; have dh := qnl au hg; have eX := qng au hg; replace au := qbb au hb; clear hb hbox hg) | ((with_reducible refine bR (N := 5) rfl ?_); (try (refine iw (by rfl) ?_; dsimp only)); refine bS ?hg (N := 5) ?hd (cs := #[.bool false, .slice none 0 0]) (t := 25) ?hr ?_; (case hd => rfl); (case hg => rfl); (case hr => first | (go_simp; done) | (go_simp; rfl)); intro jI hg w9 hbox hb; have iC := ae.mk (hbox); have GW104 := qge HB hg; have wm := qge HB hg; replace HB := ae.mk (av (qw HB) hb); have iX := qnl ai hg; have mO := qng ai hg; replace ai := qbb ai hb; have iR := qnl au hg; have lW := qng au hg; replace au := qbb au hb; have jm := qnl aJ hg; have jo := qng aJ hg; replace aJ := qbb aJ hb; clear hb hbox hg; have hnb10 := eD.out; have hnc10 := eF.out; have hnb11 := dm.out; have hnc11 := eZ.out; have hnb12 := iX.out; have hnc12 := mO.out; have hcz13_0 : w9.cell? ⟨bM, 0, none⟩ = some (.bool dJ) := (af ai.out 0).trans rfl; have hcz13_1 : w9.cell? ⟨bM, 1, none⟩ = some (.slice gy cK.length c0_1) := (af ai.out 1).trans rfl; have hfz13_0 := aK ai.out 0; have hfz13_1 := aK ai.out 1; have hnb14 := dh.out; have hnc14 := eX.out; have hnb15 := iR.out; have hnc15 := lW.out; have hcz16_0 : w9.cell? ⟨cu, 0, none⟩ = some (.bool dX) := (af au.out 0).trans rfl; have hcz16_1 : w9.cell? ⟨cu, 1, none⟩ = some (.slice iq dY.length c1_1) := (af au.out 1).trans rfl; have hfz16_0 := aK au.out 0; have hfz16_1 := aK au.out 1) | ((with_reducible refine aW (f := 34) rfl ?_); refine cO (some 15) rfl rfl Tryd.func34 (by kernel_rfl) rfl #[.slice gy cK.length c0_1, .slice iq dY.length c1_1] rfl qt ?_; (with_reducible refine (fI.calls k _ _ cK _ _ dY t105 bA t107 _ ?aU ?aV ?bJ ?bK A3.out).mono ?_); (case aU => exact qs ((Kd.dS ku.out HB.out))); (case aV => exact kv.out); (case bJ => exact qs ((Kd.dS ny.out HB.out))); (case bK => exact nz.out); rintro e w17 ⟨v108, v110, rfl, ho0, ho1, hb⟩; refine ⟨_, rfl, ?_⟩; have gW := ae.mk (Kd.bz ho0 (aN (qw HB))); have qQ := ae.mk (Kd.bz ho1 (aN (qw HB))); replace ai := qbb ai hb; replace au := qbb au hb; replace aJ := qbb aJ hb; replace iC := qbb iC hb; replace HB := ae.mk (av (qw HB) hb); (try clear hb); (try clear hb2); (try clear hk); (try clear hi); (try clear ho0); (try clear ho1)))
  (try simp only [Act.put, List.setIfInBounds_toArray, List.set_cons_zero, List.set_cons_succ])
  go_cut [33] (fun v33 wc => ∃ (kq : Nat) (zo : Bool), v33 = .bool zo ∧ ae (dB.j0 kq t105 bA t107 zo dJ cK dX dY = some (r1, r2, r3, r4, r5)) ∧ ae (kq ≤ k) ∧ ae (Kd.R (Kd.int .u64) 64 wc w.heap.size (fun k_ => some k_ ≠ (v110 : Value).ownBlock) v108 t105) ∧ ae (Kd.R (Kd.int .u64) 64 wc w.heap.size (fun k_ => some k_ ≠ (v108 : Value).ownBlock) v110 bA) ∧ ae (wc.heap[bM]? = some (.cells #[.bool dJ, (.slice gy cK.length c0_1)] 25 (0, 0))) ∧ ae (wc.heap[cu]? = some (.cells #[.bool dX, (.slice iq dY.length c1_1)] 25 (0, 0))) ∧ ae (wc.heap[cB]? = some (.cells #[.bool false, (.slice none 0 0)] 25 (0, 0))) ∧ ae (wc.heap[jI]? = some (.cells #[.bool false, (.slice none 0 0)] 25 (0, 0))) ∧ ae (Below w.heap.size w wc))
  case first =>
   have H := HC5.out
   clear HC5
   by_cases c18 : (dJ != dX) = true
   ·rw [if_pos c18] at H
    have sD : (dJ != dX) = true := c18
    (try (have Dv : decide (dJ = dX) = false := by simpa using c18))
    (try (have Dw : (dJ == dX) = false := by simpa using c18))
    (try (have Kk : ¬ (dJ = dX) := by simpa using c18))
    clear c18
    (first | rw [sD] | (simp only [gT, oW]; rw [sD]) | skip)
    have H' := ae.mk H
    clear H
    have hnb19 := eD.out
    have hnc19 := eF.out
    have hnb20 := dm.out
    have hnc20 := eZ.out
    have hnb21 := iX.out
    have hnc21 := mO.out
    have hcz22_0 : w17.cell? ⟨bM, 0, none⟩ = some (.bool dJ) := (af ai.out 0).trans rfl
    have hcz22_1 : w17.cell? ⟨bM, 1, none⟩ = some (.slice gy cK.length c0_1) := (af ai.out 1).trans rfl
    have hfz22_0 := aK ai.out 0
    have hfz22_1 := aK ai.out 1
    have hnb23 := dh.out
    have hnc23 := eX.out
    have hnb24 := iR.out
    have hnc24 := lW.out
    have hcz25_0 : w17.cell? ⟨cu, 0, none⟩ = some (.bool dX) := (af au.out 0).trans rfl
    have hcz25_1 : w17.cell? ⟨cu, 1, none⟩ = some (.slice iq dY.length c1_1) := (af au.out 1).trans rfl
    have hfz25_0 := aK au.out 0
    have hfz25_1 := aK au.out 1
    obtain ⟨rF, qF, yn⟩ := Kd.bD qQ.out
    subst yn
    go_wp2
    go_meet
    case rel => exact ⟨_, (decide (0 < bA.length)), (by first | rfl | (simp; done) | (simp [*]; done)), H', ⟨by first | omega | exact Nat.le_refl _⟩, ⟨by (with_reducible repeat (first | apply Kd.bu | apply Kd.bv | apply Kd.bg)); exact gW.out⟩, ⟨by (with_reducible repeat (first | apply Kd.bu | apply Kd.bv | apply Kd.bg)); exact qQ.out⟩, ⟨by (with_reducible repeat (first | refine bP ?_ _ | refine bf ?_ | refine bO ?_ _)); exact ai.out⟩, ⟨by (with_reducible repeat (first | refine bP ?_ _ | refine bf ?_ | refine bO ?_ _)); exact au.out⟩, ⟨by (with_reducible repeat (first | refine bP ?_ _ | refine bf ?_ | refine bO ?_ _)); exact aJ.out⟩, ⟨by (with_reducible repeat (first | refine bP ?_ _ | refine bf ?_ | refine bO ?_ _)); exact iC.out⟩, ⟨by repeat (first | (with_reducible first | exact HB.out | apply aM | apply aD | apply aH | refine aQ ?_ gB.out | refine aQ ?_ ib.out | refine aQ ?_ jB.out | refine aQ ?_ wm.out) | exact HB.out)⟩⟩
   ·rw [if_neg c18] at H
    have sD : (dJ != dX) = false := by simpa using c18
    (try (have Dv : decide (dJ = dX) = true := by simpa using c18))
    (try (have Dw : (dJ == dX) = true := by simpa using c18))
    clear c18
    (first | rw [sD] | (simp only [gT, oW]; rw [sD]) | skip)
    have H' := ae.mk H
    clear H
    have hnb27 := eD.out
    have hnc27 := eF.out
    have hnb28 := dm.out
    have hnc28 := eZ.out
    have hnb29 := iX.out
    have hnc29 := mO.out
    have hcz30_0 : w17.cell? ⟨bM, 0, none⟩ = some (.bool dJ) := (af ai.out 0).trans rfl
    have hcz30_1 : w17.cell? ⟨bM, 1, none⟩ = some (.slice gy cK.length c0_1) := (af ai.out 1).trans rfl
    have hfz30_0 := aK ai.out 0
    have hfz30_1 := aK ai.out 1
    have hnb31 := dh.out
    have hnc31 := eX.out
    have hnb32 := iR.out
    have hnc32 := lW.out
    have hcz33_0 : w17.cell? ⟨cu, 0, none⟩ = some (.bool dX) := (af au.out 0).trans rfl
    have hcz33_1 : w17.cell? ⟨cu, 1, none⟩ = some (.slice iq dY.length c1_1) := (af au.out 1).trans rfl
    have hfz33_0 := aK au.out 0
    have hfz33_1 := aK au.out 1
    go_wp2
    go_meet
    case rel => exact ⟨_, (false), (by first | rfl | (simp; done) | (simp [*]; done)), H', ⟨by first | omega | exact Nat.le_refl _⟩, ⟨by (with_reducible repeat (first | apply Kd.bu | apply Kd.bv | apply Kd.bg)); exact gW.out⟩, ⟨by (with_reducible repeat (first | apply Kd.bu | apply Kd.bv | apply Kd.bg)); exact qQ.out⟩, ⟨by (with_reducible repeat (first | refine bP ?_ _ | refine bf ?_ | refine bO ?_ _)); exact ai.out⟩, ⟨by (with_reducible repeat (first | refine bP ?_ _ | refine bf ?_ | refine bO ?_ _)); exact au.out⟩, ⟨by (with_reducible repeat (first | refine bP ?_ _ | refine bf ?_ | refine bO ?_ _)); exact aJ.out⟩, ⟨by (with_reducible repeat (first | refine bP ?_ _ | refine bf ?_ | refine bO ?_ _)); exact iC.out⟩, ⟨by repeat (first | (with_reducible first | exact HB.out | apply aM | apply aD | apply aH | refine aQ ?_ gB.out | refine aQ ?_ ib.out | refine aQ ?_ jB.out | refine aQ ?_ wm.out) | exact HB.out)⟩⟩
  case rest =>
   clear HC5
   try clear c1
   try clear c2
   try clear p2
   try clear c3
   try clear c4
   try clear ll
   try clear pQ
   try clear c10
   try clear c11
   try clear c12
   try clear c13
   try clear c14
   try clear c15
   try clear c18
   try clear sD
   try clear Dv
   try clear Dw
   try clear c19
   try clear c20
   try clear c21
   try clear c23
   try clear c24
   try clear c27
   try clear c28
   try clear c29
   try clear c31
   try clear c32
   try clear hcz13_0
   try clear hcz13_1
   try clear hcz16_0
   try clear hcz16_1
   try clear hcz22_0
   try clear hcz22_1
   try clear hcz25_0
   try clear hcz25_1
   try clear hcz30_0
   try clear hcz30_1
   try clear hcz33_0
   try clear hcz33_1
   try clear hfz13_0
   try clear hfz13_1
   try clear hfz16_0
   try clear hfz16_1
   try clear hfz22_0
   try clear hfz22_1
   try clear hfz25_0
   try clear hfz25_1
   try clear hfz30_0
   try clear hfz30_1
   try clear hfz33_0
   try clear hfz33_1
   obtain ⟨kq, zo, rfl, HA, HJ4, fJ, nk, ai, au, aJ, iC, HB⟩ := hcut
   cases kq with
   | zero => exact absurd HA.out (by simp [dB.j0])
   | succ kj4 =>
    have H := HA.out
    clear HA
    simp only [dB.j0] at H
    by_cases c34 : zo = true
    ·subst c34
     have H1 : ((jh.f kj4 1).bind fun nY => ((dU.f kj4 t105 nY).bind fun lw => ((dx.f kj4 dY bA).bind fun mh => ((aX.f kj4 (dJ != dX) lw).bind fun jS => ((aX.f kj4 dX mh.1).bind fun iW => (some (jS.1, jS.2, iW.1, iW.2, t107))))))) = some (r1, r2, r3, r4, r5) := by rw [if_pos rfl] at H; exact H
     clear H
     have H := H1
     clear H1
     replace H := Option.bind_eq_some_iff.mp H
     obtain ⟨nY, A350, H⟩ := H
     replace H : ((dU.f kj4 t105 nY).bind fun lw => ((dx.f kj4 dY bA).bind fun mh => ((aX.f kj4 (dJ != dX) lw).bind fun jS => ((aX.f kj4 dX mh.1).bind fun iW => (some (jS.1, jS.2, iW.1, iW.2, t107)))))) = some (r1, r2, r3, r4, r5) := H
     have A35 := ae.mk A350
     clear A350
     replace H := Option.bind_eq_some_iff.mp H
     obtain ⟨lw, A360, H⟩ := H
     replace H : ((dx.f kj4 dY bA).bind fun mh => ((aX.f kj4 (dJ != dX) lw).bind fun jS => ((aX.f kj4 dX mh.1).bind fun iW => (some (jS.1, jS.2, iW.1, iW.2, t107))))) = some (r1, r2, r3, r4, r5) := H
     have A36 := ae.mk A360
     clear A360
     replace H := Option.bind_eq_some_iff.mp H
     obtain ⟨⟨pg, t119⟩, A370, H⟩ := H
     replace H : ((aX.f kj4 (dJ != dX) lw).bind fun jS => ((aX.f kj4 dX pg).bind fun iW => (some (jS.1, jS.2, iW.1, iW.2, t107)))) = some (r1, r2, r3, r4, r5) := H
     have A37 := ae.mk A370
     clear A370
     replace H := Option.bind_eq_some_iff.mp H
     obtain ⟨⟨jN, qR⟩, A380, H⟩ := H
     replace H : ((aX.f kj4 dX pg).bind fun iW => (some (jN, qR, iW.1, iW.2, t107))) = some (r1, r2, r3, r4, r5) := H
     have A38 := ae.mk A380
     clear A380
     replace H := Option.bind_eq_some_iff.mp H
     obtain ⟨⟨sN, t127⟩, A390, H⟩ := H
     replace H : (some (jN, qR, sN, t127, t107)) = some (r1, r2, r3, r4, r5) := H
     have A39 := ae.mk A390
     clear A390
     simp only [Option.some.injEq, Prod.mk.injEq] at H
     obtain ⟨rfl, rfl, rfl, rfl, rfl⟩ := H
     try go_wp2_with (first | ((with_reducible refine aW (f := 35) rfl ?_); refine cO (some 35) rfl rfl Tryd.func35 (by kernel_rfl) rfl #[.int .u64 1] rfl qt ?_; (with_reducible refine (jh.calls kj4 1 nY _ A35.out).mono ?_); rintro e w40 ⟨v113, rfl, ho0, hb⟩; refine ⟨_, rfl, ?_⟩; have jH := ae.mk (Kd.bz (Kd.aA (Kd.aA ho0 (Kd.aY (qr fJ))) (Kd.aY (qr nk))) (aN (qw HB))); replace fJ := ae.mk (Kd.aj (qr fJ) (Kd.az ho0) hb); replace nk := ae.mk (Kd.aj (qr nk) (Kd.az ho0) hb); replace ai := qbb ai hb; replace au := qbb au hb; replace aJ := qbb aJ hb; replace iC := qbb iC hb; replace HB := ae.mk (av (qw HB) hb); (try clear hb); (try clear hb2); (try clear hk); (try clear hi); (try clear ho0); obtain ⟨uy, uz, zW⟩ := Kd.bD fJ.out; subst zW; obtain ⟨Cs, Ct, Et⟩ := Kd.bD jH.out; subst Et) | ((with_reducible refine aW (f := 29) rfl ?_); refine cO (some 36) rfl rfl Tryd.func29 (by kernel_rfl) rfl #[.slice uy t105.length uz, .slice Cs nY.length Ct] rfl qt ?_; (with_reducible refine (dU.calls kj4 _ _ t105 _ _ nY lw _ ?aU ?aV ?bJ ?bK A36.out).mono ?_); (case aU => exact qs ((Kd.ak fJ.out).2.2)); (case aV => exact (Kd.ak fJ.out).2.1); (case bJ => exact qs ((Kd.ak jH.out).2.2)); (case bK => exact (Kd.ak jH.out).2.1); rintro e w43 ⟨v116, rfl, ho0, hb⟩; refine ⟨_, rfl, ?_⟩; have ni := ae.mk (Kd.bz (Kd.aA (Kd.aA (Kd.aA ho0 (Kd.aY (qr fJ))) (Kd.aY (qr nk))) (Kd.aY (qr jH))) (aN (qw HB))); replace fJ := ae.mk (Kd.aj (qr fJ) (Kd.az ho0) hb); replace nk := ae.mk (Kd.aj (qr nk) (Kd.az ho0) hb); replace jH := ae.mk (Kd.aj (qr jH) (Kd.az ho0) hb); replace ai := qbb ai hb; replace au := qbb au hb; replace aJ := qbb aJ hb; replace iC := qbb iC hb; replace HB := ae.mk (av (qw HB) hb); (try clear hb); (try clear hb2); (try clear hk); (try clear hi); (try clear ho0); have hnb44 := eF.out; have hnc44 := eD.out; have hnb45 := dh.out; have hnc45 := eX.out; have hnb46 := iR.out; have hnc46 := lW.out; have hcz47_0 : w43.cell? ⟨cu, 0, none⟩ = some (.bool dX) := (af au.out 0).trans rfl; have hcz47_1 : w43.cell? ⟨cu, 1, none⟩ = some (.slice iq dY.length c1_1) := (af au.out 1).trans rfl; have hfz47_0 := aK au.out 0; have hfz47_1 := aK au.out 1; obtain ⟨EB, EC, ED⟩ := Kd.bD nk.out; subst ED) | ((with_reducible refine aW (f := 30) rfl ?_); refine cO (some 41) rfl rfl Tryd.func30 (by kernel_rfl) rfl #[.slice iq dY.length c1_1, .slice EB bA.length EC] rfl qt ?_; (with_reducible refine (dx.calls kj4 _ _ dY _ _ bA pg t119 _ ?aU ?aV ?bJ ?bK A37.out).mono ?_); (case aU => exact qs ((Kd.dS ny.out HB.out))); (case aV => exact nz.out); (case bJ => exact qs ((Kd.ak nk.out).2.2)); (case bK => exact (Kd.ak nk.out).2.1); rintro e w49 ⟨v120, rfl, ho0, hb⟩; refine ⟨_, rfl, ?_⟩; have iA := ae.mk (Kd.bz (Kd.aA (Kd.aA (Kd.aA (Kd.aA ho0 (Kd.aY (qr fJ))) (Kd.aY (qr nk))) (Kd.aY (qr jH))) (Kd.aY (qr ni))) (aN (qw HB))); replace fJ := ae.mk (Kd.aj (qr fJ) (Kd.az ho0) hb); replace nk := ae.mk (Kd.aj (qr nk) (Kd.az ho0) hb); replace jH := ae.mk (Kd.aj (qr jH) (Kd.az ho0) hb); replace ni := ae.mk (Kd.aj (qr ni) (Kd.az ho0) hb); replace ai := qbb ai hb; replace au := qbb au hb; replace aJ := qbb aJ hb; replace iC := qbb iC hb; replace HB := ae.mk (av (qw HB) hb); (try clear hb); (try clear hb2); (try clear hk); (try clear hi); (try clear ho0)))
     replace fJ := ae.mk (Kd.bg fJ.out)
     replace nk := ae.mk (Kd.bg nk.out)
     replace jH := ae.mk (Kd.bg jH.out)
     replace ni := ae.mk (Kd.bg ni.out)
     replace iA := ae.mk (Kd.bg iA.out)
     replace ai := ae.mk (bf ai.out)
     replace au := ae.mk (bf au.out)
     replace aJ := ae.mk (bf aJ.out)
     replace iC := ae.mk (bf iC.out)
     replace HB := ae.mk (aH HB.out)
     obtain ⟨EE, EF, CK⟩ := Kd.bD ni.out
     (first | subst CK | (injection CK with f1_ f2_ f3_; have f4_ := f1_.symm; have f5_ := f3_.symm; clear f1_ f2_ f3_; subst f4_; subst f5_))
     refine j6 (n := 15) (S := fun w' => w'.cell? ⟨bM, 0, none⟩ = some (.bool dJ) ∧ w'.cell? ⟨bM, 1, none⟩ = some (.slice gy cK.length c0_1) ∧ w'.cell? ⟨cu, 0, none⟩ = some (.bool dX) ∧ w'.cell? ⟨cu, 1, none⟩ = some (.slice iq dY.length c1_1)) (ds := []) #[bF,bF,bF,bF,bF,bF,bF,bF,bF,bF,bF,bF,bF,bF,bF] (by kernel_rfl) rfl rfl ⟨(af ai.out 0).trans rfl, (af ai.out 1).trans rfl, (af au.out 0).trans rfl, (af au.out 1).trans rfl⟩ (fun hHeld => ?_); refine iQ dB.Gt dB.Du (fun HT_ HW_ => ?_)
     generalize w49.drew = w50 at fJ nk jH ni iA ai au aJ iC HB hHeld ⊢
     refine cZ 0 (some 44) HT_ ?_
     refine cZ 2 (some 46) HT_ ?_
     refine cZ 5 (some 49) HT_ ?_
     refine cZ 7 (some 51) HT_ ?_
     refine cZ 9 (some 53) HT_ ?_
     refine cZ 11 (some 55) HT_ ?_
     refine eU 1 (some 45) HT_ HW_ hHeld ?_
     refine eU 3 (some 47) HT_ HW_ hHeld ?_
     refine cZ 4 (some 48) HT_ ?_
     refine eU 8 (some 52) HT_ HW_ hHeld ?_
     refine gU 6 (some 50) HT_ (fun K hK => ?_)
     refine fo Tryd.func15 #[.bool (dJ != dX), .slice EE lw.length EF] ?_
     with_reducible refine (aX.calls kj4 (dJ != dX) _ _ lw jN qR _ ?aU ?aV A38.out).mono ?_
     (case aU => exact qs ((Kd.ak ni.out).2.2))
     (case aV => exact (Kd.ak ni.out).2.1)
     rintro e w52 ⟨v124, rfl, ho0, hb⟩
     refine ⟨_, rfl, ?_⟩
     have xG := ae.mk (Kd.bz (Kd.aA (Kd.aA (Kd.aA (Kd.aA (Kd.aA ho0 (Kd.aY (qr fJ))) (Kd.aY (qr nk))) (Kd.aY (qr jH))) (Kd.aY (qr ni))) (Kd.aY (qr iA))) (aN (qw HB)))
     replace fJ := ae.mk (Kd.aj (qr fJ) (Kd.az ho0) hb)
     replace nk := ae.mk (Kd.aj (qr nk) (Kd.az ho0) hb)
     replace jH := ae.mk (Kd.aj (qr jH) (Kd.az ho0) hb)
     replace ni := ae.mk (Kd.aj (qr ni) (Kd.az ho0) hb)
     replace iA := ae.mk (Kd.aj (qr iA) (Kd.az ho0) hb)
     replace ai := qbb ai hb
     replace au := qbb au hb
     replace aJ := qbb aJ hb
     replace iC := qbb iC hb
     replace HB := ae.mk (av (qw HB) hb)
     (try clear hb)
     (try clear hb2)
     (try clear hk)
     (try clear hi)
     (try clear ho0)
     obtain ⟨BC, BD, yI⟩ := Kd.bD iA.out
     (first | subst yI | (injection yI with f1_ f2_ f3_; have f4_ := f1_.symm; have f5_ := f3_.symm; clear f1_ f2_ f3_; subst f4_; subst f5_))
     refine hK.out _ _ ⟨(af ai.out 0).trans rfl, (af ai.out 1).trans rfl, (af au.out 0).trans rfl, (af au.out 1).trans rfl⟩ (fun hHeld => ?_)
     clear hK K
     refine eY (some 50) ?_
     refine gU 10 (some 54) HT_ (fun K hK => ?_)
     refine fo Tryd.func15 #[.bool dX, .slice BC pg.length BD] ?_
     with_reducible refine (aX.calls kj4 dX _ _ pg sN t127 _ ?aU ?aV A39.out).mono ?_
     (case aU => exact qs ((Kd.ak iA.out).2.2))
     (case aV => exact (Kd.ak iA.out).2.1)
     rintro e w54 ⟨v128, rfl, ho0, hb⟩
     refine ⟨_, rfl, ?_⟩
     have Dx := ae.mk (Kd.bz (Kd.aA (Kd.aA (Kd.aA (Kd.aA (Kd.aA (Kd.aA ho0 (Kd.aY (qr fJ))) (Kd.aY (qr nk))) (Kd.aY (qr jH))) (Kd.aY (qr ni))) (Kd.aY (qr iA))) (Kd.aY (qr xG))) (aN (qw HB)))
     replace fJ := ae.mk (Kd.aj (qr fJ) (Kd.az ho0) hb)
     replace nk := ae.mk (Kd.aj (qr nk) (Kd.az ho0) hb)
     replace jH := ae.mk (Kd.aj (qr jH) (Kd.az ho0) hb)
     replace ni := ae.mk (Kd.aj (qr ni) (Kd.az ho0) hb)
     replace iA := ae.mk (Kd.aj (qr iA) (Kd.az ho0) hb)
     replace xG := ae.mk (Kd.aj (qr xG) (Kd.az ho0) hb)
     replace ai := qbb ai hb
     replace au := qbb au hb
     replace aJ := qbb aJ hb
     replace iC := qbb iC hb
     replace HB := ae.mk (av (qw HB) hb)
     (try clear hb)
     (try clear hb2)
     (try clear hk)
     (try clear hi)
     (try clear ho0)
     obtain ⟨xB, xC, yJ⟩ := Kd.bD xG.out
     (first | subst yJ | (injection yJ with f1_ f2_ f3_; have f4_ := f1_.symm; have f5_ := f3_.symm; clear f1_ f2_ f3_; subst f4_; subst f5_))
     obtain ⟨ET, EU, Gu⟩ := Kd.bD Dx.out
     (first | subst Gu | (injection Gu with f1_ f2_ f3_; have f4_ := f1_.symm; have f5_ := f3_.symm; clear f1_ f2_ f3_; subst f4_; subst f5_))
     refine hK.out _ _ ⟨(af ai.out 0).trans rfl, (af ai.out 1).trans rfl, (af au.out 0).trans rfl, (af au.out 1).trans rfl⟩ (fun hHeld => ?_)
     clear hK K
     refine eY (some 54) ?_
     refine gU 12 (none) HT_ (fun K hK => ?_)
     have hs55 : w54.cell? ⟨cB, 0, none⟩ = some (.bool false) := (af aJ.out 0).trans rfl
     have hfs55 := aK aJ.out 0
     have hns55_0 := dm.out
     have hns55_1 := dh.out
     have hns55_3 := jo.out
     have hms55_0 := eZ.out
     have hms55_1 := eX.out
     have hms55_3 := jm.out
     have hs57 : w54.cell? ⟨cB, 1, none⟩ = some (.slice none 0 0) := (af aJ.out 1).trans rfl
     have hfs57 := aK aJ.out 1
     have hns57_0 := dm.out
     have hns57_1 := dh.out
     have hns57_3 := jo.out
     have hms57_0 := eZ.out
     have hms57_1 := eX.out
     have hms57_3 := jm.out
     refine pX (w1 := ?_) (by rfl) rfl ?_ ?_
     rotate_left
     ·go_simp
      rfl
     refine hK.out _ _ ⟨((cell_far (p := ⟨cB, _, none⟩) dm.out _).trans (((cell_far (p := ⟨cB, _, none⟩) dm.out _).trans (hHeld.1)))), ((cell_far (p := ⟨cB, _, none⟩) dm.out _).trans (((cell_far (p := ⟨cB, _, none⟩) dm.out _).trans (hHeld.2.1)))), ((cell_far (p := ⟨cB, _, none⟩) dh.out _).trans (((cell_far (p := ⟨cB, _, none⟩) dh.out _).trans (hHeld.2.2.1)))), ((cell_far (p := ⟨cB, _, none⟩) dh.out _).trans (((cell_far (p := ⟨cB, _, none⟩) dh.out _).trans (hHeld.2.2.2))))⟩ (fun hHeld => ?_)
     clear hK K
     refine gU 13 (none) HT_ (fun K hK => ?_)
     have hs58 : w54.cell? ⟨jI, 0, none⟩ = some (.bool false) := (af iC.out 0).trans rfl
     have hfs58 := aK iC.out 0
     have hns58_0 := iX.out
     have hns58_1 := iR.out
     have hns58_2 := jm.out
     have hms58_0 := mO.out
     have hms58_1 := lW.out
     have hms58_2 := jo.out
     have hs60 : w54.cell? ⟨jI, 1, none⟩ = some (.slice none 0 0) := (af iC.out 1).trans rfl
     have hfs60 := aK iC.out 1
     have hns60_0 := iX.out
     have hns60_1 := iR.out
     have hns60_2 := jm.out
     have hms60_0 := mO.out
     have hms60_1 := lW.out
     have hms60_2 := jo.out
     refine pX (w1 := ?_) (by rfl) rfl ?_ ?_
     rotate_left
     ·go_simp
      rfl
     refine hK.out _ _ ⟨((cell_far (p := ⟨jI, _, none⟩) iX.out _).trans (((cell_far (p := ⟨jI, _, none⟩) iX.out _).trans (hHeld.1)))), ((cell_far (p := ⟨jI, _, none⟩) iX.out _).trans (((cell_far (p := ⟨jI, _, none⟩) iX.out _).trans (hHeld.2.1)))), ((cell_far (p := ⟨jI, _, none⟩) iR.out _).trans (((cell_far (p := ⟨jI, _, none⟩) iR.out _).trans (hHeld.2.2.1)))), ((cell_far (p := ⟨jI, _, none⟩) iR.out _).trans (((cell_far (p := ⟨jI, _, none⟩) iR.out _).trans (hHeld.2.2.2))))⟩ (fun hHeld => ?_)
     clear hK K
     refine cZ 14 (some 6) HT_ ?_
     refine nM HT_ ?_
     try go_wp2
     refine bodyPost_ret (qo (rs := [.cell 4 25, .cell 5 25, .tmp 6]) rfl (by simp) (.cell cB 25 #[.bool jN, .slice xB qR.length xC] (0, 0) _ rfl (by refine bN ?_ jm.out _; refine bN ?_ jm.out _; refine dG (cs := #[.bool jN, .slice none 0 0]) ?_ 1 _ rfl; refine dG (cs := #[.bool false, .slice none 0 0]) ?_ 0 _ rfl; (with_reducible repeat (first | refine bP ?_ _ | refine bf ?_ | refine bO ?_ _)); exact aJ.out) Tryd.underlying25 rfl (by kernel_rfl) (.cell jI 25 #[.bool sN, .slice ET t127.length EU] (0, 0) _ rfl (by refine dG (cs := #[.bool sN, .slice none 0 0]) ?_ 1 _ rfl; refine dG (cs := #[.bool false, .slice none 0 0]) ?_ 0 _ rfl; refine bN ?_ jo.out _; refine bN ?_ jo.out _; (with_reducible repeat (first | refine bP ?_ _ | refine bf ?_ | refine bO ?_ _)); exact iC.out) Tryd.underlying25 rfl (by kernel_rfl) (.tmp .nil)))) rfl ?_
     exact ⟨_, _, by first | rfl | (simp [errW_none, errW_some] <;> rfl) | (simp [*, errW_none, errW_some] <;> rfl), by (with_reducible repeat (first | apply Kd.bu | apply Kd.bv | apply Kd.bg)); exact Kd.bG (Kd.bH (p := ⟨jI, 1, none⟩) (Kd.bH (p := ⟨jI, 0, none⟩) (Kd.bH (p := ⟨cB, 1, none⟩) (Kd.bH (p := ⟨cB, 0, none⟩) (Kd.bU (Kd.bU xG.out aJ.out (by decide)) iC.out (by decide)) (fun _ hk => hk.1.2) (.bool jN)) (fun _ hk => hk.1.2) (.slice xB qR.length xC)) (fun _ hk => hk.2) (.bool sN)) (fun _ hk => hk.2) (.slice ET t127.length EU)) (fun _ hk => hk.1.1.2), by (with_reducible repeat (first | apply Kd.bu | apply Kd.bv | apply Kd.bg)); exact Kd.bG (Kd.bH (p := ⟨jI, 1, none⟩) (Kd.bH (p := ⟨jI, 0, none⟩) (Kd.bH (p := ⟨cB, 1, none⟩) (Kd.bH (p := ⟨cB, 0, none⟩) (Kd.bU (Kd.bU Dx.out aJ.out (by decide)) iC.out (by decide)) (fun _ hk => hk.1.2) (.bool jN)) (fun _ hk => hk.1.2) (.slice xB qR.length xC)) (fun _ hk => hk.2) (.bool sN)) (fun _ hk => hk.2) (.slice ET t127.length EU)) (fun _ hk => hk.1.1.2), by repeat (first | (with_reducible first | exact HB.out | apply aM | apply aD | apply aH | refine aQ ?_ gB.out | refine aQ ?_ ib.out | refine aQ ?_ jB.out | refine aQ ?_ wm.out) | exact HB.out)⟩
    ·replace c34 := Bool.eq_false_iff.mpr c34
     subst c34
     have H1 : ((aX.f kj4 (dJ != dX) t105).bind fun tX => ((aX.f kj4 dX bA).bind fun gD => (some (tX.1, tX.2, gD.1, gD.2, t107)))) = some (r1, r2, r3, r4, r5) := by rw [if_neg (show ¬ (false = true) by decide)] at H; exact H
     clear H
     have H := H1
     clear H1
     replace H := Option.bind_eq_some_iff.mp H
     obtain ⟨⟨t130, t131⟩, A610, H⟩ := H
     replace H : ((aX.f kj4 dX bA).bind fun gD => (some (t130, t131, gD.1, gD.2, t107))) = some (r1, r2, r3, r4, r5) := H
     have A61 := ae.mk A610
     clear A610
     replace H := Option.bind_eq_some_iff.mp H
     obtain ⟨⟨sJ, mK⟩, A620, H⟩ := H
     replace H : (some (t130, t131, sJ, mK, t107)) = some (r1, r2, r3, r4, r5) := H
     have A62 := ae.mk A620
     clear A620
     simp only [Option.some.injEq, Prod.mk.injEq] at H
     obtain ⟨rfl, rfl, rfl, rfl, rfl⟩ := H
     try go_wp2
     replace fJ := ae.mk (Kd.bg fJ.out)
     replace nk := ae.mk (Kd.bg nk.out)
     replace ai := ae.mk (bf ai.out)
     replace au := ae.mk (bf au.out)
     replace aJ := ae.mk (bf aJ.out)
     replace iC := ae.mk (bf iC.out)
     replace HB := ae.mk (aH HB.out)
     obtain ⟨EW, EX, BI⟩ := Kd.bD fJ.out
     (first | subst BI | (injection BI with f1_ f2_ f3_; have f4_ := f1_.symm; have f5_ := f3_.symm; clear f1_ f2_ f3_; subst f4_; subst f5_))
     refine j6 (n := 15) (S := fun w' => w'.cell? ⟨bM, 0, none⟩ = some (.bool dJ) ∧ w'.cell? ⟨bM, 1, none⟩ = some (.slice gy cK.length c0_1) ∧ w'.cell? ⟨cu, 0, none⟩ = some (.bool dX) ∧ w'.cell? ⟨cu, 1, none⟩ = some (.slice iq dY.length c1_1)) (ds := []) #[bF,bF,bF,bF,bF,bF,bF,bF,bF,bF,bF,bF,bF,bF,bF] (by kernel_rfl) rfl rfl ⟨(af ai.out 0).trans rfl, (af ai.out 1).trans rfl, (af au.out 0).trans rfl, (af au.out 1).trans rfl⟩ (fun hHeld => ?_); refine iQ dB.Gt dB.Du (fun HT_ HW_ => ?_)
     generalize wc.drew = w63 at fJ nk ai au aJ iC HB hHeld ⊢
     refine cZ 0 (some 44) HT_ ?_
     refine cZ 2 (some 46) HT_ ?_
     refine cZ 5 (some 49) HT_ ?_
     refine cZ 7 (some 51) HT_ ?_
     refine cZ 9 (some 53) HT_ ?_
     refine cZ 11 (some 55) HT_ ?_
     refine eU 1 (some 45) HT_ HW_ hHeld ?_
     refine eU 3 (some 47) HT_ HW_ hHeld ?_
     refine cZ 4 (some 48) HT_ ?_
     refine eU 8 (some 52) HT_ HW_ hHeld ?_
     refine gU 6 (some 50) HT_ (fun K hK => ?_)
     refine fo Tryd.func15 #[.bool (dJ != dX), .slice EW t105.length EX] ?_
     with_reducible refine (aX.calls kj4 (dJ != dX) _ _ t105 t130 t131 _ ?aU ?aV A61.out).mono ?_
     (case aU => exact qs ((Kd.ak fJ.out).2.2))
     (case aV => exact (Kd.ak fJ.out).2.1)
     rintro e w65 ⟨v132, rfl, ho0, hb⟩
     refine ⟨_, rfl, ?_⟩
     have xH := ae.mk (Kd.bz (Kd.aA (Kd.aA ho0 (Kd.aY (qr fJ))) (Kd.aY (qr nk))) (aN (qw HB)))
     replace fJ := ae.mk (Kd.aj (qr fJ) (Kd.az ho0) hb)
     replace nk := ae.mk (Kd.aj (qr nk) (Kd.az ho0) hb)
     replace ai := qbb ai hb
     replace au := qbb au hb
     replace aJ := qbb aJ hb
     replace iC := qbb iC hb
     replace HB := ae.mk (av (qw HB) hb)
     (try clear hb)
     (try clear hb2)
     (try clear hk)
     (try clear hi)
     (try clear ho0)
     obtain ⟨EY, EZ, BJ⟩ := Kd.bD nk.out
     (first | subst BJ | (injection BJ with f1_ f2_ f3_; have f4_ := f1_.symm; have f5_ := f3_.symm; clear f1_ f2_ f3_; subst f4_; subst f5_))
     refine hK.out _ _ ⟨(af ai.out 0).trans rfl, (af ai.out 1).trans rfl, (af au.out 0).trans rfl, (af au.out 1).trans rfl⟩ (fun hHeld => ?_)
     clear hK K
     refine eY (some 50) ?_
     refine gU 10 (some 54) HT_ (fun K hK => ?_)
     refine fo Tryd.func15 #[.bool dX, .slice EY bA.length EZ] ?_
     with_reducible refine (aX.calls kj4 dX _ _ bA sJ mK _ ?aU ?aV A62.out).mono ?_
     (case aU => exact qs ((Kd.ak nk.out).2.2))
     (case aV => exact (Kd.ak nk.out).2.1)
     rintro e w67 ⟨v136, rfl, ho0, hb⟩
     refine ⟨_, rfl, ?_⟩
     have oh := ae.mk (Kd.bz (Kd.aA (Kd.aA (Kd.aA ho0 (Kd.aY (qr fJ))) (Kd.aY (qr nk))) (Kd.aY (qr xH))) (aN (qw HB)))
     replace fJ := ae.mk (Kd.aj (qr fJ) (Kd.az ho0) hb)
     replace nk := ae.mk (Kd.aj (qr nk) (Kd.az ho0) hb)
     replace xH := ae.mk (Kd.aj (qr xH) (Kd.az ho0) hb)
     replace ai := qbb ai hb
     replace au := qbb au hb
     replace aJ := qbb aJ hb
     replace iC := qbb iC hb
     replace HB := ae.mk (av (qw HB) hb)
     (try clear hb)
     (try clear hb2)
     (try clear hk)
     (try clear hi)
     (try clear ho0)
     obtain ⟨E5, E8, Gv⟩ := Kd.bD xH.out
     (first | subst Gv | (injection Gv with f1_ f2_ f3_; have f4_ := f1_.symm; have f5_ := f3_.symm; clear f1_ f2_ f3_; subst f4_; subst f5_))
     obtain ⟨E9, Fa, Gw⟩ := Kd.bD oh.out
     (first | subst Gw | (injection Gw with f1_ f2_ f3_; have f4_ := f1_.symm; have f5_ := f3_.symm; clear f1_ f2_ f3_; subst f4_; subst f5_))
     refine hK.out _ _ ⟨(af ai.out 0).trans rfl, (af ai.out 1).trans rfl, (af au.out 0).trans rfl, (af au.out 1).trans rfl⟩ (fun hHeld => ?_)
     clear hK K
     refine eY (some 54) ?_
     refine gU 12 (none) HT_ (fun K hK => ?_)
     have hs68 : w67.cell? ⟨cB, 0, none⟩ = some (.bool false) := (af aJ.out 0).trans rfl
     have hfs68 := aK aJ.out 0
     have hns68_0 := dm.out
     have hns68_1 := dh.out
     have hns68_3 := jo.out
     have hms68_0 := eZ.out
     have hms68_1 := eX.out
     have hms68_3 := jm.out
     have hs70 : w67.cell? ⟨cB, 1, none⟩ = some (.slice none 0 0) := (af aJ.out 1).trans rfl
     have hfs70 := aK aJ.out 1
     have hns70_0 := dm.out
     have hns70_1 := dh.out
     have hns70_3 := jo.out
     have hms70_0 := eZ.out
     have hms70_1 := eX.out
     have hms70_3 := jm.out
     refine pX (w1 := ?_) (by rfl) rfl ?_ ?_
     rotate_left
     ·go_simp
      rfl
     refine hK.out _ _ ⟨((cell_far (p := ⟨cB, _, none⟩) dm.out _).trans (((cell_far (p := ⟨cB, _, none⟩) dm.out _).trans (hHeld.1)))), ((cell_far (p := ⟨cB, _, none⟩) dm.out _).trans (((cell_far (p := ⟨cB, _, none⟩) dm.out _).trans (hHeld.2.1)))), ((cell_far (p := ⟨cB, _, none⟩) dh.out _).trans (((cell_far (p := ⟨cB, _, none⟩) dh.out _).trans (hHeld.2.2.1)))), ((cell_far (p := ⟨cB, _, none⟩) dh.out _).trans (((cell_far (p := ⟨cB, _, none⟩) dh.out _).trans (hHeld.2.2.2))))⟩ (fun hHeld => ?_)
     clear hK K
     refine gU 13 (none) HT_ (fun K hK => ?_)
     have hs71 : w67.cell? ⟨jI, 0, none⟩ = some (.bool false) := (af iC.out 0).trans rfl
     have hfs71 := aK iC.out 0
     have hns71_0 := iX.out
     have hns71_1 := iR.out
     have hns71_2 := jm.out
     have hms71_0 := mO.out
     have hms71_1 := lW.out
     have hms71_2 := jo.out
     have hs73 : w67.cell? ⟨jI, 1, none⟩ = some (.slice none 0 0) := (af iC.out 1).trans rfl
     have hfs73 := aK iC.out 1
     have hns73_0 := iX.out
     have hns73_1 := iR.out
     have hns73_2 := jm.out
     have hms73_0 := mO.out
     have hms73_1 := lW.out
     have hms73_2 := jo.out
     refine pX (w1 := ?_) (by rfl) rfl ?_ ?_
     rotate_left
     ·go_simp
      rfl
     refine hK.out _ _ ⟨((cell_far (p := ⟨jI, _, none⟩) iX.out _).trans (((cell_far (p := ⟨jI, _, none⟩) iX.out _).trans (hHeld.1)))), ((cell_far (p := ⟨jI, _, none⟩) iX.out _).trans (((cell_far (p := ⟨jI, _, none⟩) iX.out _).trans (hHeld.2.1)))), ((cell_far (p := ⟨jI, _, none⟩) iR.out _).trans (((cell_far (p := ⟨jI, _, none⟩) iR.out _).trans (hHeld.2.2.1)))), ((cell_far (p := ⟨jI, _, none⟩) iR.out _).trans (((cell_far (p := ⟨jI, _, none⟩) iR.out _).trans (hHeld.2.2.2))))⟩ (fun hHeld => ?_)
     clear hK K
     refine cZ 14 (some 6) HT_ ?_
     refine nM HT_ ?_
     try go_wp2
     refine bodyPost_ret (qo (rs := [.cell 4 25, .cell 5 25, .tmp 6]) rfl (by simp) (.cell cB 25 #[.bool t130, .slice E5 t131.length E8] (0, 0) _ rfl (by refine bN ?_ jm.out _; refine bN ?_ jm.out _; refine dG (cs := #[.bool t130, .slice none 0 0]) ?_ 1 _ rfl; refine dG (cs := #[.bool false, .slice none 0 0]) ?_ 0 _ rfl; (with_reducible repeat (first | refine bP ?_ _ | refine bf ?_ | refine bO ?_ _)); exact aJ.out) Tryd.underlying25 rfl (by kernel_rfl) (.cell jI 25 #[.bool sJ, .slice E9 mK.length Fa] (0, 0) _ rfl (by refine dG (cs := #[.bool sJ, .slice none 0 0]) ?_ 1 _ rfl; refine dG (cs := #[.bool false, .slice none 0 0]) ?_ 0 _ rfl; refine bN ?_ jo.out _; refine bN ?_ jo.out _; (with_reducible repeat (first | refine bP ?_ _ | refine bf ?_ | refine bO ?_ _)); exact iC.out) Tryd.underlying25 rfl (by kernel_rfl) (.tmp .nil)))) rfl ?_
     exact ⟨_, _, by first | rfl | (simp [errW_none, errW_some] <;> rfl) | (simp [*, errW_none, errW_some] <;> rfl), by (with_reducible repeat (first | apply Kd.bu | apply Kd.bv | apply Kd.bg)); exact Kd.bG (Kd.bH (p := ⟨jI, 1, none⟩) (Kd.bH (p := ⟨jI, 0, none⟩) (Kd.bH (p := ⟨cB, 1, none⟩) (Kd.bH (p := ⟨cB, 0, none⟩) (Kd.bU (Kd.bU xH.out aJ.out (by decide)) iC.out (by decide)) (fun _ hk => hk.1.2) (.bool t130)) (fun _ hk => hk.1.2) (.slice E5 t131.length E8)) (fun _ hk => hk.2) (.bool sJ)) (fun _ hk => hk.2) (.slice E9 mK.length Fa)) (fun _ hk => hk.1.1.2), by (with_reducible repeat (first | apply Kd.bu | apply Kd.bv | apply Kd.bg)); exact Kd.bG (Kd.bH (p := ⟨jI, 1, none⟩) (Kd.bH (p := ⟨jI, 0, none⟩) (Kd.bH (p := ⟨cB, 1, none⟩) (Kd.bH (p := ⟨cB, 0, none⟩) (Kd.bU (Kd.bU oh.out aJ.out (by decide)) iC.out (by decide)) (fun _ hk => hk.1.2) (.bool t130)) (fun _ hk => hk.1.2) (.slice E5 t131.length E8)) (fun _ hk => hk.2) (.bool sJ)) (fun _ hk => hk.2) (.slice E9 mK.length Fa)) (fun _ hk => hk.1.1.2), by repeat (first | (with_reducible first | exact HB.out | apply aM | apply aD | apply aH | refine aQ ?_ gB.out | refine aQ ?_ ib.out | refine aQ ?_ jB.out | refine aQ ?_ wm.out) | exact HB.out)⟩
 ·rw [if_neg c4] at H
  have ll : (t107 == 0) = false := beq_eq_false_iff_ne.mpr c4
  have pQ : (t107 != 0) = true := bne_iff_ne.mpr c4
  simp only [Option.some.injEq, Prod.mk.injEq] at H
  obtain ⟨rfl, rfl, rfl, rfl, rfl⟩ := H
  go_enter Tryd.func13, Tryd.ntmps13
  go_wp2_with (first | ((with_reducible refine bR (N := 2) rfl ?_); (try (refine iw (by rfl) ?_; dsimp only)); refine bS ?hg (N := 2) ?hd (cs := #[.bool dJ, .slice gy cK.length c0_1]) (t := 25) ?hr ?_; (case hd => rfl); (case hg => rfl); (case hr => first | (go_simp; done) | (go_simp; rfl)); intro bM hg w74 hbox hb; have ai := ae.mk (hbox); have GW101 := qge HB hg; have gB := qge HB hg; replace HB := ae.mk (av (qw HB) hb); clear hb hbox hg) | ((with_reducible refine bR (N := 3) rfl ?_); (try (refine iw (by rfl) ?_; dsimp only)); refine bS ?hg (N := 3) ?hd (cs := #[.bool dX, .slice iq dY.length c1_1]) (t := 25) ?hr ?_; (case hd => rfl); (case hg => rfl); (case hr => first | (go_simp; done) | (go_simp; rfl)); intro cu hg w75 hbox hb; have au := ae.mk (hbox); have GW102 := qge HB hg; have ib := qge HB hg; replace HB := ae.mk (av (qw HB) hb); have eD := qnl ai hg; have eF := qng ai hg; replace ai := qbb ai hb; clear hb hbox hg) | ((with_reducible refine bR (N := 4) rfl ?_); (try (refine iw (by rfl) ?_; dsimp only)); refine bS ?hg (N := 4) ?hd (cs := #[.bool false, .slice none 0 0]) (t := 25) ?hr ?_; (case hd => rfl); (case hg => rfl); (case hr => first | (go_simp; done) | (go_simp; rfl)); intro cB hg w76 hbox hb; have aJ := ae.mk (hbox); have GW103 := qge HB hg; have jB := qge HB hg; replace HB := ae.mk (av (qw HB) hb); have dm := qnl ai hg; have eZ := qng ai hg; replace ai := qbb ai hb; have dh := qnl au hg; have eX := qng au hg; replace au := qbb au hb; clear hb hbox hg) | ((with_reducible refine bR (N := 5) rfl ?_); (try (refine iw (by rfl) ?_; dsimp only)); refine bS ?hg (N := 5) ?hd (cs := #[.bool false, .slice none 0 0]) (t := 25) ?hr ?_; (case hd => rfl); (case hg => rfl); (case hr => first | (go_simp; done) | (go_simp; rfl)); intro jI hg w77 hbox hb; have iC := ae.mk (hbox); have GW104 := qge HB hg; have wm := qge HB hg; replace HB := ae.mk (av (qw HB) hb); have iX := qnl ai hg; have mO := qng ai hg; replace ai := qbb ai hb; have iR := qnl au hg; have lW := qng au hg; replace au := qbb au hb; have jm := qnl aJ hg; have jo := qng aJ hg; replace aJ := qbb aJ hb; clear hb hbox hg; have hnb78 := eD.out; have hnc78 := eF.out; have hnb79 := dm.out; have hnc79 := eZ.out; have hnb80 := iX.out; have hnc80 := mO.out; have hcz81_0 : w77.cell? ⟨bM, 0, none⟩ = some (.bool dJ) := (af ai.out 0).trans rfl; have hcz81_1 : w77.cell? ⟨bM, 1, none⟩ = some (.slice gy cK.length c0_1) := (af ai.out 1).trans rfl; have hfz81_0 := aK ai.out 0; have hfz81_1 := aK ai.out 1; have hnb82 := dh.out; have hnc82 := eX.out; have hnb83 := iR.out; have hnc83 := lW.out; have hcz84_0 : w77.cell? ⟨cu, 0, none⟩ = some (.bool dX) := (af au.out 0).trans rfl; have hcz84_1 : w77.cell? ⟨cu, 1, none⟩ = some (.slice iq dY.length c1_1) := (af au.out 1).trans rfl; have hfz84_0 := aK au.out 0; have hfz84_1 := aK au.out 1) | ((with_reducible refine aW (f := 34) rfl ?_); refine cO (some 15) rfl rfl Tryd.func34 (by kernel_rfl) rfl #[.slice gy cK.length c0_1, .slice iq dY.length c1_1] rfl qt ?_; (with_reducible refine (fI.calls k _ _ cK _ _ dY t105 bA t107 _ ?aU ?aV ?bJ ?bK A3.out).mono ?_); (case aU => exact qs ((Kd.dS ku.out HB.out))); (case aV => exact kv.out); (case bJ => exact qs ((Kd.dS ny.out HB.out))); (case bK => exact nz.out); rintro e w85 ⟨v108, v110, rfl, ho0, ho1, hb⟩; refine ⟨_, rfl, ?_⟩; have gW := ae.mk (Kd.bz ho0 (aN (qw HB))); have qQ := ae.mk (Kd.bz ho1 (aN (qw HB))); replace ai := qbb ai hb; replace au := qbb au hb; replace aJ := qbb aJ hb; replace iC := qbb iC hb; replace HB := ae.mk (av (qw HB) hb); (try clear hb); (try clear hb2); (try clear hk); (try clear hi); (try clear ho0); (try clear ho1); have hnb86 := jm.out; have hnc86 := jo.out; have hcz87_0 : w85.cell? ⟨cB, 0, none⟩ = some (.bool false) := (af aJ.out 0).trans rfl; have hcz87_1 : w85.cell? ⟨cB, 1, none⟩ = some (.slice none 0 0) := (af aJ.out 1).trans rfl; have hfz87_0 := aK aJ.out 0; have hfz87_1 := aK aJ.out 1; have hcz88_0 : w85.cell? ⟨jI, 0, none⟩ = some (.bool false) := (af iC.out 0).trans rfl; have hcz88_1 : w85.cell? ⟨jI, 1, none⟩ = some (.slice none 0 0) := (af iC.out 1).trans rfl; have hfz88_0 := aK iC.out 0; have hfz88_1 := aK iC.out 1))
  refine bodyPost_ret (qo (rs := [.cell 4 25, .cell 5 25, .tmp 6]) rfl (by simp) (.cell cB 25 #[.bool false, .slice none 0 0] (0, 0) _ rfl (by refine bN ?_ jm.out _; refine bN ?_ jm.out _; refine dG (cs := #[.bool false, .slice none 0 0]) ?_ 1 _ rfl; refine dG (cs := #[.bool false, .slice none 0 0]) ?_ 0 _ rfl; (with_reducible repeat (first | refine bP ?_ _ | refine bf ?_ | refine bO ?_ _)); exact aJ.out) Tryd.underlying25 rfl (by kernel_rfl) (.cell jI 25 #[.bool false, .slice none 0 0] (0, 0) _ rfl (by refine dG (cs := #[.bool false, .slice none 0 0]) ?_ 1 _ rfl; refine dG (cs := #[.bool false, .slice none 0 0]) ?_ 0 _ rfl; refine bN ?_ jo.out _; refine bN ?_ jo.out _; (with_reducible repeat (first | refine bP ?_ _ | refine bf ?_ | refine bO ?_ _)); exact iC.out) Tryd.underlying25 rfl (by kernel_rfl) (.tmp .nil)))) rfl ?_
  exact ⟨_, _, by first | rfl | (simp [errW_none, errW_some] <;> rfl) | (simp [*, errW_none, errW_some] <;> rfl), by first | exact Kd.pu _ _ _ _ _ | exact Kd.N_nil _ _ _ _ _ | exact Kd.V_nil _ _ _ _ _ | exact Kd.Q_nil _ _ _ _ _ | exact Kd.S_nil _ _ _ _ _, by first | exact Kd.pu _ _ _ _ _ | exact Kd.N_nil _ _ _ _ _ | exact Kd.V_nil _ _ _ _ _ | exact Kd.Q_nil _ _ _ _ _ | exact Kd.S_nil _ _ _ _ _, by repeat (first | (with_reducible first | exact HB.out | apply aM | apply aD | apply aH | refine aQ ?_ gB.out | refine aQ ?_ ib.out | refine aQ ?_ jB.out | refine aQ ?_ wm.out) | exact HB.out)⟩
end Go.Proofs.YthfphdbebnkdpaaDoor.P
end
section
namespace Go.Proofs.YthfphdbebnkdpaaDoor.P
open Go.RowKit Go.Proofs.YthfphdbebnkdpaaDoorW.aZ Go.Proofs.YthfphdbebnkdpaaDoorW.bL Go.Proofs.YthfphdbebnkdpaaDoorW.dC
attribute [local go_sem] dZ d9 fA fB dH dI ed ek
set_option linter.unusedVariables false
set_option linter.unusedSimpArgs false
def jQ.f (k : Nat) (a0 : Int) : Option (Bool × List Int) := if a0 < 0 then ((jh.f k (IntKind.u64.wrap (wrap64 (-(wrap64 (a0 + 1)))))).bind fun dK => ((jh.f k 1).bind fun t105 => ((dU.f k dK t105).bind fun jM => ((aX.f k true jM).bind fun kr => (some (kr.1, kr.2)))))) else ((jh.f k (IntKind.u64.wrap (a0))).bind fun lw => ((aX.f k false lw).bind fun mh => (some (mh.1, mh.2))))
set_option maxHeartbeats 8000000 in
set_option maxRecDepth 100000 in
theorem jQ.calls (k : Nat) (a0 : Int) (r1 : Bool) (r2 : List Int) (w : World) (h : jQ.f k a0 = some (r1, r2)) :
  Calls Tryd.prog 25 #[.int .i64 a0] w fun e w' => ∃ v1_ : Value, e = .returned (.agg #[.bool r1, v1_]) ∧ Kd.R (Kd.int .u64) 64 w' w.heap.size (fun _ => True) v1_ r2 ∧ Below w.heap.size w w' := by
 have hu25 := Tryd.underlying25
 have HB := ae.mk (Below.refl w.heap.size w)
 have H : (if a0 < 0 then ((jh.f k (IntKind.u64.wrap (wrap64 (-(wrap64 (a0 + 1)))))).bind fun dK => ((jh.f k 1).bind fun t105 => ((dU.f k dK t105).bind fun jM => ((aX.f k true jM).bind fun kr => (some (kr.1, kr.2)))))) else ((jh.f k (IntKind.u64.wrap (a0))).bind fun lw => ((aX.f k false lw).bind fun mh => (some (mh.1, mh.2))))) = some (r1, r2) := h
 clear h
 by_cases c2 : a0 < 0
 ·rw [if_pos c2] at H
  have qM : decide (a0 < 0) = true := decide_eq_true c2
  clear c2
  replace H := Option.bind_eq_some_iff.mp H
  obtain ⟨dK, A30, H⟩ := H
  replace H : ((jh.f k 1).bind fun t105 => ((dU.f k dK t105).bind fun jM => ((aX.f k true jM).bind fun kr => (some (kr.1, kr.2))))) = some (r1, r2) := H
  have A3 := ae.mk A30
  clear A30
  replace H := Option.bind_eq_some_iff.mp H
  obtain ⟨t105, A40, H⟩ := H
  replace H : ((dU.f k dK t105).bind fun jM => ((aX.f k true jM).bind fun kr => (some (kr.1, kr.2)))) = some (r1, r2) := H
  have A4 := ae.mk A40
  clear A40
  replace H := Option.bind_eq_some_iff.mp H
  obtain ⟨jM, A50, H⟩ := H
  replace H : ((aX.f k true jM).bind fun kr => (some (kr.1, kr.2))) = some (r1, r2) := H
  have A5 := ae.mk A50
  clear A50
  replace H := Option.bind_eq_some_iff.mp H
  obtain ⟨⟨kE, nY⟩, A60, H⟩ := H
  replace H : (some (kE, nY)) = some (r1, r2) := H
  have A6 := ae.mk A60
  clear A60
  simp only [Option.some.injEq, Prod.mk.injEq] at H
  obtain ⟨rfl, rfl⟩ := H
  go_enter Tryd.func25, Tryd.ntmps25
  go_wp2_with (first | ((with_reducible refine bR (N := 2) rfl ?_); refine bS ?hg (N := 2) ?hd (cs := #[.bool false, .slice none 0 0]) (t := 25) ?hr ?_; (case hd => rfl); (case hg => rfl); (case hr => first | (go_simp; done) | (go_simp; rfl)); intro bM hg w7 hbox hb; have ai := ae.mk (hbox); have GW101 := qge HB hg; have gB := qge HB hg; replace HB := ae.mk (av (qw HB) hb); clear hb hbox hg) | ((with_reducible refine aW (f := 35) rfl ?_); refine cO (some 9) rfl rfl Tryd.func35 (by kernel_rfl) rfl #[.int .u64 (IntKind.u64.wrap (wrap64 (-(wrap64 (a0 + 1)))))] rfl qt ?_; (with_reducible refine (jh.calls k (IntKind.u64.wrap (wrap64 (-(wrap64 (a0 + 1))))) dK _ A3.out).mono ?_); rintro e w8 ⟨v103, rfl, ho0, hb⟩; refine ⟨_, rfl, ?_⟩; have fG := ae.mk (Kd.bz ho0 (aN (qw HB))); replace ai := qbb ai hb; replace HB := ae.mk (av (qw HB) hb); (try clear hb); (try clear hb2); (try clear hk); (try clear hi); (try clear ho0)) | ((with_reducible refine aW (f := 35) rfl ?_); refine cO (some 10) rfl rfl Tryd.func35 (by kernel_rfl) rfl #[.int .u64 1] rfl qt ?_; (with_reducible refine (jh.calls k 1 t105 _ A4.out).mono ?_); rintro e w9 ⟨v106, rfl, ho0, hb⟩; refine ⟨_, rfl, ?_⟩; have gF := ae.mk (Kd.bz (Kd.aA ho0 (Kd.aY (qr fG))) (aN (qw HB))); replace fG := ae.mk (Kd.aj (qr fG) (Kd.az ho0) hb); replace ai := qbb ai hb; replace HB := ae.mk (av (qw HB) hb); (try clear hb); (try clear hb2); (try clear hk); (try clear hi); (try clear ho0); obtain ⟨xD, wM, uw⟩ := Kd.bD fG.out; subst uw; obtain ⟨vS, vT, yH⟩ := Kd.bD gF.out; subst yH) | ((with_reducible refine aW (f := 29) rfl ?_); refine cO (some 11) rfl rfl Tryd.func29 (by kernel_rfl) rfl #[.slice xD dK.length wM, .slice vS t105.length vT] rfl qt ?_; (with_reducible refine (dU.calls k _ _ dK _ _ t105 jM _ ?aU ?aV ?bJ ?bK A5.out).mono ?_); (case aU => exact qs ((Kd.ak fG.out).2.2)); (case aV => exact (Kd.ak fG.out).2.1); (case bJ => exact qs ((Kd.ak gF.out).2.2)); (case bK => exact (Kd.ak gF.out).2.1); rintro e w12 ⟨v109, rfl, ho0, hb⟩; refine ⟨_, rfl, ?_⟩; have oD := ae.mk (Kd.bz (Kd.aA (Kd.aA ho0 (Kd.aY (qr fG))) (Kd.aY (qr gF))) (aN (qw HB))); replace fG := ae.mk (Kd.aj (qr fG) (Kd.az ho0) hb); replace gF := ae.mk (Kd.aj (qr gF) (Kd.az ho0) hb); replace ai := qbb ai hb; replace HB := ae.mk (av (qw HB) hb); (try clear hb); (try clear hb2); (try clear hk); (try clear hi); (try clear ho0); obtain ⟨uo, sw, uO⟩ := Kd.bD oD.out; subst uO) | ((with_reducible refine aW (f := 15) rfl ?_); refine cO (some 12) rfl rfl Tryd.func15 (by kernel_rfl) rfl #[.bool true, .slice uo jM.length sw] rfl qt ?_; (with_reducible refine (aX.calls k true _ _ jM kE nY _ ?aU ?aV A6.out).mono ?_); (case aU => exact qs ((Kd.ak oD.out).2.2)); (case aV => exact (Kd.ak oD.out).2.1); rintro e w14 ⟨v113, rfl, ho0, hb⟩; refine ⟨_, rfl, ?_⟩; have jH := ae.mk (Kd.bz (Kd.aA (Kd.aA (Kd.aA ho0 (Kd.aY (qr fG))) (Kd.aY (qr gF))) (Kd.aY (qr oD))) (aN (qw HB))); replace fG := ae.mk (Kd.aj (qr fG) (Kd.az ho0) hb); replace gF := ae.mk (Kd.aj (qr gF) (Kd.az ho0) hb); replace oD := ae.mk (Kd.aj (qr oD) (Kd.az ho0) hb); replace ai := qbb ai hb; replace HB := ae.mk (av (qw HB) hb); (try clear hb); (try clear hb2); (try clear hk); (try clear hi); (try clear ho0); have hcz15_0 : w14.cell? ⟨bM, 0, none⟩ = some (.bool false) := (af ai.out 0).trans rfl; have hcz15_1 : w14.cell? ⟨bM, 1, none⟩ = some (.slice none 0 0) := (af ai.out 1).trans rfl; have hfz15_0 := aK ai.out 0; have hfz15_1 := aK ai.out 1; obtain ⟨BB, zP, wH⟩ := Kd.bD jH.out; subst wH))
  refine bodyPost_ret (results_cell_row rfl _ _ bM 25 #[.bool kE, .slice BB nY.length zP] (0, 0) _ rfl (by refine dG (cs := #[.bool kE, .slice none 0 0]) ?_ 1 _ rfl; refine dG (cs := #[.bool false, .slice none 0 0]) ?_ 0 _ rfl; (with_reducible repeat (first | refine bP ?_ _ | refine bf ?_ | refine bO ?_ _)); exact ai.out) Tryd.underlying25 rfl (by kernel_rfl)) rfl ?_
  exact ⟨_, by first | rfl | (simp [errW_none, errW_some] <;> rfl) | (simp [*, errW_none, errW_some] <;> rfl), by (with_reducible repeat (first | apply Kd.bu | apply Kd.bv | apply Kd.bg)); exact Kd.bG (Kd.bH (p := ⟨bM, 1, none⟩) (Kd.bH (p := ⟨bM, 0, none⟩) (Kd.bU jH.out ai.out (by decide)) (fun _ hk => hk.2) (.bool kE)) (fun _ hk => hk.2) (.slice BB nY.length zP)) (fun _ hk => trivial), by repeat (first | (with_reducible first | exact HB.out | apply aM | apply aD | apply aH | refine aQ ?_ gB.out) | exact HB.out)⟩
 ·rw [if_neg c2] at H
  have qM : decide (a0 < 0) = false := decide_eq_false c2
  clear c2
  replace H := Option.bind_eq_some_iff.mp H
  obtain ⟨lw, A170, H⟩ := H
  replace H : ((aX.f k false lw).bind fun mh => (some (mh.1, mh.2))) = some (r1, r2) := H
  have A17 := ae.mk A170
  clear A170
  replace H := Option.bind_eq_some_iff.mp H
  obtain ⟨⟨pg, t119⟩, A180, H⟩ := H
  replace H : (some (pg, t119)) = some (r1, r2) := H
  have A18 := ae.mk A180
  clear A180
  simp only [Option.some.injEq, Prod.mk.injEq] at H
  obtain ⟨rfl, rfl⟩ := H
  go_enter Tryd.func25, Tryd.ntmps25
  go_wp2_with (first | ((with_reducible refine bR (N := 2) rfl ?_); refine bS ?hg (N := 2) ?hd (cs := #[.bool false, .slice none 0 0]) (t := 25) ?hr ?_; (case hd => rfl); (case hg => rfl); (case hr => first | (go_simp; done) | (go_simp; rfl)); intro bM hg w19 hbox hb; have ai := ae.mk (hbox); have GW101 := qge HB hg; have gB := qge HB hg; replace HB := ae.mk (av (qw HB) hb); clear hb hbox hg) | ((with_reducible refine aW (f := 35) rfl ?_); refine cO (some 15) rfl rfl Tryd.func35 (by kernel_rfl) rfl #[.int .u64 (IntKind.u64.wrap (a0))] rfl qt ?_; (with_reducible refine (jh.calls k (IntKind.u64.wrap (a0)) lw _ A17.out).mono ?_); rintro e w20 ⟨v116, rfl, ho0, hb⟩; refine ⟨_, rfl, ?_⟩; have ni := ae.mk (Kd.bz ho0 (aN (qw HB))); replace ai := qbb ai hb; replace HB := ae.mk (av (qw HB) hb); (try clear hb); (try clear hb2); (try clear hk); (try clear hi); (try clear ho0); obtain ⟨CG, AX, zS⟩ := Kd.bD ni.out; subst zS) | ((with_reducible refine aW (f := 15) rfl ?_); refine cO (some 16) rfl rfl Tryd.func15 (by kernel_rfl) rfl #[.bool false, .slice CG lw.length AX] rfl qt ?_; (with_reducible refine (aX.calls k false _ _ lw pg t119 _ ?aU ?aV A18.out).mono ?_); (case aU => exact qs ((Kd.ak ni.out).2.2)); (case aV => exact (Kd.ak ni.out).2.1); rintro e w22 ⟨v120, rfl, ho0, hb⟩; refine ⟨_, rfl, ?_⟩; have iA := ae.mk (Kd.bz (Kd.aA ho0 (Kd.aY (qr ni))) (aN (qw HB))); replace ni := ae.mk (Kd.aj (qr ni) (Kd.az ho0) hb); replace ai := qbb ai hb; replace HB := ae.mk (av (qw HB) hb); (try clear hb); (try clear hb2); (try clear hk); (try clear hi); (try clear ho0); have hcz23_0 : w22.cell? ⟨bM, 0, none⟩ = some (.bool false) := (af ai.out 0).trans rfl; have hcz23_1 : w22.cell? ⟨bM, 1, none⟩ = some (.slice none 0 0) := (af ai.out 1).trans rfl; have hfz23_0 := aK ai.out 0; have hfz23_1 := aK ai.out 1; obtain ⟨Gx, Gy, JG⟩ := Kd.bD iA.out; subst JG))
  refine bodyPost_ret (results_cell_row rfl _ _ bM 25 #[.bool pg, .slice Gx t119.length Gy] (0, 0) _ rfl (by refine dG (cs := #[.bool pg, .slice none 0 0]) ?_ 1 _ rfl; refine dG (cs := #[.bool false, .slice none 0 0]) ?_ 0 _ rfl; (with_reducible repeat (first | refine bP ?_ _ | refine bf ?_ | refine bO ?_ _)); exact ai.out) Tryd.underlying25 rfl (by kernel_rfl)) rfl ?_
  exact ⟨_, by first | rfl | (simp [errW_none, errW_some] <;> rfl) | (simp [*, errW_none, errW_some] <;> rfl), by (with_reducible repeat (first | apply Kd.bu | apply Kd.bv | apply Kd.bg)); exact Kd.bG (Kd.bH (p := ⟨bM, 1, none⟩) (Kd.bH (p := ⟨bM, 0, none⟩) (Kd.bU iA.out ai.out (by decide)) (fun _ hk => hk.2) (.bool pg)) (fun _ hk => hk.2) (.slice Gx t119.length Gy)) (fun _ hk => trivial), by repeat (first | (with_reducible first | exact HB.out | apply aM | apply aD | apply aH | refine aQ ?_ gB.out) | exact HB.out)⟩
end Go.Proofs.YthfphdbebnkdpaaDoor.P
end
section
set_option linter.unusedVariables false
set_option linter.unusedSimpArgs false
namespace Go.Proofs.YthfphdbebnkdpaaDoor.Pn
open Go.Proofs.YthfphdbebnkdpaaDoor.P Go.Proofs.YthfphdbebnkdpaaDoorW.aZ Go.Proofs.YthfphdbebnkdpaaDoorW.bL Go.RowKit
theorem yK (x : Int) : Ev (fun k => dB.f k (zb x) (zl x) (zb 0) (zl 0)) (false, [], false, [], 3) := by
  have h : Ev (fun k => fI.f k (zl x) (zl 0)) ([], [], 3) := BA _
  refine Ev.bind h (Ev.now' fun k => ?_)
  rw [if_neg (by decide)]
structure Fl (x y q r : Int) : Prop where
  eq : q * y + r = x
  lt : r.natAbs < y.natAbs
  sign : r ≠ 0 → (r < 0 ↔ y < 0)
  small : q.natAbs ≤ x.natAbs + 1
theorem BK (x y : Int) (hy : y ≠ 0) (h : zb x = zb y ∨ x.natAbs % y.natAbs = 0) : Fl x y (sg (zb x != zb y) (x.natAbs / y.natAbs)) (sg (zb y) (x.natAbs % y.natAbs)) := by
  have h1 := Nat.div_add_mod x.natAbs y.natAbs
  have h2 := Nat.mod_lt x.natAbs (Int.natAbs_pos.2 hy)
  have h3 := Nat.div_le_self x.natAbs y.natAbs
  have e1 : (y.natAbs : Int) * ((x.natAbs / y.natAbs : Nat) : Int) + ((x.natAbs % y.natAbs : Nat) : Int) = (x.natAbs : Int) := by rw [← Int.natCast_mul, ← Int.natCast_add, h1]
  generalize x.natAbs / y.natAbs = Q at *
  generalize x.natAbs % y.natAbs = R at *
  clear h1
  rcases nA x with ⟨hx1, hx2⟩ | ⟨hx1, hx2⟩ <;> rcases nA y with ⟨hy1, hy2⟩ | ⟨hy1, hy2⟩ <;> rw [hx1, hy1] at h ⊢
  · have ey : (y.natAbs : Int) = -y := by omega
    rw [ey, Int.neg_mul, Int.mul_comm] at e1
    refine ⟨?_, ?_, ?_, ?_⟩ <;> simp only [sg, bne_self_eq_false, Bool.false_eq_true, if_false, if_true] <;> omega
  · obtain rfl : R = 0 := by rcases h with h | h; cases h; exact h
    have ey : (y.natAbs : Int) = y := by omega
    rw [ey, Int.mul_comm] at e1
    refine ⟨?_, ?_, ?_, ?_⟩ <;> simp only [sg, Bool.true_bne, Bool.not_false, Bool.false_eq_true, if_false, if_true, Int.neg_mul] <;> omega
  · obtain rfl : R = 0 := by rcases h with h | h; cases h; exact h
    have ey : (y.natAbs : Int) = -y := by omega
    rw [ey, Int.neg_mul, Int.mul_comm] at e1
    refine ⟨?_, ?_, ?_, ?_⟩ <;> simp only [sg, Bool.false_bne, Bool.false_eq_true, if_false, if_true, Int.neg_mul] <;> omega
  · have ey : (y.natAbs : Int) = y := by omega
    rw [ey, Int.mul_comm] at e1
    refine ⟨?_, ?_, ?_, ?_⟩ <;> simp only [sg, bne_self_eq_false, Bool.false_eq_true, if_false] <;> omega
theorem Gz (x y : Int) (hy : y ≠ 0) (h : zb x ≠ zb y) (hr : x.natAbs % y.natAbs ≠ 0) : Fl x y (sg (zb x != zb y) (x.natAbs / y.natAbs + 1)) (sg (zb y) (y.natAbs - x.natAbs % y.natAbs)) := by
  have h1 := Nat.div_add_mod x.natAbs y.natAbs
  have h2 := Nat.mod_lt x.natAbs (Int.natAbs_pos.2 hy)
  have h3 := Nat.div_le_self x.natAbs y.natAbs
  have e1 : (y.natAbs : Int) * ((x.natAbs / y.natAbs : Nat) : Int) + ((x.natAbs % y.natAbs : Nat) : Int) = (x.natAbs : Int) := by rw [← Int.natCast_mul, ← Int.natCast_add, h1]
  generalize x.natAbs / y.natAbs = Q at *
  generalize x.natAbs % y.natAbs = R at *
  clear h1
  rcases nA x with ⟨hx1, hx2⟩ | ⟨hx1, hx2⟩ <;> rcases nA y with ⟨hy1, hy2⟩ | ⟨hy1, hy2⟩ <;> rw [hx1, hy1] at h ⊢
  · exact absurd rfl h
  · have ey : (y.natAbs : Int) = y := by omega
    rw [ey, Int.mul_comm] at e1
    refine ⟨?_, ?_, ?_, ?_⟩ <;> simp only [sg, Bool.true_bne, Bool.not_false, Bool.false_eq_true, if_false, if_true, Int.neg_mul, Int.natCast_add, Int.add_mul] <;> omega
  · have ey : (y.natAbs : Int) = -y := by omega
    rw [ey, Int.neg_mul, Int.mul_comm] at e1
    refine ⟨?_, ?_, ?_, ?_⟩ <;> simp only [sg, Bool.false_bne, Bool.false_eq_true, if_false, if_true, Int.neg_mul, Int.natCast_add, Int.add_mul] <;> omega
  · exact absurd rfl h
theorem zq (x y : Int) (hy : y ≠ 0) (hx9 : (zl x).length ≤ 800000) (hy9 : (zl y).length ≤ 800000) :
    ∃ q r : Int, Fl x y q r ∧ Ev (fun k => dB.f k (zb x) (zl x) (zb y) (zl y)) (zb q, zl q, zb r, zl r, 0) := by
  have hy0 : y.natAbs ≠ 0 := Int.natAbs_ne_zero.2 hy
  have hd : Ev (fun k => fI.f k (zl x) (zl y)) (dg (x.natAbs / y.natAbs), dg (x.natAbs % y.natAbs), 0) := EO _ _ hy0 (Nat.le_trans hx9 (by decide)) (Nat.le_trans hy9 (by decide))
  have lQ : (dg (x.natAbs / y.natAbs)).length ≤ 800000 := Nat.le_trans (jr (Nat.div_le_self _ _)) hx9
  have lR : (dg (x.natAbs % y.natAbs)).length ≤ 800000 := Nat.le_trans (jr (Nat.mod_le _ _)) hx9
  have hRlt := Nat.mod_lt x.natAbs (Nat.pos_of_ne_zero hy0)
  have ends : ∀ (b : Bool), (b = true → zb x ≠ zb y ∧ x.natAbs % y.natAbs ≠ 0) → (b = false → zb x = zb y ∨ x.natAbs % y.natAbs = 0) →
      ∃ q r : Int, Fl x y q r ∧ Ev (fun k => dB.j0 k (dg (x.natAbs / y.natAbs)) (dg (x.natAbs % y.natAbs)) 0 b (zb x) (zl x) (zb y) (zl y)) (zb q, zl q, zb r, zl r, 0) := by
    intro b hb1 hb0
    cases b with
    | true =>
      obtain ⟨hs, hR⟩ := hb1 rfl
      have ho : Ev (fun k => jh.f k 1) (dg 1) := xm 1 (by decide)
      have l1 : (dg 1).length ≤ 800000 := Nat.le_trans (lc (L := 1) (by decide)) (by decide)
      have ha := qO (x.natAbs / y.natAbs) 1 (Nat.le_trans lQ (by decide)) (Nat.le_trans l1 (by decide))
      have hsb : Ev (fun k => dx.f k (zl y) (dg (x.natAbs % y.natAbs))) (dg (y.natAbs - x.natAbs % y.natAbs), 0) := uQ _ _ (Nat.le_trans hy9 (by decide)) (Nat.le_trans lR (by decide)) (Nat.le_of_lt hRlt)
      have hm1 := oC (zb x != zb y) (x.natAbs / y.natAbs + 1) (Nat.le_trans (pG _ _ 800000 lQ l1) (by decide))
      have hm2 := oC (zb y) (y.natAbs - x.natAbs % y.natAbs) (wP _ _ _ (Nat.le_trans hy9 (by decide)))
      refine ⟨_, _, Gz x y hy hs hR, ?_⟩
      refine Ev.step (f := fun k => (jh.f k 1).bind fun nY => ((dU.f k (dg (x.natAbs / y.natAbs)) nY).bind fun lw => ((dx.f k (zl y) (dg (x.natAbs % y.natAbs))).bind fun mh => ((aX.f k (zb x != zb y) lw).bind fun jS => ((aX.f k (zb y) mh.1).bind fun iW => (some (jS.1, jS.2, iW.1, iW.2, (0 : Int)))))))) (fun k => ?_) ?_
      · rw [dB.j0, if_pos rfl]
      exact Ev.bind (f := fun k nY => ((dU.f k (dg (x.natAbs / y.natAbs)) nY).bind fun lw => ((dx.f k (zl y) (dg (x.natAbs % y.natAbs))).bind fun mh => ((aX.f k (zb x != zb y) lw).bind fun jS => ((aX.f k (zb y) mh.1).bind fun iW => (some (jS.1, jS.2, iW.1, iW.2, (0 : Int)))))))) ho
        (Ev.bind (f := fun k lw => ((dx.f k (zl y) (dg (x.natAbs % y.natAbs))).bind fun mh => ((aX.f k (zb x != zb y) lw).bind fun jS => ((aX.f k (zb y) mh.1).bind fun iW => (some (jS.1, jS.2, iW.1, iW.2, (0 : Int))))))) ha
        (Ev.bind (f := fun k mh => ((aX.f k (zb x != zb y) (dg (x.natAbs / y.natAbs + 1))).bind fun jS => ((aX.f k (zb y) mh.1).bind fun iW => (some (jS.1, jS.2, iW.1, iW.2, (0 : Int)))))) hsb
        (Ev.bind (f := fun k jS => ((aX.f k (zb y) (dg (y.natAbs - x.natAbs % y.natAbs))).bind fun iW => (some (jS.1, jS.2, iW.1, iW.2, (0 : Int))))) hm1
        (Ev.bind (f := fun _ iW => some (zb (sg (zb x != zb y) (x.natAbs / y.natAbs + 1)), zl (sg (zb x != zb y) (x.natAbs / y.natAbs + 1)), iW.1, iW.2, (0 : Int))) hm2 (Ev.now _)))))
    | false =>
      have hm1 := oC (zb x != zb y) (x.natAbs / y.natAbs) (Nat.le_trans lQ (by decide))
      have hm2 := oC (zb y) (x.natAbs % y.natAbs) (Nat.le_trans lR (by decide))
      refine ⟨_, _, BK x y hy (hb0 rfl), ?_⟩
      refine Ev.step (f := fun k => ((aX.f k (zb x != zb y) (dg (x.natAbs / y.natAbs))).bind fun tX => ((aX.f k (zb y) (dg (x.natAbs % y.natAbs))).bind fun gD => (some (tX.1, tX.2, gD.1, gD.2, (0 : Int)))))) (fun k => ?_) ?_
      · rw [dB.j0, if_neg (by decide)]
      exact Ev.bind (f := fun k jS => ((aX.f k (zb y) (dg (x.natAbs % y.natAbs))).bind fun iW => (some (jS.1, jS.2, iW.1, iW.2, (0 : Int))))) hm1
        (Ev.bind (f := fun _ iW => some (zb (sg (zb x != zb y) (x.natAbs / y.natAbs)), zl (sg (zb x != zb y) (x.natAbs / y.natAbs)), iW.1, iW.2, (0 : Int))) hm2 (Ev.now _))
  by_cases hs : zb x = zb y
  · obtain ⟨q, r, hf, he⟩ := ends false (fun h => by cases h) (fun _ => .inl hs)
    refine ⟨q, r, hf, Ev.bind hd (Ev.congr (fun k => ?_) he)⟩
    rw [if_pos rfl, if_neg (by rw [hs, bne_self_eq_false]; decide)]
  · have hdec : decide (0 < (dg (x.natAbs % y.natAbs)).length) = decide (x.natAbs % y.natAbs ≠ 0) :=
      decide_eq_decide.2 ⟨fun h h0 => by rw [h0, iL] at h; exact absurd h (by decide), fun h => Nat.pos_of_ne_zero fun h1 => h (pO.1 (List.eq_nil_of_length_eq_zero h1))⟩
    obtain ⟨q, r, hf, he⟩ := ends (decide (x.natAbs % y.natAbs ≠ 0)) (fun h => ⟨hs, of_decide_eq_true h⟩) (fun h => .inr (Decidable.not_not.1 (of_decide_eq_false h)))
    refine ⟨q, r, hf, Ev.bind hd (Ev.congr (fun k => ?_) he)⟩
    rw [if_pos rfl, if_pos (by rw [bne_iff_ne]; exact hs), hdec]
end Go.Proofs.YthfphdbebnkdpaaDoor.Pn
end
section
namespace Go.Proofs.YthfphdbebnkdpaaDoor.P
open Go.RowKit Go.Proofs.YthfphdbebnkdpaaDoorW.aZ Go.Proofs.YthfphdbebnkdpaaDoorW.bL Go.Proofs.YthfphdbebnkdpaaDoorW.dC
attribute [local go_sem] dZ d9 fA fB dH dI ed ek
set_option linter.unusedVariables false
set_option linter.unusedSimpArgs false
mutual
def bB.j1 : Nat → List Int → Option (List Int)
 | 0, _ => none
 | k + 1, x5 => bB.l1 k x5
def bB.l1 : Nat → List Int → Option (List Int)
 | 0, _ => none
 | k + 1, x5 => if (x5.length : Int) > 0 then (if 0 ≤ (wrap64 ((x5.length : Int) - 1)) then (if (wrap64 ((x5.length : Int) - 1)) < (x5.length : Int) then (if (rd x5 (wrap64 ((x5.length : Int) - 1))) = 0 then (if (wrap64 ((x5.length : Int) - 1)) ≤ (x5.length : Int) then (bB.l1 k (x5.take ((wrap64 ((x5.length : Int) - 1)) : Int).toNat)) else (none)) else (some x5)) else (none)) else (none)) else (some x5)
def bB.l0 : Nat → List Int → Int → List Int → Int → Option (List Int)
 | 0, _, _, _, _ => none
 | k + 1, x0, x1, x5, x6 => if x6 < (x0.length : Int) then (if x6 < x1 then (if 0 ≤ x6 then (if x5.length < 17592186044416 then (bB.l0 k x0 x1 (x5 ++ [Int.tmod (rd x0 x6) 4294967296]) (wrap64 (x6 + 1))) else (none)) else (none)) else (bB.j1 k x5)) else (bB.j1 k x5)
end
def bB.f (k : Nat) (l0 : List Int) (a1 : Int) : Option (List Int) := bB.l0 k l0 a1 (([] : List Int)) 0
set_option maxHeartbeats 8000000 in
set_option maxRecDepth 100000 in
theorem bB.calls (k : Nat) (A0 : Option Addr) (c0 : Nat) (l0 : List Int) (a1 : Int) (r : List Int) (w : World) (hr0 : Kd.C (Kd.int .u64) w A0 l0.length l0) (hc0 : l0.length ≤ c0) (h : bB.f k l0 a1 = some r) :
  Calls Tryd.prog 27 #[.slice A0 l0.length c0, .int .i64 a1] w fun e w' => ∃ v0_ : Value, e = .returned (v0_) ∧ Kd.R (Kd.int .u64) 64 w' w.heap.size (fun _ => True) v0_ r ∧ Below w.heap.size w w' := by
 have HR0 := ae.mk hr0
 have HC0 := ae.mk hc0
 clear hr0 hc0
 have HB := ae.mk (Below.refl w.heap.size w)
 have H : (bB.l0 k l0 a1 (([] : List Int)) 0) = some r := h
 clear h
 obtain ⟨y101, hy101⟩ : ∃ y_ : List Int, y_ = (([] : List Int)) := ⟨_, rfl⟩
 replace H : (bB.l0 k l0 a1 y101 0) = some r := by first | (rw [hy101]; with_reducible exact H) | (have H2_ := (Option.bind_some _ _).symm.trans H; rw [hy101]; with_reducible exact H2_) | (have H2_ := (Option.bind_some _ _).symm.trans H; with_reducible exact H2_) | with_reducible exact H | (rw [hy101]; exact H) | exact H
 have Ny101 := ae.mk hy101
 clear hy101
 have HC3 := ae.mk H
 clear H
 go_enter Tryd.func27, Tryd.ntmps27
 go_upto_block 0 with (first | ((with_reducible refine bR (N := 7) rfl ?_); (try (refine iw (by rfl) ?_; dsimp only)); refine Kd.yS (Kd.int .u64) _ 64 ?hg (N := 7) ?hd (xs := ([] : List Int)) (inner := []) (ok := fun _ => True) (okp := fun _ => True) ?hr ?hp (fun _ hk => hk) trivial (Below.refl _ _) (Nat.le_refl _) (by simp) ?_; (case hd => rfl); (case hg => rfl); (case hr => first | (go_simp; done) | (go_simp; rfl)); (case hp => exact (iB.none _ _)); intro v102 w4 ho5 hb hg_ hnew_; clear hg_ hnew_; (first | rw [← Ny101.out] at ho5 | (simp only [Int.reduceToNat] at ho5; rw [← Ny101.out] at ho5)); have nI := ae.mk (Kd.bz ho5 (aN (qw HB))); replace HB := ae.mk (av (qw HB) hb); clear hb ho5))
 (try simp only [Act.put, List.setIfInBounds_toArray, List.set_cons_zero, List.set_cons_succ])
 go_cut [5] (fun v5 wc => ∃ (kq : Nat) (jl : List Int), ae (bB.j1 kq jl = some r) ∧ ae (kq ≤ k) ∧ ae (Kd.R (Kd.int .u64) 64 wc w.heap.size (fun _ => True) v5 jl) ∧ ae (Below w.heap.size w wc))
 case first =>
  have H := HC3.out
  clear HC3
  have H' := ae.mk H
  clear H
  go_wp2
  go_loopg [5, 6] k (fun kq v5 v6 w' => ∃ (fC : List Int) (iH : Int), v6 = .int .i64 iH ∧ ae (bB.l0 kq l0 a1 fC iH = some r) ∧ ae (kq ≤ k) ∧ ae (Kd.R (Kd.int .u64) 64 w' w.heap.size (fun _ => True) v5 fC) ∧ ae (Below w.heap.size w w'))
  case atStart => exact ⟨(y101), (0), (by first | rfl | (simp; done) | (simp [*]; done)), H', ⟨Nat.le_refl _⟩, ⟨by (with_reducible repeat (first | apply Kd.bu | apply Kd.bv | apply Kd.bg)); exact nI.out⟩, ⟨by repeat (first | (with_reducible first | exact HB.out | apply aM | apply aD | apply aH) | exact HB.out)⟩⟩
  case round =>
   clear H'
   try clear c2
   try clear p2
   obtain ⟨fC, iH, rfl, HA, HK1, kM, HB⟩ := hrel
   cases gk with
   | zero => exact absurd HA.out (by simp [bB.l0])
   | succ k1 =>
    have H := HA.out
    clear HA
    simp only [bB.l0] at H
    by_cases c6 : iH < (l0.length : Int)
    ·rw [if_pos c6] at H
     have oJ : decide (iH < (l0.length : Int)) = true := decide_eq_true c6
     clear c6
     (first | rw [oJ] | (simp only [gT, oW]; rw [oJ]) | skip)
     by_cases c7 : iH < a1
     ·rw [if_pos c7] at H
      have uN : decide (iH < a1) = true := decide_eq_true c7
      clear c7
      by_cases c8 : 0 ≤ iH
      ·rw [if_pos c8] at H
       have oZ : decide (0 ≤ iH) = true := decide_eq_true c8
       clear c8
       by_cases c9 : fC.length < 17592186044416
       ·rw [if_pos c9] at H
        have LMc9 := ae.mk c9
        clear c9
        obtain ⟨y105, hy105⟩ : ∃ y_ : List Int, y_ = (fC ++ [Int.tmod (rd l0 iH) 4294967296]) := ⟨_, rfl⟩
        replace H : (bB.l0 k1 l0 a1 y105 (wrap64 (iH + 1))) = some r := by first | (rw [hy105]; with_reducible exact H) | (have H2_ := (Option.bind_some _ _).symm.trans H; rw [hy105]; with_reducible exact H2_) | (have H2_ := (Option.bind_some _ _).symm.trans H; with_reducible exact H2_) | with_reducible exact H | (rw [hy105]; exact H) | exact H
        have Ny105 := ae.mk hy105
        clear hy105
        have H' := ae.mk H
        clear H
        have p104 : 0 ≤ (iH : Int) := of_decide_eq_true qa
        have q104 : iH < (l0.length : Int) := of_decide_eq_true qa
        obtain ⟨ad104, e104, hx104_0⟩ := Kd.gH HR0.out iH p104 q104
        cases e104
        replace hx104_0 := (HB.out.cell (World.block_lt_of_cell? w _ hx104_0)).trans hx104_0
        replace p104 := eq_true p104
        replace q104 := eq_true q104
        go_wp2_with (first | ((with_reducible refine nH (b := .append) (xs := #[.tmp 19, .tmp 25]) rfl ?_); (try (refine iw (by rfl) ?_; dsimp only)); at_builtin; refine Kd.uF (Kd.int .u64) (w0 := w) w.heap.size rfl (.tmp 19) (.tmp 25) 23 64 (.int .u64 0) 8 rfl Tryd.underlying23 lX rfl (by decide) (by omega) u5 fC (Int.tmod (rd l0 iH) 4294967296) [.int .u64 (Int.tmod (rd l0 iH) 4294967296)] (fun _ => True) (fun _ => False) rfl rfl ?aP (fun _ hk => hk.elim) ?aF ?aO ?aB ?aS ?aL ?_; (case aP => exact rfl); (case aB => exact (qw HB)); (case aF => exact (fun _ _ => trivial)); (case aO => exact (qr kM)); (case aS => exact (aN (qw HB))); (case aL => have := LMc9.out; omega); intro v106 w10 ho hb hg hat; rw [← Ny105.out] at ho; replace HB := ae.mk (hb); have gF := ae.mk (ho); clear kM; clear ho hb hg hat))
        go_roundg k1
        case measure => have := HK1.out; omega
        case rel => exact ⟨(y105), (wrap64 (iH + 1)), (by first | rfl | (simp; done) | (simp [*]; done)), H', ⟨by have := HK1.out; omega⟩, ⟨by (with_reducible repeat (first | apply Kd.bu | apply Kd.bv | apply Kd.bg)); exact gF.out⟩, ⟨by repeat (first | (with_reducible first | exact HB.out | apply aM | apply aD | apply aH) | exact HB.out)⟩⟩
       ·rw [if_neg c9] at H
        exact absurd H (by simp)
      ·rw [if_neg c8] at H
       exact absurd H (by simp)
     ·rw [if_neg c7] at H
      have uN : decide (iH < a1) = false := decide_eq_false c7
      clear c7
      have H' := ae.mk H
      clear H
      go_wp2
      go_meet
      case rel => exact ⟨_, (fC), H', ⟨by have := HK1.out; first | omega | exact Nat.le_refl _⟩, ⟨by (with_reducible repeat (first | apply Kd.bu | apply Kd.bv | apply Kd.bg)); exact kM.out⟩, ⟨by repeat (first | (with_reducible first | exact HB.out | apply aM | apply aD | apply aH) | exact HB.out)⟩⟩
    ·rw [if_neg c6] at H
     have oJ : decide (iH < (l0.length : Int)) = false := decide_eq_false c6
     clear c6
     (first | rw [oJ] | (simp only [gT, oW]; rw [oJ]) | skip)
     have H' := ae.mk H
     clear H
     go_wp2
     go_meet
     case rel => exact ⟨_, (fC), H', ⟨by have := HK1.out; first | omega | exact Nat.le_refl _⟩, ⟨by (with_reducible repeat (first | apply Kd.bu | apply Kd.bv | apply Kd.bg)); exact kM.out⟩, ⟨by repeat (first | (with_reducible first | exact HB.out | apply aM | apply aD | apply aH) | exact HB.out)⟩⟩
 case rest =>
  clear HC3
  try clear p1
  try clear q1
  try clear hx1
  try clear c2
  try clear p2
  try clear c6
  try clear oJ
  try clear p6
  try clear c7
  try clear uN
  try clear c8
  try clear oZ
  try clear c9
  try clear p10
  try clear q10
  try clear hx10
  try clear hx104_0
  try clear p104
  try clear p2
  try clear q104
  obtain ⟨kq, jl, HA, HJ2, kM, HB⟩ := hcut
  cases kq with
  | zero => exact absurd HA.out (by simp [bB.j1])
  | succ kj2 =>
   have H := HA.out
   clear HA
   simp only [bB.j1] at H
   have H' := ae.mk H
   clear H
   go_wp2
   go_loopg [5] kj2 (fun kq v5 w' => ∃ (jl : List Int), ae (bB.l1 kq jl = some r) ∧ ae (kq ≤ kj2) ∧ ae (Kd.R (Kd.int .u64) 64 w' w.heap.size (fun _ => True) v5 jl) ∧ ae (Below w.heap.size w w'))
   case atStart => exact ⟨(jl), H', ⟨Nat.le_refl _⟩, ⟨by (with_reducible repeat (first | apply Kd.bu | apply Kd.bv | apply Kd.bg)); exact kM.out⟩, ⟨by repeat (first | (with_reducible first | exact HB.out | apply aM | apply aD | apply aH) | exact HB.out)⟩⟩
   case round =>
    clear H'
    try clear p1
    try clear q1
    try clear hx1
    try clear c2
    try clear p2
    try clear c6
    try clear oJ
    try clear p6
    try clear c7
    try clear uN
    try clear c8
    try clear oZ
    try clear c9
    try clear p10
    try clear q10
    try clear hx10
    try clear hx104_0
    try clear p1
    try clear p10
    try clear p104
    try clear p2
    try clear p6
    try clear q1
    try clear q10
    try clear q104
    obtain ⟨jl, HA, HK2, kM, HB⟩ := hrel
    cases gk with
    | zero => exact absurd HA.out (by simp [bB.l1])
    | succ k2 =>
     have H := HA.out
     clear HA
     simp only [bB.l1] at H
     by_cases c11 : (jl.length : Int) > 0
     ·rw [if_pos c11] at H
      have qB : decide (0 < (jl.length : Int)) = true := decide_eq_true c11
      have Dj : decide (0 < jl.length) = true := decide_eq_true (by omega)
      clear c11
      obtain ⟨ji12, hji12⟩ : ∃ j_ : Int, (wrap64 ((jl.length : Int) - 1)) = j_ := ⟨_, rfl⟩
      replace H : (if 0 ≤ (ji12) then (if (ji12) < (jl.length : Int) then (if (rd jl (ji12)) = 0 then (if (ji12) ≤ (jl.length : Int) then (bB.l1 k2 (jl.take ((ji12) : Int).toNat)) else (none)) else (some jl)) else (none)) else (none)) = some r := by first | (rw [hji12] at H; exact H) | (simp only [hji12] at H ⊢; exact H)
      have hji12w : (IntKind.i64.wrap ((jl.length : Int) - 1)) = ji12 := (gT _).trans hji12
      by_cases c13 : 0 ≤ (ji12)
      ·rw [if_pos c13] at H
       have qg : decide (0 ≤ (ji12)) = true := decide_eq_true c13
       clear c13
       by_cases c14 : (ji12) < (jl.length : Int)
       ·rw [if_pos c14] at H
        have xk : decide ((ji12) < (jl.length : Int)) = true := decide_eq_true c14
        clear c14
        by_cases c15 : (rd jl (ji12)) = 0
        ·rw [if_pos c15] at H
         have o5 : ((rd jl (ji12)) == 0) = true := beq_iff_eq.mpr c15
         have Bh : ((rd jl (ji12)) != 0) = false := bne_eq_false_iff_eq.mpr c15
         clear c15
         by_cases c16 : (ji12) ≤ (jl.length : Int)
         ·rw [if_pos c16] at H
          have xn := eq_true c16
          have FZ : decide ((ji12) ≤ (jl.length : Int)) = true := decide_eq_true c16
          clear c16
          obtain ⟨y109, hy109⟩ : ∃ y_ : List Int, y_ = (jl.take ((ji12) : Int).toNat) := ⟨_, rfl⟩
          replace H : (bB.l1 k2 y109) = some r := by first | (rw [hy109]; with_reducible exact H) | (have H2_ := (Option.bind_some _ _).symm.trans H; rw [hy109]; with_reducible exact H2_) | (have H2_ := (Option.bind_some _ _).symm.trans H; with_reducible exact H2_) | with_reducible exact H | (rw [hy109]; exact H) | exact H
          have Ny109 := ae.mk hy109
          clear hy109
          have H' := ae.mk H
          clear H
          obtain ⟨yL, uV, Aa⟩ := Kd.bD kM.out
          subst Aa
          have p108 : 0 ≤ ((ji12) : Int) := of_decide_eq_true qa
          have q108 : (ji12) < (jl.length : Int) := of_decide_eq_true qa
          obtain ⟨ad108, e108, hx108_0⟩ := Kd.gH (Kd.ak kM.out).2.2 (ji12) p108 q108
          cases e108
          replace p108 := eq_true p108
          replace q108 := eq_true q108
          have q18 : ((ji12) : Int) ≤ ((jl.length : Int) : Int) := of_decide_eq_true qa
          obtain ⟨i018, hi018, _, hsz18, _⟩ := info_parts lX
          have hcut18 := xV (P := Tryd.prog) 23 64 .i64 Tryd.underlying23 hi018 (some ad108) jl.length uV (ji12) (of_decide_eq_true qa) q18 (Kd.ak kM.out).2.1
          have hr18 := Kd.xX (m := ((ji12) : Int).toNat) kM.out (by omega)
          have hy18 : y109.length = ((ji12) : Int).toNat := (by rw [Ny109.out, List.length_take]; omega)
          rw [← Ny109.out] at hr18
          rw [← hy18] at hr18 hcut18
          clear hy18 hi018 hsz18 kM
          have qQ := ae.mk hr18
          clear hr18
          replace q18 := eq_true q18
          go_wp2
          go_roundg k2
          case measure => have := HJ2.out; have := HK2.out; omega
          case rel => exact ⟨(y109), H', ⟨by have := HJ2.out; have := HK2.out; omega⟩, ⟨by (with_reducible repeat (first | apply Kd.bu | apply Kd.bv | apply Kd.bg)); exact qQ.out⟩, ⟨by repeat (first | (with_reducible first | exact HB.out | apply aM | apply aD | apply aH) | exact HB.out)⟩⟩
         ·rw [if_neg c16] at H
          exact absurd H (by simp)
        ·rw [if_neg c15] at H
         have o5 : ((rd jl (ji12)) == 0) = false := beq_eq_false_iff_ne.mpr c15
         have Bh : ((rd jl (ji12)) != 0) = true := bne_iff_ne.mpr c15
         obtain rfl := Option.some.inj H
         obtain ⟨fH, fE, tq⟩ := Kd.bD kM.out
         subst tq
         have p108 : 0 ≤ ((ji12) : Int) := of_decide_eq_true qa
         have q108 : (ji12) < (jl.length : Int) := of_decide_eq_true qa
         obtain ⟨ad108, e108, hx108_0⟩ := Kd.gH (Kd.ak kM.out).2.2 (ji12) p108 q108
         cases e108
         replace p108 := eq_true p108
         replace q108 := eq_true q108
         go_wp2
         go_ret
         exact ⟨_, by first | rfl | (simp [errW_none, errW_some] <;> rfl) | (simp only [← hji12]; first | rfl | (simp [errW_none, errW_some] <;> rfl)) | (simp [*, errW_none, errW_some] <;> rfl), by (with_reducible repeat (first | apply Kd.bu | apply Kd.bv | apply Kd.bg)); exact kM.out, by repeat (first | (with_reducible first | exact HB.out | apply aM | apply aD | apply aH) | exact HB.out)⟩
       ·rw [if_neg c14] at H
        exact absurd H (by simp)
      ·rw [if_neg c13] at H
       exact absurd H (by simp)
     ·rw [if_neg c11] at H
      have qB : decide (0 < (jl.length : Int)) = false := decide_eq_false c11
      have Dj : decide (0 < jl.length) = false := decide_eq_false (by omega)
      clear c11
      obtain rfl := Option.some.inj H
      obtain ⟨lg, ko, zO⟩ := Kd.bD kM.out
      subst zO
      go_wp2
      go_ret
      exact ⟨_, by first | rfl | (simp [errW_none, errW_some] <;> rfl) | (simp [*, errW_none, errW_some] <;> rfl), by (with_reducible repeat (first | apply Kd.bu | apply Kd.bv | apply Kd.bg)); exact kM.out, by repeat (first | (with_reducible first | exact HB.out | apply aM | apply aD | apply aH) | exact HB.out)⟩
end Go.Proofs.YthfphdbebnkdpaaDoor.P
end
section
namespace Go.Proofs.YthfphdbebnkdpaaDoor.P
open Go.RowKit Go.Proofs.YthfphdbebnkdpaaDoorW.aZ Go.Proofs.YthfphdbebnkdpaaDoorW.bL Go.Proofs.YthfphdbebnkdpaaDoorW.dC
attribute [local go_sem] dZ d9 fA fB dH dI ed ek
set_option linter.unusedVariables false
set_option linter.unusedSimpArgs false
def dN.f (k : Nat) (dJ : Bool) (cK : List Int) (a1 : Int) : Option (Bool × List Int) := (bB.f k cK a1).bind fun dR => (if dJ = true then (some (decide (0 < dR.length), dR)) else (some (false, dR)))
set_option maxHeartbeats 8000000 in
set_option maxRecDepth 100000 in
theorem dN.calls (k : Nat) (dJ : Bool) (gy : Option Addr) (c0_1 : Nat) (cK : List Int) (a1 : Int) (r1 : Bool) (r2 : List Int) (w : World) (hr0_1 : Kd.C (Kd.int .u64) w gy cK.length cK) (hc0_1 : cK.length ≤ c0_1) (h : dN.f k dJ cK a1 = some (r1, r2)) :
  Calls Tryd.prog 7 #[.agg #[.bool dJ, .slice gy cK.length c0_1], .int .i64 a1] w fun e w' => ∃ v1_ : Value, e = .returned (.agg #[.bool r1, v1_]) ∧ Kd.R (Kd.int .u64) 64 w' w.heap.size (fun _ => True) v1_ r2 ∧ Below w.heap.size w w' := by
 have hu25 := Tryd.underlying25
 have ku := ae.mk hr0_1
 have kv := ae.mk hc0_1
 clear hr0_1 hc0_1
 have HB := ae.mk (Below.refl w.heap.size w)
 have H : ((bB.f k cK a1).bind fun dR => (if dJ = true then (some (decide (0 < dR.length), dR)) else (some (false, dR)))) = some (r1, r2) := h
 clear h
 replace H := Option.bind_eq_some_iff.mp H
 obtain ⟨dR, A30, H⟩ := H
 replace H : (if dJ = true then (some (decide (0 < dR.length), dR)) else (some (false, dR))) = some (r1, r2) := H
 have A3 := ae.mk A30
 clear A30
 by_cases c4 : dJ = true
 ·subst c4
  have H1 : (some (decide (0 < dR.length), dR)) = some (r1, r2) := by rw [if_pos rfl] at H; exact H
  clear H
  have H := H1
  clear H1
  simp only [Option.some.injEq, Prod.mk.injEq] at H
  obtain ⟨rfl, rfl⟩ := H
  go_enter Tryd.func7, Tryd.ntmps7
  go_wp2_with (first | ((with_reducible refine bR (N := 2) rfl ?_); (try (refine iw (by rfl) ?_; dsimp only)); refine bS ?hg (N := 2) ?hd (cs := #[.bool true, .slice gy cK.length c0_1]) (t := 25) ?hr ?_; (case hd => rfl); (case hg => rfl); (case hr => first | (go_simp; done) | (go_simp; rfl)); intro bM hg w5 hbox hb; have ai := ae.mk (hbox); have GW101 := qge HB hg; have gB := qge HB hg; replace HB := ae.mk (av (qw HB) hb); clear hb hbox hg) | ((with_reducible refine bR (N := 4) rfl ?_); (try (refine iw (by rfl) ?_; dsimp only)); refine bS ?hg (N := 4) ?hd (cs := #[.bool false, .slice none 0 0]) (t := 25) ?hr ?_; (case hd => rfl); (case hg => rfl); (case hr => first | (go_simp; done) | (go_simp; rfl)); intro cu hg w6 hbox hb; have au := ae.mk (hbox); have GW102 := qge HB hg; have ib := qge HB hg; replace HB := ae.mk (av (qw HB) hb); have eD := qnl ai hg; have eF := qng ai hg; replace ai := qbb ai hb; clear hb hbox hg; have hnb7 := eD.out; have hnc7 := eF.out; have hcz8_0 : w6.cell? ⟨bM, 0, none⟩ = some (.bool true) := (af ai.out 0).trans rfl; have hcz8_1 : w6.cell? ⟨bM, 1, none⟩ = some (.slice gy cK.length c0_1) := (af ai.out 1).trans rfl; have hfz8_0 := aK ai.out 0; have hfz8_1 := aK ai.out 1) | ((with_reducible refine aW (f := 27) rfl ?_); refine cO (some 9) rfl rfl Tryd.func27 (by kernel_rfl) rfl #[.slice gy cK.length c0_1, .int .i64 a1] rfl qt ?_; (with_reducible refine (bB.calls k _ _ cK a1 dR _ ?aU ?aV A3.out).mono ?_); (case aU => exact qs ((Kd.dS ku.out HB.out))); (case aV => exact kv.out); rintro e w9 ⟨v104, rfl, ho0, hb⟩; refine ⟨_, rfl, ?_⟩; have qU := ae.mk (Kd.bz ho0 (aN (qw HB))); replace ai := qbb ai hb; replace au := qbb au hb; replace HB := ae.mk (av (qw HB) hb); (try clear hb); (try clear hb2); (try clear hk); (try clear hi); (try clear ho0); have hcz10_0 : w9.cell? ⟨bM, 0, none⟩ = some (.bool true) := (af ai.out 0).trans rfl; have hcz10_1 : w9.cell? ⟨bM, 1, none⟩ = some (.slice gy cK.length c0_1) := (af ai.out 1).trans rfl; have hfz10_0 := aK ai.out 0; have hfz10_1 := aK ai.out 1; obtain ⟨vS, vT, yH⟩ := Kd.bD qU.out; subst yH; have hcz12_0 : w9.cell? ⟨cu, 0, none⟩ = some (.bool false) := (af au.out 0).trans rfl; have hcz12_1 : w9.cell? ⟨cu, 1, none⟩ = some (.slice none 0 0) := (af au.out 1).trans rfl; have hfz12_0 := aK au.out 0; have hfz12_1 := aK au.out 1))
  refine bodyPost_ret (results_cell_row rfl _ _ cu 25 #[.bool (decide (0 < dR.length)), .slice vS dR.length vT] (0, 0) _ rfl (by refine dG (cs := #[.bool (decide (0 < dR.length)), .slice none 0 0]) ?_ 1 _ rfl; refine dG (cs := #[.bool false, .slice none 0 0]) ?_ 0 _ rfl; (with_reducible repeat (first | refine bP ?_ _ | refine bf ?_ | refine bO ?_ _)); exact au.out) Tryd.underlying25 rfl (by kernel_rfl)) rfl ?_
  exact ⟨_, by first | rfl | (simp [errW_none, errW_some] <;> rfl) | (simp [*, errW_none, errW_some] <;> rfl), by (with_reducible repeat (first | apply Kd.bu | apply Kd.bv | apply Kd.bg)); exact Kd.bG (Kd.bH (p := ⟨cu, 1, none⟩) (Kd.bH (p := ⟨cu, 0, none⟩) (Kd.bU qU.out au.out (by decide)) (fun _ hk => hk.2) (.bool (decide (0 < dR.length)))) (fun _ hk => hk.2) (.slice vS dR.length vT)) (fun _ hk => trivial), by repeat (first | (with_reducible first | exact HB.out | apply aM | apply aD | apply aH | refine aQ ?_ gB.out | refine aQ ?_ ib.out) | exact HB.out)⟩
 ·replace c4 := Bool.eq_false_iff.mpr c4
  subst c4
  have H1 : (some (false, dR)) = some (r1, r2) := by rw [if_neg (show ¬ (false = true) by decide)] at H; exact H
  clear H
  have H := H1
  clear H1
  simp only [Option.some.injEq, Prod.mk.injEq] at H
  obtain ⟨rfl, rfl⟩ := H
  go_enter Tryd.func7, Tryd.ntmps7
  go_wp2_with (first | ((with_reducible refine bR (N := 2) rfl ?_); (try (refine iw (by rfl) ?_; dsimp only)); refine bS ?hg (N := 2) ?hd (cs := #[.bool false, .slice gy cK.length c0_1]) (t := 25) ?hr ?_; (case hd => rfl); (case hg => rfl); (case hr => first | (go_simp; done) | (go_simp; rfl)); intro bM hg w13 hbox hb; have ai := ae.mk (hbox); have GW101 := qge HB hg; have gB := qge HB hg; replace HB := ae.mk (av (qw HB) hb); clear hb hbox hg) | ((with_reducible refine bR (N := 4) rfl ?_); (try (refine iw (by rfl) ?_; dsimp only)); refine bS ?hg (N := 4) ?hd (cs := #[.bool false, .slice none 0 0]) (t := 25) ?hr ?_; (case hd => rfl); (case hg => rfl); (case hr => first | (go_simp; done) | (go_simp; rfl)); intro cu hg w14 hbox hb; have au := ae.mk (hbox); have GW102 := qge HB hg; have ib := qge HB hg; replace HB := ae.mk (av (qw HB) hb); have eD := qnl ai hg; have eF := qng ai hg; replace ai := qbb ai hb; clear hb hbox hg; have hnb15 := eD.out; have hnc15 := eF.out; have hcz16_0 : w14.cell? ⟨bM, 0, none⟩ = some (.bool false) := (af ai.out 0).trans rfl; have hcz16_1 : w14.cell? ⟨bM, 1, none⟩ = some (.slice gy cK.length c0_1) := (af ai.out 1).trans rfl; have hfz16_0 := aK ai.out 0; have hfz16_1 := aK ai.out 1) | ((with_reducible refine aW (f := 27) rfl ?_); refine cO (some 9) rfl rfl Tryd.func27 (by kernel_rfl) rfl #[.slice gy cK.length c0_1, .int .i64 a1] rfl qt ?_; (with_reducible refine (bB.calls k _ _ cK a1 dR _ ?aU ?aV A3.out).mono ?_); (case aU => exact qs ((Kd.dS ku.out HB.out))); (case aV => exact kv.out); rintro e w17 ⟨v104, rfl, ho0, hb⟩; refine ⟨_, rfl, ?_⟩; have qU := ae.mk (Kd.bz ho0 (aN (qw HB))); replace ai := qbb ai hb; replace au := qbb au hb; replace HB := ae.mk (av (qw HB) hb); (try clear hb); (try clear hb2); (try clear hk); (try clear hi); (try clear ho0); have hcz18_0 : w17.cell? ⟨bM, 0, none⟩ = some (.bool false) := (af ai.out 0).trans rfl; have hcz18_1 : w17.cell? ⟨bM, 1, none⟩ = some (.slice gy cK.length c0_1) := (af ai.out 1).trans rfl; have hfz18_0 := aK ai.out 0; have hfz18_1 := aK ai.out 1; obtain ⟨fH, fE, tq⟩ := Kd.bD qU.out; subst tq; have hcz20_0 : w17.cell? ⟨cu, 0, none⟩ = some (.bool false) := (af au.out 0).trans rfl; have hcz20_1 : w17.cell? ⟨cu, 1, none⟩ = some (.slice none 0 0) := (af au.out 1).trans rfl; have hfz20_0 := aK au.out 0; have hfz20_1 := aK au.out 1))
  refine bodyPost_ret (results_cell_row rfl _ _ cu 25 #[.bool false, .slice fH dR.length fE] (0, 0) _ rfl (by refine dG (cs := #[.bool false, .slice none 0 0]) ?_ 1 _ rfl; refine dG (cs := #[.bool false, .slice none 0 0]) ?_ 0 _ rfl; (with_reducible repeat (first | refine bP ?_ _ | refine bf ?_ | refine bO ?_ _)); exact au.out) Tryd.underlying25 rfl (by kernel_rfl)) rfl ?_
  exact ⟨_, by first | rfl | (simp [errW_none, errW_some] <;> rfl) | (simp [*, errW_none, errW_some] <;> rfl), by (with_reducible repeat (first | apply Kd.bu | apply Kd.bv | apply Kd.bg)); exact Kd.bG (Kd.bH (p := ⟨cu, 1, none⟩) (Kd.bH (p := ⟨cu, 0, none⟩) (Kd.bU qU.out au.out (by decide)) (fun _ hk => hk.2) (.bool false)) (fun _ hk => hk.2) (.slice fH dR.length fE)) (fun _ hk => trivial), by repeat (first | (with_reducible first | exact HB.out | apply aM | apply aD | apply aH | refine aQ ?_ gB.out | refine aQ ?_ ib.out) | exact HB.out)⟩
end Go.Proofs.YthfphdbebnkdpaaDoor.P
end
section
namespace Go.Proofs.YthfphdbebnkdpaaDoor.P
open Go.RowKit Go.Proofs.YthfphdbebnkdpaaDoorW.aZ Go.Proofs.YthfphdbebnkdpaaDoorW.bL Go.Proofs.YthfphdbebnkdpaaDoorW.dC
attribute [local go_sem] dZ d9 fA fB dH dI ed ek
set_option linter.unusedVariables false
set_option linter.unusedSimpArgs false
def dW.l0 : Nat → List Int → List Int → Int → Option (Bool)
 | 0, _, _, _ => none
 | k + 1, x0, x1, x5 => if x5 < (x0.length : Int) then (if 0 ≤ x5 then (if x5 < (x1.length : Int) then (if (rd x0 x5) = (rd x1 x5) then (dW.l0 k x0 x1 (wrap64 (x5 + 1))) else (some false)) else (none)) else (none)) else (some true)
def dW.f (k : Nat) (l0 : List Int) (l1 : List Int) : Option (Bool) := if (l0.length : Int) = (l1.length : Int) then (dW.l0 k l0 l1 0) else (some false)
set_option maxHeartbeats 8000000 in
set_option maxRecDepth 100000 in
theorem dW.calls (k : Nat) (A0 : Option Addr) (c0 : Nat) (l0 : List Int) (A1 : Option Addr) (c1 : Nat) (l1 : List Int) (r : Bool) (w : World) (hr0 : Kd.C (Kd.int .u64) w A0 l0.length l0) (hc0 : l0.length ≤ c0) (hr1 : Kd.C (Kd.int .u64) w A1 l1.length l1) (hc1 : l1.length ≤ c1) (h : dW.f k l0 l1 = some r) :
  Calls Tryd.prog 28 #[.slice A0 l0.length c0, .slice A1 l1.length c1] w fun e w' => e = .returned (.bool r) ∧ bZ w w' := by
 have HR0 := ae.mk hr0
 have HC0 := ae.mk hc0
 clear hr0 hc0
 have HR1 := ae.mk hr1
 have HC1 := ae.mk hc1
 clear hr1 hc1
 have H : (if (l0.length : Int) = (l1.length : Int) then (dW.l0 k l0 l1 0) else (some false)) = some r := h
 clear h
 by_cases c3 : (l0.length : Int) = (l1.length : Int)
 ·rw [if_pos c3] at H
  have nE : ((l0.length : Int) == (l1.length : Int)) = true := beq_iff_eq.mpr c3
  have qD : ((l0.length : Int) != (l1.length : Int)) = false := bne_eq_false_iff_eq.mpr c3
  have xA : (l0.length == l1.length) = true := by first | simpa using c3 | (simp at c3 ⊢; omega)
  clear c3
  have H' := ae.mk H
  clear H
  go_enter Tryd.func28, Tryd.ntmps28
  go_wp2
  repeat (go_quiet (fail); try go_wp2)
  go_loopg [5] k (fun kq v5 w' => ∃ (fC : Int), v5 = .int .i64 fC ∧ ae (dW.l0 kq l0 l1 fC = some r) ∧ ae (kq ≤ k) ∧ bZ w w')
  case atStart => exact ⟨(0), (by first | rfl | (simp; done) | (simp [*]; done)), H', ⟨Nat.le_refl _⟩, by repeat (first | exact bZ.refl _ | apply bZ.step)⟩
  case round =>
   clear H'
   try clear c1
   try clear c2
   try clear p2
   try clear c3
   try clear nE
   try clear qD
   try clear xA
   obtain ⟨fC, rfl, HA, HK1, ⟨m1, rfl⟩⟩ := hrel
   cases gk with
   | zero => exact absurd HA.out (by simp [dW.l0])
   | succ k1 =>
    have H := HA.out
    clear HA
    simp only [dW.l0] at H
    by_cases c4 : fC < (l0.length : Int)
    ·rw [if_pos c4] at H
     have ll : decide (fC < (l0.length : Int)) = true := decide_eq_true c4
     clear c4
     by_cases c5 : 0 ≤ fC
     ·rw [if_pos c5] at H
      have jW : decide (0 ≤ fC) = true := decide_eq_true c5
      clear c5
      by_cases c6 : fC < (l1.length : Int)
      ·rw [if_pos c6] at H
       have oJ : decide (fC < (l1.length : Int)) = true := decide_eq_true c6
       clear c6
       by_cases c7 : (rd l0 fC) = (rd l1 fC)
       ·rw [if_pos c7] at H
        have uN : ((rd l0 fC) == (rd l1 fC)) = true := beq_iff_eq.mpr c7
        have El : ((rd l0 fC) != (rd l1 fC)) = false := bne_eq_false_iff_eq.mpr c7
        clear c7
        have H' := ae.mk H
        clear H
        have p101 : 0 ≤ (fC : Int) := of_decide_eq_true qa
        have q101 : fC < (l0.length : Int) := of_decide_eq_true qa
        obtain ⟨ad101, e101, hx101_0⟩ := Kd.gH HR0.out fC p101 q101
        cases e101
        replace p101 := eq_true p101
        replace q101 := eq_true q101
        have p102 : 0 ≤ (fC : Int) := of_decide_eq_true qa
        have q102 : fC < (l1.length : Int) := of_decide_eq_true qa
        obtain ⟨ad102, e102, hx102_0⟩ := Kd.gH HR1.out fC p102 q102
        cases e102
        replace p102 := eq_true p102
        replace q102 := eq_true q102
        go_wp2
        repeat (go_quiet (fail); try go_wp2)
        go_roundg k1
        case measure => have := HK1.out; omega
        case rel => exact ⟨(wrap64 (fC + 1)), (by first | rfl | (simp; done) | (simp [*]; done)), H', ⟨by have := HK1.out; omega⟩, by repeat (first | exact bZ.refl _ | apply bZ.step)⟩
       ·rw [if_neg c7] at H
        have uN : ((rd l0 fC) == (rd l1 fC)) = false := beq_eq_false_iff_ne.mpr c7
        have El : ((rd l0 fC) != (rd l1 fC)) = true := bne_iff_ne.mpr c7
        obtain rfl := Option.some.inj H
        have p101 : 0 ≤ (fC : Int) := of_decide_eq_true qa
        have q101 : fC < (l0.length : Int) := of_decide_eq_true qa
        obtain ⟨ad101, e101, hx101_0⟩ := Kd.gH HR0.out fC p101 q101
        cases e101
        replace p101 := eq_true p101
        replace q101 := eq_true q101
        have p102 : 0 ≤ (fC : Int) := of_decide_eq_true qa
        have q102 : fC < (l1.length : Int) := of_decide_eq_true qa
        obtain ⟨ad102, e102, hx102_0⟩ := Kd.gH HR1.out fC p102 q102
        cases e102
        replace p102 := eq_true p102
        replace q102 := eq_true q102
        go_wp2
        repeat (go_quiet (fail); try go_wp2)
        go_ret
        exact ⟨by first | rfl | (simp; done) | (simp [*]; done), by repeat (first | exact bZ.refl _ | apply bZ.step)⟩
      ·rw [if_neg c6] at H
       exact absurd H (by simp)
     ·rw [if_neg c5] at H
      exact absurd H (by simp)
    ·rw [if_neg c4] at H
     have ll : decide (fC < (l0.length : Int)) = false := decide_eq_false c4
     clear c4
     obtain rfl := Option.some.inj H
     go_wp2
     repeat (go_quiet (fail); try go_wp2)
     go_ret
     exact ⟨by first | rfl | (simp; done) | (simp [*]; done), by repeat (first | exact bZ.refl _ | apply bZ.step)⟩
 ·rw [if_neg c3] at H
  have nE : ((l0.length : Int) == (l1.length : Int)) = false := beq_eq_false_iff_ne.mpr c3
  have qD : ((l0.length : Int) != (l1.length : Int)) = true := bne_iff_ne.mpr c3
  have xA : (l0.length == l1.length) = false := by first | simpa using c3 | (simp at c3 ⊢; omega)
  obtain rfl := Option.some.inj H
  go_enter Tryd.func28, Tryd.ntmps28
  go_wp2
  repeat (go_quiet (fail); try go_wp2)
  go_ret
  exact ⟨by first | rfl | (simp; done) | (simp [*]; done), by repeat (first | exact bZ.refl _ | apply bZ.step)⟩
end Go.Proofs.YthfphdbebnkdpaaDoor.P
end
section
namespace Go.Proofs.YthfphdbebnkdpaaDoor.P
open Go.RowKit Go.Proofs.YthfphdbebnkdpaaDoorW.aZ Go.Proofs.YthfphdbebnkdpaaDoorW.bL Go.Proofs.YthfphdbebnkdpaaDoorW.dC
attribute [local go_sem] dZ d9 fA fB dH dI ed ek
set_option linter.unusedVariables false
set_option linter.unusedSimpArgs false
def aR.f (k : Nat) (dJ : Bool) (cK : List Int) (dX : Bool) (dY : List Int) : Option (Bool) := if (dJ == dX) = true then ((dW.f k cK dY).bind fun dR => (some dR)) else (some false)
set_option maxHeartbeats 8000000 in
set_option maxRecDepth 100000 in
theorem aR.calls (k : Nat) (dJ : Bool) (gy : Option Addr) (c0_1 : Nat) (cK : List Int) (dX : Bool) (iq : Option Addr) (c1_1 : Nat) (dY : List Int) (r : Bool) (w : World) (hr0_1 : Kd.C (Kd.int .u64) w gy cK.length cK) (hc0_1 : cK.length ≤ c0_1) (hr1_1 : Kd.C (Kd.int .u64) w iq dY.length dY) (hc1_1 : dY.length ≤ c1_1) (h : aR.f k dJ cK dX dY = some r) :
  Calls Tryd.prog 8 #[.agg #[.bool dJ, .slice gy cK.length c0_1], .agg #[.bool dX, .slice iq dY.length c1_1]] w fun e w' => e = .returned (.bool r) ∧ Below w.heap.size w w' := by
 have hu25 := Tryd.underlying25
 have ku := ae.mk hr0_1
 have kv := ae.mk hc0_1
 clear hr0_1 hc0_1
 have ny := ae.mk hr1_1
 have nz := ae.mk hc1_1
 clear hr1_1 hc1_1
 have HB := ae.mk (Below.refl w.heap.size w)
 have H : (if (dJ == dX) = true then ((dW.f k cK dY).bind fun dR => (some dR)) else (some false)) = some r := h
 clear h
 by_cases c3 : (dJ == dX) = true
 ·rw [if_pos c3] at H
  have nE : (dJ == dX) = true := c3
  (try (have qD : decide (dJ = dX) = true := by simpa using c3))
  (try (have xA : (dJ == dX) = true := by simpa using c3))
  clear c3
  replace H := Option.bind_eq_some_iff.mp H
  obtain ⟨dR, A40, H⟩ := H
  replace H : (some dR) = some r := H
  have A4 := ae.mk A40
  clear A40
  obtain rfl := Option.some.inj H
  go_enter Tryd.func8, Tryd.ntmps8
  go_wp2_with (first | ((with_reducible refine bR (N := 2) rfl ?_); refine bS ?hg (N := 2) ?hd (cs := #[.bool dJ, .slice gy cK.length c0_1]) (t := 25) ?hr ?_; (case hd => rfl); (case hg => rfl); (case hr => first | (go_simp; done) | (go_simp; rfl)); intro bM hg w5 hbox hb; have ai := ae.mk (hbox); have GW101 := qge HB hg; have gB := qge HB hg; replace HB := ae.mk (av (qw HB) hb); clear hb hbox hg) | ((with_reducible refine bR (N := 3) rfl ?_); refine bS ?hg (N := 3) ?hd (cs := #[.bool dX, .slice iq dY.length c1_1]) (t := 25) ?hr ?_; (case hd => rfl); (case hg => rfl); (case hr => first | (go_simp; done) | (go_simp; rfl)); intro cu hg w6 hbox hb; have au := ae.mk (hbox); have GW102 := qge HB hg; have ib := qge HB hg; replace HB := ae.mk (av (qw HB) hb); have eD := qnl ai hg; have eF := qng ai hg; replace ai := qbb ai hb; clear hb hbox hg; have hnb7 := eD.out; have hnc7 := eF.out; have hcz8_0 : w6.cell? ⟨bM, 0, none⟩ = some (.bool dJ) := (af ai.out 0).trans rfl; have hcz8_1 : w6.cell? ⟨bM, 1, none⟩ = some (.slice gy cK.length c0_1) := (af ai.out 1).trans rfl; have hfz8_0 := aK ai.out 0; have hfz8_1 := aK ai.out 1; have hcz9_0 : w6.cell? ⟨cu, 0, none⟩ = some (.bool dX) := (af au.out 0).trans rfl; have hcz9_1 : w6.cell? ⟨cu, 1, none⟩ = some (.slice iq dY.length c1_1) := (af au.out 1).trans rfl; have hfz9_0 := aK au.out 0; have hfz9_1 := aK au.out 1) | (go_at_call 28; (with_reducible refine (dW.calls k _ _ cK _ _ dY dR _ ?aU ?aV ?bJ ?bK A4.out).mono ?_); (case aU => exact qs ((Kd.dS ku.out HB.out))); (case aV => exact kv.out); (case bJ => exact qs ((Kd.dS ny.out HB.out))); (case bK => exact nz.out); rintro e w' ⟨rfl, ⟨nd, rfl⟩⟩))
  go_ret
  exact ⟨by first | rfl | (simp [errW_none, errW_some] <;> rfl) | (simp [*, errW_none, errW_some] <;> rfl), by repeat (first | (with_reducible first | exact HB.out | apply aM | apply aD | apply aH | refine aQ ?_ gB.out | refine aQ ?_ ib.out) | exact HB.out)⟩
 ·rw [if_neg c3] at H
  have nE : (dJ == dX) = false := by simpa using c3
  (try (have qD : decide (dJ = dX) = false := by simpa using c3))
  (try (have xA : (dJ == dX) = false := by simpa using c3))
  (try (have JE : ¬ (dJ = dX) := by simpa using c3))
  clear c3
  obtain rfl := Option.some.inj H
  go_enter Tryd.func8, Tryd.ntmps8
  go_wp2_with (first | ((with_reducible refine bR (N := 2) rfl ?_); refine bS ?hg (N := 2) ?hd (cs := #[.bool dJ, .slice gy cK.length c0_1]) (t := 25) ?hr ?_; (case hd => rfl); (case hg => rfl); (case hr => first | (go_simp; done) | (go_simp; rfl)); intro bM hg w10 hbox hb; have ai := ae.mk (hbox); have GW101 := qge HB hg; have gB := qge HB hg; replace HB := ae.mk (av (qw HB) hb); clear hb hbox hg) | ((with_reducible refine bR (N := 3) rfl ?_); refine bS ?hg (N := 3) ?hd (cs := #[.bool dX, .slice iq dY.length c1_1]) (t := 25) ?hr ?_; (case hd => rfl); (case hg => rfl); (case hr => first | (go_simp; done) | (go_simp; rfl)); intro cu hg w11 hbox hb; have au := ae.mk (hbox); have GW102 := qge HB hg; have ib := qge HB hg; replace HB := ae.mk (av (qw HB) hb); have eD := qnl ai hg; have eF := qng ai hg; replace ai := qbb ai hb; clear hb hbox hg; have hnb12 := eD.out; have hnc12 := eF.out; have hcz13_0 : w11.cell? ⟨bM, 0, none⟩ = some (.bool dJ) := (af ai.out 0).trans rfl; have hcz13_1 : w11.cell? ⟨bM, 1, none⟩ = some (.slice gy cK.length c0_1) := (af ai.out 1).trans rfl; have hfz13_0 := aK ai.out 0; have hfz13_1 := aK ai.out 1; have hcz14_0 : w11.cell? ⟨cu, 0, none⟩ = some (.bool dX) := (af au.out 0).trans rfl; have hcz14_1 : w11.cell? ⟨cu, 1, none⟩ = some (.slice iq dY.length c1_1) := (af au.out 1).trans rfl; have hfz14_0 := aK au.out 0; have hfz14_1 := aK au.out 1))
  go_ret
  exact ⟨by first | rfl | (simp [errW_none, errW_some] <;> rfl) | (simp [*, errW_none, errW_some] <;> rfl), by repeat (first | (with_reducible first | exact HB.out | apply aM | apply aD | apply aH | refine aQ ?_ gB.out | refine aQ ?_ ib.out) | exact HB.out)⟩
end Go.Proofs.YthfphdbebnkdpaaDoor.P
end
section
set_option linter.unusedVariables false
set_option linter.unusedSimpArgs false
namespace Go.Proofs.YthfphdbebnkdpaaDoor.Pn
open Go.Proofs.YthfphdbebnkdpaaDoor.P Go.Proofs.YthfphdbebnkdpaaDoorW.aZ Go.Proofs.YthfphdbebnkdpaaDoorW.bL Go.RowKit
theorem Ev.pos {α : Type} {c : Prop} [Decidable c] {f g : Nat → Option α} {r : α} (hc : c) (h : Ev f r) : Ev (fun k => if c then f k else g k) r := Ev.congr (fun k => if_pos hc) h
theorem Ev.neg {α : Type} {c : Prop} [Decidable c] {f g : Nat → Option α} {r : α} (hc : ¬ c) (h : Ev g r) : Ev (fun k => if c then f k else g k) r := Ev.congr (fun k => if_neg hc) h
theorem CU (a : List Int) (y : Int) : rd (a ++ [y]) (a.length : Int) = y := by rw [gZ]; simp
theorem uW (n : Nat) : ∀ x : List Int, x.length = n → n ≤ 1000000 → Ev (fun k => bB.l1 k x) (pY x) := by
  induction n with
  | zero =>
    intro x hx _
    obtain rfl := List.eq_nil_of_length_eq_zero hx
    refine Ev.step (f := fun _ => some []) (fun k => ?_) (Ev.now _)
    rw [bB.l1, if_neg (by decide)]
  | succ n ih =>
    intro x hx hn
    obtain ⟨a, y, rfl⟩ : ∃ a y, x = a ++ [y] := ⟨x.dropLast, x.getLast (by intro h; subst h; cases hx), (List.dropLast_concat_getLast _).symm⟩
    have ha : a.length = n := by simpa using hx
    have hw : wrap64 (((a ++ [y]).length : Int) - 1) = (a.length : Int) := by rw [hx]; unfold wrap64; omega
    have hr := CU a y
    have hle : (a.length : Int) < ((a ++ [y]).length : Int) := by rw [hx]; omega
    by_cases h : y = 0
    · refine Ev.step (f := fun k => bB.l1 k a) (fun k => ?_) (by rw [h, ow]; exact ih a ha (by omega))
      rw [bB.l1, if_pos (by omega), hw, if_pos (by omega), if_pos hle, hr, if_pos h, if_pos (Int.le_of_lt hle)]
      congr 1
      rw [Int.toNat_natCast, List.take_left]
    · refine Ev.step (f := fun _ => some (a ++ [y])) (fun k => ?_) (by rw [rU a h]; exact Ev.now _)
      rw [bB.l1, if_pos (by omega), hw, if_pos (by omega), if_pos hle, hr, if_neg h]
theorem yM (l : List Int) (hl : ∀ x ∈ l, 0 ≤ x ∧ x < 18446744073709551616) (d : Nat) : ∀ (acc : List Int) (i : Nat), OKL acc → acc.length = i → i + d = 20 →
    ∃ r : List Int, OKL r ∧ r.length ≤ 20 ∧ Ev (fun k => bB.l0 k l 20 acc (i : Int)) (pY r) := by
  induction d with
  | zero =>
    intro acc i hacc hai hi
    refine ⟨acc, hacc, by omega, ?_⟩
    refine Ev.step (f := fun k => bB.j1 k acc) (fun k => ?_) (Ev.step (f := fun k => bB.l1 k acc) (fun k => ?_) (uW acc.length acc rfl (by omega)))
    · rw [bB.l0]
      by_cases h : (i : Int) < (l.length : Int)
      · rw [if_pos h, if_neg (by omega)]
      · rw [if_neg h]
    · rw [bB.j1]
  | succ d ih =>
    intro acc i hacc hai hi
    by_cases h : (i : Int) < (l.length : Int)
    · have hx := hl (rd l i) (by rw [gZ, List.getD_eq_getElem?_getD, List.getElem?_eq_getElem (by omega : i < l.length)]; exact List.getElem_mem _)
      have hm : Int.tmod (rd l i) 4294967296 = rd l i % 4294967296 := Int.tmod_eq_emod_of_nonneg hx.1
      obtain ⟨r, h1, h2, h3⟩ := ih (acc ++ [Int.tmod (rd l i) 4294967296]) (i + 1) (qy.2 ⟨hacc, p8.2 ⟨by rw [hm]; omega, wG⟩⟩) (by simp [hai]) (by omega)
      refine ⟨r, h1, h2, Ev.step (fun k => ?_) h3⟩
      rw [bB.l0, if_pos h, if_pos (by omega), if_pos (by omega), if_pos (by omega)]
      rw [show wrap64 ((i : Int) + 1) = ((i + 1 : Nat) : Int) from by unfold wrap64; omega]
    · refine ⟨acc, hacc, by omega, ?_⟩
      refine Ev.step (f := fun k => bB.j1 k acc) (fun k => ?_) (Ev.step (f := fun k => bB.l1 k acc) (fun k => ?_) (uW acc.length acc rfl (by omega)))
      · rw [bB.l0, if_neg h]
      · rw [bB.j1]
theorem CV (l : List Int) (hl : ∀ x ∈ l, 0 ≤ x ∧ x < 18446744073709551616) : ∃ n : Nat, (dg n).length ≤ 20 ∧ Ev (fun k => bB.f k l 20) (dg n) := by
  obtain ⟨r, h1, h2, h3⟩ := yM l hl 20 [] 0 wG rfl rfl
  refine ⟨vl r, ?_, by rw [← nS h1]; exact h3⟩
  rw [← nS h1]; exact Nat.le_trans (zL r) h2
theorem wR (s : Bool) (l : List Int) (hl : ∀ x ∈ l, 0 ≤ x ∧ x < 18446744073709551616) : ∃ z : Int, (zl z).length ≤ 20 ∧ Ev (fun k => dN.f k s l 20) (zb z, zl z) := by
  obtain ⟨n, h1, h2⟩ := CV l hl
  refine ⟨sg s n, by rw [EP]; exact h1, Ev.bind h2 (Ev.now' fun k => ?_)⟩
  rw [Gq, EP]
  cases s
  · rfl
  · have : decide (0 < (dg n).length) = (true && decide (n ≠ 0)) := by
      rw [Bool.true_and]
      refine decide_eq_decide.2 ⟨fun h h0 => ?_, fun h => Nat.pos_of_ne_zero fun h1 => h (pO.1 (List.eq_nil_of_length_eq_zero h1))⟩
      rw [h0, iL] at h; exact absurd h (by decide)
    rw [if_pos rfl, this]
theorem Ab (a b : List Int) (h : a.length = b.length) (hl : a.length ≤ 1000000) (d : Nat) : ∀ i : Nat, i + d = a.length → Ev (fun k => dW.l0 k a b (i : Int)) (decide (a.drop i = b.drop i)) := by
  induction d with
  | zero =>
    intro i hi
    rw [List.drop_eq_nil_of_le (by omega), List.drop_eq_nil_of_le (by omega)]
    refine Ev.step (f := fun _ => some true) (fun k => ?_) (Ev.now _)
    rw [dW.l0, if_neg (by omega)]
  | succ d ih =>
    intro i hi
    have ha : i < a.length := by omega
    have hb : i < b.length := by omega
    have e1 : rd a (i : Int) = a[i] := by rw [gZ, List.getD_eq_getElem?_getD, List.getElem?_eq_getElem ha]; rfl
    have e2 : rd b (i : Int) = b[i] := by rw [gZ, List.getD_eq_getElem?_getD, List.getElem?_eq_getElem hb]; rfl
    have hcons : (a.drop i = b.drop i) ↔ (a[i] = b[i] ∧ a.drop (i + 1) = b.drop (i + 1)) := by rw [List.drop_eq_getElem_cons ha, List.drop_eq_getElem_cons hb, List.cons.injEq]
    by_cases he : a[i] = b[i]
    · rw [decide_eq_decide.2 (hcons.trans (and_iff_right he))]
      refine Ev.step (fun k => ?_) (ih (i + 1) (by omega))
      rw [dW.l0, if_pos (by omega), if_pos (by omega), if_pos (by omega), e1, e2, if_pos he]
      rw [show wrap64 ((i : Int) + 1) = ((i + 1 : Nat) : Int) from by unfold wrap64; omega]
    · rw [decide_eq_false (fun h => he (hcons.1 h).1)]
      refine Ev.step (f := fun _ => some false) (fun k => ?_) (Ev.now false)
      rw [dW.l0, if_pos (by omega), if_pos (by omega), if_pos (by omega), e1, e2, if_neg he]
theorem Fb (a b : List Int) (hl : a.length ≤ 1000000) : Ev (fun k => dW.f k a b) (decide (a = b)) := by
  by_cases h : a.length = b.length
  · refine Ev.congr (fun k => ?_) (Ab a b h hl a.length 0 (by omega))
    rw [dW.f, if_pos (by omega)]; rfl
  · refine Ev.now' fun k => ?_
    rw [dW.f, if_neg (by omega), decide_eq_false (fun e => h (by rw [e]))]
theorem Fe (x y : Int) (hx : (zl x).length ≤ 1000000) : Ev (fun k => aR.f k (zb x) (zl x) (zb y) (zl y)) (decide (x = y)) := by
  by_cases h : zb x = zb y
  · have e : decide (x = y) = decide (zl x = zl y) := by
      refine decide_eq_decide.2 ⟨fun e => by rw [e], fun e => ?_⟩
      have := Ej e
      rcases nA x with ⟨h1, h2⟩ | ⟨h1, h2⟩ <;> rcases nA y with ⟨h3, h4⟩ | ⟨h3, h4⟩ <;> simp [h1, h3] at h <;> omega
    rw [e]
    refine Ev.congr (f := fun k => (dW.f k (zl x) (zl y)).bind fun t => some t) (fun k => ?_) (Ev.bind (f := fun _ t => some t) (Fb _ _ hx) (Ev.now _))
    rw [aR.f, if_pos (beq_iff_eq.2 h)]
  · refine Ev.now' fun k => ?_
    rw [aR.f, if_neg (fun e => h (beq_iff_eq.1 e)), decide_eq_false (fun e => h (by rw [e]))]
theorem uX {x y : Int} (h : x = y) (hx : (zl x).length ≤ 1000000) : Ev (fun k => aR.f k (zb x) (zl x) (zb y) (zl y)) true := by
  have := Fe x y hx
  rwa [decide_eq_true h] at this
end Go.Proofs.YthfphdbebnkdpaaDoor.Pn
end
section
namespace Go.Proofs.YthfphdbebnkdpaaDoor.P
open Go.RowKit Go.Proofs.YthfphdbebnkdpaaDoorW.aZ Go.Proofs.YthfphdbebnkdpaaDoorW.bL Go.Proofs.YthfphdbebnkdpaaDoorW.dC
attribute [local go_sem] dZ d9 fA fB dH dI ed ek
set_option linter.unusedVariables false
set_option linter.unusedSimpArgs false
def mP.f (a0 : Int) : Option (Int) := if a0 < 2 then (some 2) else (if a0 > 36 then (some 2) else (some 0))
set_option maxHeartbeats 8000000 in
set_option maxRecDepth 100000 in
theorem mP.calls (a0 : Int) (r : Int) (w : World) (h : mP.f a0 = some r) :
  Calls Tryd.prog 114 #[.int .i64 a0] w fun e w' => e = .returned (.int .i64 r) ∧ bZ w w' := by
 have H : (if a0 < 2 then (some 2) else (if a0 > 36 then (some 2) else (some 0))) = some r := h
 clear h
 by_cases c2 : a0 < 2
 ·rw [if_pos c2] at H
  have qM : decide (a0 < 2) = true := decide_eq_true c2
  clear c2
  obtain rfl := Option.some.inj H
  go_enter Tryd.func114, Tryd.ntmps114
  go_wp2
  go_ret
  exact ⟨by first | rfl | (simp; done) | (simp [*]; done), by repeat (first | exact bZ.refl _ | apply bZ.step)⟩
 ·rw [if_neg c2] at H
  have qM : decide (a0 < 2) = false := decide_eq_false c2
  clear c2
  by_cases c3 : a0 > 36
  ·rw [if_pos c3] at H
   have nE : decide (36 < a0) = true := decide_eq_true c3
   clear c3
   obtain rfl := Option.some.inj H
   go_enter Tryd.func114, Tryd.ntmps114
   go_wp2
   go_ret
   exact ⟨by first | rfl | (simp; done) | (simp [*]; done), by repeat (first | exact bZ.refl _ | apply bZ.step)⟩
  ·rw [if_neg c3] at H
   have nE : decide (36 < a0) = false := decide_eq_false c3
   clear c3
   obtain rfl := Option.some.inj H
   go_enter Tryd.func114, Tryd.ntmps114
   go_wp2
   go_ret
   exact ⟨by first | rfl | (simp; done) | (simp [*]; done), by repeat (first | exact bZ.refl _ | apply bZ.step)⟩
end Go.Proofs.YthfphdbebnkdpaaDoor.P
end
section
namespace Go.Proofs.YthfphdbebnkdpaaDoor.P
open Go.RowKit Go.Proofs.YthfphdbebnkdpaaDoorW.aZ Go.Proofs.YthfphdbebnkdpaaDoorW.bL Go.Proofs.YthfphdbebnkdpaaDoorW.dC
attribute [local go_sem] dZ d9 fA fB dH dI ed ek
set_option linter.unusedVariables false
set_option linter.unusedSimpArgs false
def eQ.l0 : Nat → Int → Int → Int → Option (Int × Int)
 | 0, _, _, _ => none
 | k + 1, x0, x4, x5 => if (IntKind.u64.wrap (x4 * (IntKind.u64.wrap (x0)))) < 4294967296 then (eQ.l0 k x0 (IntKind.u64.wrap (x4 * (IntKind.u64.wrap (x0)))) (wrap64 (x5 + 1))) else (some (x4, x5))
def eQ.f (k : Nat) (a0 : Int) : Option (Int × Int) := eQ.l0 k a0 (IntKind.u64.wrap (a0)) 1
theorem eQ.mr : ∀ k, (∀ y0 y1 y2, LeO (eQ.l0 k y0 y1 y2) (eQ.l0 (k + 1) y0 y1 y2))
 | 0 => fun _ _ _ r h => by simp [eQ.l0] at h
 | k + 1 => by
  have ih0 := eQ.mr k
  ·intro y0 y1 y2
   unfold eQ.l0
   repeat' first
   | (with_reducible exact ih0 _ _ _)
   | (with_reducible exact LeO.refl _)
   | (with_reducible exact LeO.none _)
   | (with_reducible refine LeO.ite ?_ ?_)
   | (with_reducible refine LeO.bind ?_ (fun _ => ?_))
   | exact ih0 _ _ _
   | exact LeO.none _
   | refine LeO.ite ?_ ?_
   | refine LeO.bind ?_ (fun _ => ?_)
theorem eQ.mono : ∀ a0 k, LeO (eQ.f k a0) (eQ.f (k + 1) a0) := by
 intro a0 k
 have ih0 := eQ.mr k
 unfold eQ.f
 repeat' first
   | (with_reducible exact ih0 _ _ _)
   | (with_reducible exact LeO.refl _)
   | (with_reducible exact LeO.none _)
   | (with_reducible refine LeO.ite ?_ ?_)
   | (with_reducible refine LeO.bind ?_ (fun _ => ?_))
   | exact ih0 _ _ _
   | exact LeO.none _
   | refine LeO.ite ?_ ?_
   | refine LeO.bind ?_ (fun _ => ?_)
set_option maxHeartbeats 8000000 in
set_option maxRecDepth 100000 in
theorem eQ.calls (k : Nat) (a0 : Int) (r1 : Int) (r2 : Int) (w : World) (h : eQ.f k a0 = some (r1, r2)) :
  Calls Tryd.prog 115 #[.int .i64 a0] w fun e w' => e = .returned (.tuple #[.int .u64 r1, .int .i64 r2]) ∧ bZ w w' := by
 have H : (eQ.l0 k a0 (IntKind.u64.wrap (a0)) 1) = some (r1, r2) := h
 clear h
 have H' := ae.mk H
 clear H
 go_enter Tryd.func115, Tryd.ntmps115
 go_wp2
 go_loopg [4, 5] k (fun kq v4 v5 w' => ∃ (qE : Int) (fC : Int), v4 = .int .u64 qE ∧ v5 = .int .i64 fC ∧ ae (eQ.l0 kq a0 qE fC = some (r1, r2)) ∧ ae (kq ≤ k) ∧ bZ w w')
 case atStart => exact ⟨(IntKind.u64.wrap (a0)), (1), (by first | rfl | (simp; done) | (simp [*]; done)), (by first | rfl | (simp; done) | (simp [*]; done)), H', ⟨Nat.le_refl _⟩, by repeat (first | exact bZ.refl _ | apply bZ.step)⟩
 case round =>
  clear H'
  try clear c1
  obtain ⟨qE, fC, rfl, rfl, HA, HK1, ⟨m1, rfl⟩⟩ := hrel
  cases gk with
  | zero => exact absurd HA.out (by simp [eQ.l0])
  | succ k1 =>
   have H := HA.out
   clear HA
   simp only [eQ.l0] at H
   by_cases c2 : (IntKind.u64.wrap (qE * (IntKind.u64.wrap (a0)))) < 4294967296
   ·rw [if_pos c2] at H
    have qM : decide ((IntKind.u64.wrap (qE * (IntKind.u64.wrap (a0)))) < 4294967296) = true := decide_eq_true c2
    clear c2
    have H' := ae.mk H
    clear H
    go_wp2
    go_roundg k1
    case measure => have := HK1.out; omega
    case rel => exact ⟨(IntKind.u64.wrap (qE * (IntKind.u64.wrap (a0)))), (wrap64 (fC + 1)), (by first | rfl | (simp; done) | (simp [*]; done)), (by first | rfl | (simp; done) | (simp [*]; done)), H', ⟨by have := HK1.out; omega⟩, by repeat (first | exact bZ.refl _ | apply bZ.step)⟩
   ·rw [if_neg c2] at H
    have qM : decide ((IntKind.u64.wrap (qE * (IntKind.u64.wrap (a0)))) < 4294967296) = false := decide_eq_false c2
    clear c2
    simp only [Option.some.injEq, Prod.mk.injEq] at H
    obtain ⟨rfl, rfl⟩ := H
    go_wp2
    go_ret2
    exact ⟨by first | rfl | (simp; done) | (simp [*]; done), by repeat (first | exact bZ.refl _ | apply bZ.step)⟩
end Go.Proofs.YthfphdbebnkdpaaDoor.P
end
section
namespace Go.Proofs.YthfphdbebnkdpaaDoor.P
open Go.RowKit Go.Proofs.YthfphdbebnkdpaaDoorW.aZ Go.Proofs.YthfphdbebnkdpaaDoorW.bL Go.Proofs.YthfphdbebnkdpaaDoorW.dC
attribute [local go_sem] dZ d9 fA fB dH dI ed ek
set_option linter.unusedVariables false
set_option linter.unusedSimpArgs false
def dV.l0 : Nat → Int → Int → Int → List Int → Int → Int → Option (ByteArray)
 | 0, _, _, _, _, _, _ => none
 | k + 1, x0, x1, x2, x7, x11, x12 => if x12 < x11 then (if (IntKind.u64.wrap (x1)) = 0 then (none) else (if 0 ≤ (Int.tmod x0 (IntKind.u64.wrap (x1))) then (if (Int.tmod x0 (IntKind.u64.wrap (x1))) < 36 then (if 0 ≤ (wrap64 ((wrap64 (x2 - 1)) - x12)) then (if (wrap64 ((wrap64 (x2 - 1)) - x12)) < (x7.length : Int) then (dV.l0 k (IntKind.u64.wrap (Int.tdiv x0 (IntKind.u64.wrap (x1)))) x1 x2 (x7.set ((wrap64 ((wrap64 (x2 - 1)) - x12)) : Int).toNat (bt (⟨#[48, 49, 50, 51, 52, 53, 54, 55, 56, 57, 97, 98, 99, 100, 101, 102, 103, 104, 105, 106, 107, 108, 109, 110, 111, 112, 113, 114, 115, 116, 117, 118, 119, 120, 121, 122]⟩ : ByteArray) (Int.tmod x0 (IntKind.u64.wrap (x1))))) x11 (wrap64 (x12 + 1))) else (none)) else (none)) else (none)) else (none))) else (some (strOfNums x7))
def dV.f (k : Nat) (a0 : Int) (a1 : Int) (a2 : Int) : Option (ByteArray) := if 0 ≤ a2 then (if (a2 : Int).toNat ≤ 281474976710656 then (dV.l0 k a0 a1 a2 (List.replicate (a2 : Int).toNat 0) a2 0) else (none)) else (none)
theorem dV.mr : ∀ k, (∀ y0 y1 y2 y3 y4 y5, LeO (dV.l0 k y0 y1 y2 y3 y4 y5) (dV.l0 (k + 1) y0 y1 y2 y3 y4 y5))
 | 0 => fun _ _ _ _ _ _ r h => by simp [dV.l0] at h
 | k + 1 => by
  have ih0 := dV.mr k
  ·intro y0 y1 y2 y3 y4 y5
   unfold dV.l0
   repeat' first
   | (with_reducible exact ih0 _ _ _ _ _ _)
   | (with_reducible exact LeO.refl _)
   | (with_reducible exact LeO.none _)
   | (with_reducible refine LeO.ite ?_ ?_)
   | (with_reducible refine LeO.bind ?_ (fun _ => ?_))
   | exact ih0 _ _ _ _ _ _
   | exact LeO.none _
   | refine LeO.ite ?_ ?_
   | refine LeO.bind ?_ (fun _ => ?_)
theorem dV.mono : ∀ a0 a1 a2 k, LeO (dV.f k a0 a1 a2) (dV.f (k + 1) a0 a1 a2) := by
 intro a0 a1 a2 k
 have ih0 := dV.mr k
 unfold dV.f
 repeat' first
   | (with_reducible exact ih0 _ _ _ _ _ _)
   | (with_reducible exact LeO.refl _)
   | (with_reducible exact LeO.none _)
   | (with_reducible refine LeO.ite ?_ ?_)
   | (with_reducible refine LeO.bind ?_ (fun _ => ?_))
   | exact ih0 _ _ _ _ _ _
   | exact LeO.none _
   | refine LeO.ite ?_ ?_
   | refine LeO.bind ?_ (fun _ => ?_)
set_option maxHeartbeats 8000000 in
set_option maxRecDepth 100000 in
theorem dV.calls (k : Nat) (a0 : Int) (a1 : Int) (a2 : Int) (r : ByteArray) (w : World) (h : dV.f k a0 a1 a2 = some r) :
  Calls Tryd.prog 116 #[.int .u64 a0, .int .i64 a1, .int .i64 a2] w fun e w' => e = .returned (.string r) ∧ Below w.heap.size w w' := by
 have HB := ae.mk (Below.refl w.heap.size w)
 have H : (if 0 ≤ a2 then (if (a2 : Int).toNat ≤ 281474976710656 then (dV.l0 k a0 a1 a2 (List.replicate (a2 : Int).toNat 0) a2 0) else (none)) else (none)) = some r := h
 clear h
 by_cases c4 : 0 ≤ a2
 ·rw [if_pos c4] at H
  have ll := eq_true c4
  have pQ : decide (0 ≤ a2) = true := decide_eq_true c4
  clear c4
  by_cases c5 : (a2 : Int).toNat ≤ 281474976710656
  ·rw [if_pos c5] at H
   have jW := eq_true c5
   have pR : decide ((a2 : Int).toNat ≤ 281474976710656) = true := decide_eq_true c5
   clear c5
   obtain ⟨y101, hy101⟩ : ∃ y_ : List Int, y_ = (List.replicate (a2 : Int).toNat 0) := ⟨_, rfl⟩
   replace H : (dV.l0 k a0 a1 a2 y101 a2 0) = some r := by first | (rw [hy101]; with_reducible exact H) | (have H2_ := (Option.bind_some _ _).symm.trans H; rw [hy101]; with_reducible exact H2_) | (have H2_ := (Option.bind_some _ _).symm.trans H; with_reducible exact H2_) | with_reducible exact H | (rw [hy101]; exact H) | exact H
   have Ny101 := ae.mk hy101
   clear hy101
   have H' := ae.mk H
   clear H
   go_enter Tryd.func116, Tryd.ntmps116
   go_wp2_with (first | ((with_reducible refine bR (N := 10) rfl ?_); refine Kd.pM (Kd.int .u8) _ 5 rfl (N := 10) rfl 102 _ _ rfl a2 rfl rfl Tryd.underlying102 (.int .u8 0) 1 info5 rfl (by decide) (by omega) 0 (ok := fun _ => True) (okp := fun _ => True) rfl (fun _ hk => hk) trivial (of_decide_eq_true qa) (Nat.le_trans (Nat.mul_le_mul_right _ (of_decide_eq_true qa : a2.toNat ≤ 281474976710656)) (by omega)) (Below.refl _ _) (Nat.le_refl _) ?_; intro v102 w6 ho7 hb hg_ hnew_; clear hg_ hnew_; (first | rw [← Ny101.out] at ho7 | (simp only [Int.reduceToNat] at ho7; rw [← Ny101.out] at ho7)); have nI := ae.mk (Kd.bz ho7 (aN (qw HB))); replace HB := ae.mk (av (qw HB) hb); clear hb ho7))
   go_loopg [0, 12] k (fun kq v0 v12 w' => ∃ (jJ : Int) (iK : List Int) (fK : Int), v0 = .int .u64 jJ ∧ v12 = .int .i64 fK ∧ ae (dV.l0 kq jJ a1 a2 iK a2 fK = some r) ∧ ae (kq ≤ k) ∧ ae (Kd.R (Kd.int .u8) 5 w' w.heap.size (fun _ => True) v102 iK) ∧ ae (Below w.heap.size w w'))
   case atStart => exact ⟨(a0), (y101), (0), (by first | rfl | (simp; done) | (simp [*]; done)), (by first | rfl | (simp; done) | (simp [*]; done)), H', ⟨Nat.le_refl _⟩, ⟨by (with_reducible repeat (first | apply Kd.bu | apply Kd.bv | apply Kd.bg)); exact nI.out⟩, ⟨by repeat (first | (with_reducible first | exact HB.out | apply aM | apply aD | apply aH) | exact HB.out)⟩⟩
   case round =>
    clear H'
    try clear c1
    try clear p2
    try clear c4
    try clear ll
    try clear pQ
    try clear c5
    try clear jW
    try clear pR
    obtain ⟨jJ, iK, fK, rfl, rfl, HA, HK1, fJ, HB⟩ := hrel
    cases gk with
    | zero => exact absurd HA.out (by simp [dV.l0])
    | succ k1 =>
     have H := HA.out
     clear HA
     simp only [dV.l0] at H
     by_cases c8 : fK < a2
     ·rw [if_pos c8] at H
      have oZ : decide (fK < a2) = true := decide_eq_true c8
      clear c8
      by_cases c9 : (IntKind.u64.wrap (a1)) = 0
      ·rw [if_pos c9] at H
       exact absurd H (by simp)
      ·rw [if_neg c9] at H
       have qc : ((IntKind.u64.wrap (a1)) == 0) = false := beq_eq_false_iff_ne.mpr c9
       have yh : ((IntKind.u64.wrap (a1)) != 0) = true := bne_iff_ne.mpr c9
       obtain ⟨ji10, hji10⟩ : ∃ j_ : Int, (Int.tmod jJ (IntKind.u64.wrap (a1))) = j_ := ⟨_, rfl⟩
       replace H : (if 0 ≤ (ji10) then (if (ji10) < 36 then (if 0 ≤ (wrap64 ((wrap64 (a2 - 1)) - fK)) then (if (wrap64 ((wrap64 (a2 - 1)) - fK)) < (iK.length : Int) then (dV.l0 k1 (IntKind.u64.wrap (Int.tdiv jJ (IntKind.u64.wrap (a1)))) a1 a2 (iK.set ((wrap64 ((wrap64 (a2 - 1)) - fK)) : Int).toNat (bt (⟨#[48, 49, 50, 51, 52, 53, 54, 55, 56, 57, 97, 98, 99, 100, 101, 102, 103, 104, 105, 106, 107, 108, 109, 110, 111, 112, 113, 114, 115, 116, 117, 118, 119, 120, 121, 122]⟩ : ByteArray) (ji10))) a2 (wrap64 (fK + 1))) else (none)) else (none)) else (none)) else (none)) = some r := by first | (rw [hji10] at H; exact H) | (simp only [hji10] at H ⊢; exact H)
       by_cases c11 : 0 ≤ (ji10)
       ·rw [if_pos c11] at H
        have qB : decide (0 ≤ (ji10)) = true := decide_eq_true c11
        clear c11
        by_cases c12 : (ji10) < 36
        ·rw [if_pos c12] at H
         have su : decide ((ji10) < 36) = true := decide_eq_true c12
         clear c12
         obtain ⟨ji14, hji14⟩ : ∃ j_ : Int, (wrap64 ((wrap64 (a2 - 1)) - fK)) = j_ := ⟨_, rfl⟩
         (try (have hji14r := hji14; simp only [hji10] at hji14r))
         (try (have hji14wr := (gT _).trans hji14r))
         replace H : (if 0 ≤ (ji14) then (if (ji14) < (iK.length : Int) then (dV.l0 k1 (IntKind.u64.wrap (Int.tdiv jJ (IntKind.u64.wrap (a1)))) a1 a2 (iK.set ((ji14) : Int).toNat (bt (⟨#[48, 49, 50, 51, 52, 53, 54, 55, 56, 57, 97, 98, 99, 100, 101, 102, 103, 104, 105, 106, 107, 108, 109, 110, 111, 112, 113, 114, 115, 116, 117, 118, 119, 120, 121, 122]⟩ : ByteArray) (ji10))) a2 (wrap64 (fK + 1))) else (none)) else (none)) = some r := by first | (rw [hji14] at H; exact H) | (simp only [hji14] at H ⊢; exact H)
         have hji14w : (IntKind.i64.wrap ((wrap64 (a2 - 1)) - fK)) = ji14 := (gT _).trans hji14
         by_cases c15 : 0 ≤ (ji14)
         ·rw [if_pos c15] at H
          have o5 : decide (0 ≤ (ji14)) = true := decide_eq_true c15
          clear c15
          by_cases c16 : (ji14) < (iK.length : Int)
          ·rw [if_pos c16] at H
           have xn : decide ((ji14) < (iK.length : Int)) = true := decide_eq_true c16
           clear c16
           obtain ⟨y104, hy104⟩ : ∃ y_ : List Int, y_ = (iK.set ((ji14) : Int).toNat (bt (⟨#[48, 49, 50, 51, 52, 53, 54, 55, 56, 57, 97, 98, 99, 100, 101, 102, 103, 104, 105, 106, 107, 108, 109, 110, 111, 112, 113, 114, 115, 116, 117, 118, 119, 120, 121, 122]⟩ : ByteArray) (ji10))) := ⟨_, rfl⟩
           replace H : (dV.l0 k1 (IntKind.u64.wrap (Int.tdiv jJ (IntKind.u64.wrap (a1)))) a1 a2 y104 a2 (wrap64 (fK + 1))) = some r := by first | (rw [hy104]; with_reducible exact H) | (have H2_ := (Option.bind_some _ _).symm.trans H; rw [hy104]; with_reducible exact H2_) | (have H2_ := (Option.bind_some _ _).symm.trans H; with_reducible exact H2_) | with_reducible exact H | (rw [hy104]; exact H) | exact H
           have Ny104 := ae.mk hy104
           clear hy104
           have H' := ae.mk H
           clear H
           have p13 : 0 ≤ ((ji10) : Int) := of_decide_eq_true qa
           have q13 : (ji10) < (36 : Int) := of_decide_eq_true qa
           have hx13 := Fy (⟨#[48, 49, 50, 51, 52, 53, 54, 55, 56, 57, 97, 98, 99, 100, 101, 102, 103, 104, 105, 106, 107, 108, 109, 110, 111, 112, 113, 114, 115, 116, 117, 118, 119, 120, 121, 122]⟩ : ByteArray) (ji10)
           replace p13 := eq_true p13
           replace q13 := eq_true q13
           have p17 : 0 ≤ ((ji14) : Int) := of_decide_eq_true qa
           have q17 : ((ji14) : Int) < ((iK.length : Int) : Int) := of_decide_eq_true qa
           obtain ⟨go17, uV, Aa, GA, gl17, cl17, HG17⟩ := Kd.nP fJ.out (by omega)
           (first | cases Aa | (injection Aa with ea_ en_ ec_; (first | subst ea_ | (injection ea_ with ea_; subst ea_)); subst ec_; clear en_))
           have JH := ae.mk GA
           have GG17 := ae.mk HG17
           clear GA gl17 HG17
           obtain ⟨hx17_0, hf17_0⟩ := Kd.jk 0 fJ.out ((ji14) : Int) p17 q17
           replace p17 := eq_true p17
           replace q17 := eq_true q17
           have HP18 := Kd.oq fJ.out ((ji14) : Int) (bt (⟨#[48, 49, 50, 51, 52, 53, 54, 55, 56, 57, 97, 98, 99, 100, 101, 102, 103, 104, 105, 106, 107, 108, 109, 110, 111, 112, 113, 114, 115, 116, 117, 118, 119, 120, 121, 122]⟩ : ByteArray) (ji10))
           go_wp2_with (first | ((with_reducible refine jL (t := 5) (p := 25) rfl ?_); refine jq (t := 5) (p := 25) (v := ?vo_w19) (w1 := (wr.setCell ⟨go17, ((ji14) : Int).toNat, none⟩ (.int .u8 (bt (⟨#[48, 49, 50, 51, 52, 53, 54, 55, 56, 57, 97, 98, 99, 100, 101, 102, 103, 104, 105, 106, 107, 108, 109, 110, 111, 112, 113, 114, 115, 116, 117, 118, 119, 120, 121, 122]⟩ : ByteArray) (ji10))))) ?hg ?ho ?hn ?hr ?_; (case ho => rfl); (case hg => rfl); (case hn => rfl); (case hr => first | (go_simp; done) | (go_simp; rfl)); intro w19 hw; have hg : wr.grownBy w19 (some go17) := (by rw [hw]; exact HP18.2); have hp_ : Kd.R (Kd.int .u8) 5 w19 w.heap.size (fun _ => True) (.slice (some ⟨go17, 0, none⟩) iK.length uV) y104 := (by rw [hw, Ny104.out]; exact HP18.1); clear HP18; replace fJ := ae.mk (hp_); replace HB := ae.mk ((by rw [hw]; exact aQ (HB.out) JH.out : Below w.heap.size w w19)); clear hg hw hp_))
           go_roundg k1
           case measure => have := HK1.out; omega
           case rel => exact ⟨(IntKind.u64.wrap (Int.tdiv jJ (IntKind.u64.wrap (a1)))), (y104), (wrap64 (fK + 1)), (by first | rfl | (simp; done) | (simp [*]; done)), (by first | rfl | (simp; done) | (simp [*]; done)), H', ⟨by have := HK1.out; omega⟩, ⟨by (with_reducible repeat (first | apply Kd.bu | apply Kd.bv | apply Kd.bg)); exact fJ.out⟩, ⟨by repeat (first | (with_reducible first | exact HB.out | apply aM | apply aD | apply aH) | exact HB.out)⟩⟩
          ·rw [if_neg c16] at H
           exact absurd H (by simp)
         ·rw [if_neg c15] at H
          exact absurd H (by simp)
        ·rw [if_neg c12] at H
         exact absurd H (by simp)
       ·rw [if_neg c11] at H
        exact absurd H (by simp)
     ·rw [if_neg c8] at H
      have oZ : decide (fK < a2) = false := decide_eq_false c8
      clear c8
      obtain rfl := Option.some.inj H
      have hcv20 := xR (P := Tryd.prog) Tryd.underlying102 Tryd.underlying5 Tryd.underlying9 (Kd.qH fJ.out)
      go_wp2
      go_ret
      exact ⟨by first | rfl | (simp [errW_none, errW_some] <;> rfl) | (simp [*, errW_none, errW_some] <;> rfl), by repeat (first | (with_reducible first | exact HB.out | apply aM | apply aD | apply aH) | exact HB.out)⟩
  ·rw [if_neg c5] at H
   exact absurd H (by simp)
 ·rw [if_neg c4] at H
  exact absurd H (by simp)
end Go.Proofs.YthfphdbebnkdpaaDoor.P
end
