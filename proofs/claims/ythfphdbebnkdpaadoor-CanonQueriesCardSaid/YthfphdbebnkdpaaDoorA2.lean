/- CanonQueries' tied card: for every queries the law answers true, and they read as before; the listed tables of Go's library are tied to the program's text (their look is the given tie's). -/
import Derived.Below
import Derived.Deep.Draws
import Derived.Deep.AppendLies
import Derived.Maps.AppendAt
import Derived.OwnWalk
import Derived.Laws.BytesArg
import Derived.Laws.MakeOwn
import Derived.Laws.OwnMore
import Derived.Deep.OwnRows
import Derived.Tactics
import Derived.Lib.ConvBytes
import Derived.Laws.Slices
import Derived.WalkKit
import Derived.KernelRfl
import Derived.RowKit3
import Derived.Deep.LoopGhost
import Derived.Deep.QuietTactic
import Derived.BigQuiet
import Derived.WideLaws
import Derived.Deep.DeepCutAuto
import Derived.Deep.CutBlock
import Derived.Deep.RegionHeld3
import Derived.Laws.Rows
import Derived.Lib.AppendStr
import Derived.ArgAppend
import Derived.Laws.IdiomCopy
import Derived.RowKit
import Derived.OrdersHeld
import Derived.Laws.BitsLemmas
import Derived.Laws.CopyOwn
import Derived.Lib.Builder
import Derived.Lib.LaidTab
import Derived.Lib.OthersKept
import Derived.Lib.FrozenHead
import Derived.Lib.ItoaNum
import Derived.Test.YthfphdbebnkdpaaDoorProg
import Derived.Test.YthfphdbebnkdpaaDoorRows
import Derived.PinnedBridge
import Derived.LaidHandle
import Derived.LaidLaws
import Derived.MakeChecks
import Derived.Stop.LaidErr
import Derived.ProofKit
import Derived.Laws.StructEq
import Derived.OpenShut
import Derived.ChangeArms
import Derived.DataReads
import Derived.DataElems
import Derived.Shelf.Strings.Builder1
import Derived.Shelf.Strings.Builder2
import Derived.Shelf.Strings.OnBuilder
import Derived.Shelf.Strings.Trim
import Derived.Shelf.Small.Utf8
import Derived.Shelf.Small.Strs
import Derived.Shelf.Strings.BuilderF
import Derived.Shelf.Strings.BuilderK
import Derived.Shelf.Strings.Builder2Cap
import Derived.Shelf.Strconv.Itoa0
import Derived.Shelf.Strconv.Itoa1
import Derived.Shelf.LaysM
import Derived.Shelf.Strconv.Itoa2
import Derived.Shelf.Strconv.Itoa3
import Derived.Shelf.Strings.Search1
import Derived.Shelf.Strings.Search2
import Derived.Shelf.Strings.Cut
import Derived.Shelf.Strings.Shaped
import Derived.Shelf.Unicode.Decode
import Derived.Shelf.Strings.Runes
import Derived.Shelf.Strings.AsciiSet
import Derived.Shelf.Unicode.DecodeSlow
import Derived.Shelf.Unicode.DecodeAny
import Derived.Shelf.Strings.BuilderCap
import Derived.Lib.ItoaLen
import Derived.Lib.ItoaMem
import Derived.Laws.BitsAllLaws
import Derived.Lib.Hide
import Derived.ShutString
import Derived.ChangeOld
import Derived.Carry
import Derived.SizedLaws
import Derived.Test.YthfphdbebnkdpaaDoorCards
import Derived.Test.YthfphdbebnkdpaaDoorTie
import Derived.SevenTiedAt
import Derived.Test.YthfphdbebnkdpaaDoorA0
import Derived.Test.YthfphdbebnkdpaaDoorA1
section
namespace Go.Proofs.YthfphdbebnkdpaaDoor.P
open Go.RowKit Go.Proofs.YthfphdbebnkdpaaDoorW.aH Go.Proofs.YthfphdbebnkdpaaDoorW.aV Go.Proofs.YthfphdbebnkdpaaDoorW.bn
attribute [local go_sem] bR bS dn dw bB bC bU bV
set_option linter.unusedVariables false
set_option linter.unusedSimpArgs false
def dm.l0 : Nat → List ByteArray → List (S40) → Int → Int → Option (List ByteArray)
 | 0, _, _, _, _ => none
 | k + 1, x5, x11, x12, x13 => if x13 < x12 then (if 0 ≤ x13 then (if x13 < (x11.length : Int) then ((dA.f k ((iG x11 x13).f0) ((iG x11 x13).f1)).bind fun aX => (if x13 < (x5.length : Int) then (dm.l0 k (x5.set (x13 : Int).toNat aX) x11 x12 (wrap64 (x13 + 1))) else (none))) else (none)) else (none)) else (some x5)
def dm.f (k : Nat) (l0 : List (S40)) (a1 : Bool) : Option (List ByteArray) := if 0 ≤ (l0.length : Int) then (if ((l0.length : Int) : Int).toNat ≤ 17592186044416 then (dm.l0 k (List.replicate ((l0.length : Int) : Int).toNat (⟨#[]⟩ : ByteArray)) l0 (l0.length : Int) 0) else (none)) else (none)
theorem dm.dZ : ∀ k, (∀ y0 y1 y2 y3, LeO (dm.l0 k y0 y1 y2 y3) (dm.l0 (k + 1) y0 y1 y2 y3))
 | 0 => fun _ _ _ _ r h => by simp [dm.l0] at h
 | k + 1 => by
  have ih0 := dm.dZ k
  ·intro y0 y1 y2 y3
   unfold dm.l0
   repeat' first
   | (with_reducible exact ih0 _ _ _ _)
   | (with_reducible exact dA.mono _ _ _)
   | (with_reducible exact LeO.refl _)
   | (with_reducible exact LeO.none _)
   | (with_reducible refine LeO.ite ?_ ?_)
   | (with_reducible refine LeO.bind ?_ (fun _ => ?_))
   | exact ih0 _ _ _ _
   | exact dA.mono _ _ _
   | exact LeO.none _
   | refine LeO.ite ?_ ?_
   | refine LeO.bind ?_ (fun _ => ?_)
theorem dm.mono : ∀ a0 a1 k, LeO (dm.f k a0 a1) (dm.f (k + 1) a0 a1) := by
 intro a0 a1 k
 have ih0 := dm.dZ k
 unfold dm.f
 repeat' first
   | (with_reducible exact ih0 _ _ _ _)
   | (with_reducible exact dA.mono _ _ _)
   | (with_reducible exact LeO.refl _)
   | (with_reducible exact LeO.none _)
   | (with_reducible refine LeO.ite ?_ ?_)
   | (with_reducible refine LeO.bind ?_ (fun _ => ?_))
   | exact ih0 _ _ _ _
   | exact dA.mono _ _ _
   | exact LeO.none _
   | refine LeO.ite ?_ ?_
   | refine LeO.bind ?_ (fun _ => ?_)
set_option maxHeartbeats 8000000 in
set_option maxRecDepth 100000 in
theorem dm.calls (k : Nat) (A0 : Option Addr) (c0 : Nat) (l0 : List (S40)) (a1 : Bool) (r : List ByteArray) (w : World) (hr0 : Kd.C k40 w A0 l0.length l0) (hc0 : l0.length ≤ c0) (h : dm.f k l0 a1 = some r) (HGT : af (Go.Proofs.YthfphdbebnkdpaaDoorV.GT w)) :
  Calls Tryd.prog 128 #[.slice A0 l0.length c0, .func (.func 41) #[] #[]] w fun e w' => ∃ v0_ : Value, e = .returned (v0_) ∧ Kd.R Kd.string 9 w' w.heap.size (fun _ => True) v0_ r ∧ Below w.heap.size w w' := by
 have hu40 := Tryd.underlying40
 have HR0 := af.mk hr0
 have HC0 := af.mk hc0
 clear hr0 hc0
 have HB := af.mk (Below.refl w.heap.size w)
 have H : (if 0 ≤ (l0.length : Int) then (if ((l0.length : Int) : Int).toNat ≤ 17592186044416 then (dm.l0 k (List.replicate ((l0.length : Int) : Int).toNat (⟨#[]⟩ : ByteArray)) l0 (l0.length : Int) 0) else (none)) else (none)) = some r := h
 clear h
 by_cases c3 : 0 ≤ (l0.length : Int)
 ·rw [if_pos c3] at H
  have gG := eq_true c3
  have gY : decide (0 ≤ (l0.length : Int)) = true := decide_eq_true c3
  clear c3
  by_cases c4 : ((l0.length : Int) : Int).toNat ≤ 17592186044416
  ·rw [if_pos c4] at H
   have ic := eq_true c4
   have iA : decide (((l0.length : Int) : Int).toNat ≤ 17592186044416) = true := decide_eq_true c4
   clear c4
   obtain ⟨y101, hy101⟩ : ∃ y_ : List ByteArray, y_ = (List.replicate ((l0.length : Int) : Int).toNat (⟨#[]⟩ : ByteArray)) := ⟨_, rfl⟩
   replace H : (dm.l0 k y101 l0 (l0.length : Int) 0) = some r := by first | (rw [hy101]; with_reducible exact H) | (have H2_ := (Option.bind_some _ _).symm.trans H; rw [hy101]; with_reducible exact H2_) | (have H2_ := (Option.bind_some _ _).symm.trans H; with_reducible exact H2_) | with_reducible exact H | (rw [hy101]; exact H) | exact H
   have Ny101 := af.mk hy101
   clear hy101
   have H' := af.mk H
   clear H
   go_enter Tryd.func128, Tryd.ntmps128
   go_wp2_with (first | ((with_reducible refine aU (N := 10) rfl ?_); refine Kd.jh Kd.string _ 9 rfl (N := 10) rfl 72 _ _ rfl (l0.length : Int) rfl rfl Tryd.underlying72 (.string ⟨#[]⟩) 16 lq rfl (by decide) (by omega) (⟨#[]⟩ : ByteArray) (ok := fun _ => True) (okp := fun _ => True) rfl (fun _ hk => hk) trivial (of_decide_eq_true qa) (Nat.le_trans (Nat.mul_le_mul_right _ (of_decide_eq_true qa : (l0.length : Int).toNat ≤ 17592186044416)) (by omega)) (Below.refl _ _) (Nat.le_refl _) ?_; intro v102 w5 ho6 hb hg_ hnew_; clear hg_ hnew_; (first | rw [← Ny101.out] at ho6 | (simp only [Int.reduceToNat] at ho6; rw [← Ny101.out] at ho6)); have eD := af.mk (Kd.dI ho6 (bg (qw HB))); replace HB := af.mk (ai (qw HB) hb); clear hb ho6))
   go_loopg [13] k (fun kq v13 w' => ∃ (bO : List ByteArray) (au : Int), v13 = .int .i64 au ∧ af (dm.l0 kq bO l0 (l0.length : Int) au = some r) ∧ af (kq ≤ k) ∧ af (Kd.R Kd.string 9 w' w.heap.size (fun _ => True) v102 bO) ∧ af (Below w.heap.size w w'))
   case atStart => exact ⟨(y101), (0), (by first | rfl | (simp; done) | (simp [*]; done)), H', ⟨Nat.le_refl _⟩, ⟨by (with_reducible repeat (first | apply Kd.cB | apply Kd.cK | apply Kd.dD)); exact eD.out⟩, ⟨by repeat (first | (with_reducible first | exact HB.out | apply aA | apply aj | apply av) | exact HB.out)⟩⟩
   case round =>
    clear H'
    try clear c1
    try clear p2
    try clear c3
    try clear gG
    try clear gY
    try clear c4
    try clear ic
    try clear iA
    obtain ⟨bO, au, rfl, HA, HK1, dN, HB⟩ := hrel
    cases gk with
    | zero => exact absurd HA.out (by simp [dm.l0])
    | succ k1 =>
     have H := HA.out
     clear HA
     simp only [dm.l0] at H
     by_cases c7 : au < (l0.length : Int)
     ·rw [if_pos c7] at H
      have iZ : decide (au < (l0.length : Int)) = true := decide_eq_true c7
      clear c7
      by_cases c8 : 0 ≤ au
      ·rw [if_pos c8] at H
       have jM : decide (0 ≤ au) = true := decide_eq_true c8
       clear c8
       by_cases c9 : au < (l0.length : Int)
       ·rw [if_pos c9] at H
        have kT : decide (au < (l0.length : Int)) = true := decide_eq_true c9
        clear c9
        replace H := Option.bind_eq_some_iff.mp H
        obtain ⟨aX, A100, H⟩ := H
        replace H : (if au < (bO.length : Int) then (dm.l0 k1 (bO.set (au : Int).toNat aX) l0 (l0.length : Int) (wrap64 (au + 1))) else (none)) = some r := H
        have A10 := af.mk A100
        clear A100
        by_cases c11 : au < (bO.length : Int)
        ·rw [if_pos c11] at H
         have jC : decide (au < (bO.length : Int)) = true := decide_eq_true c11
         clear c11
         obtain ⟨y107, hy107⟩ : ∃ y_ : List ByteArray, y_ = (bO.set (au : Int).toNat aX) := ⟨_, rfl⟩
         replace H : (dm.l0 k1 y107 l0 (l0.length : Int) (wrap64 (au + 1))) = some r := by first | (rw [hy107]; with_reducible exact H) | (have H2_ := (Option.bind_some _ _).symm.trans H; rw [hy107]; with_reducible exact H2_) | (have H2_ := (Option.bind_some _ _).symm.trans H; with_reducible exact H2_) | with_reducible exact H | (rw [hy107]; exact H) | exact H
         have Ny107 := af.mk hy107
         clear hy107
         have H' := af.mk H
         clear H
         have p104 : 0 ≤ (au : Int) := of_decide_eq_true qa
         have q104 : au < (l0.length : Int) := of_decide_eq_true qa
         obtain ⟨ad104, e104, hx104_0, hx104_1⟩ := vW HR0.out au p104 q104
         cases e104
         replace hx104_0 := (HB.out.cell (World.block_lt_of_cell? w _ hx104_0)).trans hx104_0
         replace hx104_1 := (HB.out.cell (World.block_lt_of_cell? w _ hx104_1)).trans hx104_1
         replace p104 := eq_true p104
         replace q104 := eq_true q104
         go_wp2_with (first | ((with_reducible refine aU (N := 7) rfl ?_); refine bz ?hg (N := 7) ?hd (cs := #[.int .u32 0, .int .i64 0]) (t := 40) ?hr ?_; (case hd => rfl); (case hg => rfl); (case hr => first | (go_simp; done) | (go_simp; rfl)); intro dB hg w13 hbox hb; replace dN := af.mk (Kd.bH (qr dN) hb); have bD := af.mk (hbox); have GW105 := qge HB hg; have jN := qge HB hg; replace HB := af.mk (ai (qw HB) hb); clear hb hbox hg; have hcz14_0 : w13.cell? ⟨dB, 0, none⟩ = some (.int .u32 0) := (ae bD.out 0).trans rfl; have hcz14_1 : w13.cell? ⟨dB, 1, none⟩ = some (.int .i64 0) := (ae bD.out 1).trans rfl; have hfz14_0 := ah bD.out 0; have hfz14_1 := ah bD.out 1) | ((with_reducible refine Go.Proofs.YthfphdbebnkdpaaDoorV.gz (s := 20) rfl ?_); refine Go.Proofs.YthfphdbebnkdpaaDoorV.jB (some 22) rfl rfl Tryd.func41 (by kernel_rfl) rfl #[.agg #[.int .u32 ((iG l0 au).f0), .int .i64 ((iG l0 au).f1)]] rfl qt ?_; (with_reducible refine (dA.calls k1 ((iG l0 au).f0) ((iG l0 au).f1) aX _ A10.out ?gt).mono ?_); (case gt => exact Go.Proofs.YthfphdbebnkdpaaDoorV.GT.below HGT (qw HB)); rintro e w15 ⟨rfl, hb⟩; refine ⟨_, rfl, ?_⟩; replace dN := af.mk (Kd.bH (by (with_reducible repeat (first | apply Kd.cB | apply Kd.cK | apply Kd.dD)); exact (Kd.fG (Kd.gy (p := ⟨dB, 1, none⟩) (Kd.gy (p := ⟨dB, 0, none⟩) (Kd.jR dN.out bD.out (by decide)) (fun _ hk => hk.2) (.int .u32 ((iG l0 au).f0))) (fun _ hk => hk.2) (.int .i64 ((iG l0 au).f1))) (fun _ h_ => h_.1))) hb); replace bD := af.mk (gX (g := dB) (o := .cells #[.int .u32 ((iG l0 au).f0), .int .i64 ((iG l0 au).f1)] 40 (0, 0)) (by refine cO (cs := #[.int .u32 ((iG l0 au).f0), .int .i64 0]) ?_ 1 _ rfl; refine cO (cs := #[.int .u32 0, .int .i64 0]) ?_ 0 _ rfl; (with_reducible repeat (first | refine fK ?_ _ | refine dC ?_ | refine fJ ?_ _)); exact bD.out) hb); replace HB := af.mk (ai (qw HB) hb); (try clear hb); (try clear hb2); (try clear hk); (try clear hi); have p12 : 0 ≤ (au : Int) := of_decide_eq_true qa; have q12 : (au : Int) < ((bO.length : Int) : Int) := of_decide_eq_true qa; obtain ⟨go12, jk, iy, jl, gl12, cl12, HG12⟩ := Kd.jg dN.out (by omega); (first | cases iy | (injection iy with ea_ en_ ec_; (first | subst ea_ | (injection ea_ with ea_; subst ea_)); subst ec_; clear en_)); have kV := af.mk jl; have GG12 := af.mk HG12; clear jl gl12 HG12; obtain ⟨hx12_0, hf12_0⟩ := Kd.fD (⟨#[]⟩ : ByteArray) dN.out (au : Int) p12 q12; replace p12 := eq_true p12; replace q12 := eq_true q12; obtain ⟨hy16_, hz16_⟩ := Kd.fD (⟨#[]⟩ : ByteArray) dN.out (au : Int) (of_decide_eq_true qa) (of_decide_eq_true qa); have HP16 := Kd.ji dN.out (au : Int) aX) | ((with_reducible refine fZ (t := 9) (p := 23) rfl ?_); refine fH (t := 9) (p := 23) (v := ?vo_w17) (w1 := (w15.setCell ⟨go12, (au : Int).toNat, none⟩ (.string aX))) ?hg ?ho ?hn ?hr ?_; (case ho => rfl); (case hg => rfl); (case hn => rfl); (case hr => first | (go_simp; done) | (go_simp; rfl)); intro w17 hw; have hg : w15.grownBy w17 (some go12) := (by rw [hw]; exact HP16.2); have hp_ : Kd.R Kd.string 9 w17 w.heap.size (fun _ => True) (.slice (some ⟨go12, 0, none⟩) bO.length jk) y107 := (by rw [hw, Ny107.out]; exact HP16.1); clear HP16; replace bD := af.mk (iQ (g := dB) (o := .cells #[.int .u32 ((iG l0 au).f0), .int .i64 ((iG l0 au).f1)] 40 (0, 0)) (qb bD) hg (Kd.pO dN.out bD.out (by decide))); replace dN := af.mk (hp_); replace HB := af.mk ((by rw [hw]; exact bi (HB.out) kV.out : Below w.heap.size w w17)); clear hg hw hp_))
         go_roundg k1
         case measure => have := HK1.out; omega
         case rel => exact ⟨(y107), (wrap64 (au + 1)), (by first | rfl | (simp; done) | (simp [*]; done)), H', ⟨by have := HK1.out; omega⟩, ⟨by (with_reducible repeat (first | apply Kd.cB | apply Kd.cK | apply Kd.dD)); exact dN.out⟩, ⟨by repeat (first | (with_reducible first | exact HB.out | apply aA | apply aj | apply av | refine bi ?_ jN.out) | exact HB.out)⟩⟩
        ·rw [if_neg c11] at H
         exact absurd H (by simp)
       ·rw [if_neg c9] at H
        exact absurd H (by simp)
      ·rw [if_neg c8] at H
       exact absurd H (by simp)
     ·rw [if_neg c7] at H
      have iZ : decide (au < (l0.length : Int)) = false := decide_eq_false c7
      clear c7
      obtain rfl := Option.some.inj H
      go_wp2
      go_ret
      exact ⟨_, by first | rfl | (simp [errW_none, errW_some] <;> rfl) | (simp [*, errW_none, errW_some] <;> rfl), by (with_reducible repeat (first | apply Kd.cB | apply Kd.cK | apply Kd.dD)); exact dN.out, by repeat (first | (with_reducible first | exact HB.out | apply aA | apply aj | apply av) | exact HB.out)⟩
  ·rw [if_neg c4] at H
   exact absurd H (by simp)
 ·rw [if_neg c3] at H
  exact absurd H (by simp)
end Go.Proofs.YthfphdbebnkdpaaDoor.P
end
section
namespace Go.Proofs.YthfphdbebnkdpaaDoor.P
open Go.RowKit Go.Proofs.YthfphdbebnkdpaaDoorW.aH Go.Proofs.YthfphdbebnkdpaaDoorW.aV Go.Proofs.YthfphdbebnkdpaaDoorW.bn
attribute [local go_sem] bR bS dn dw bB bC bU bV
set_option linter.unusedVariables false
set_option linter.unusedSimpArgs false
def fP.f (k : Nat) (aJ : ByteArray) (eB : List (S40)) : Option (ByteArray) := (aM.f (([(⟨#[110, 111, 100, 101]⟩ : ByteArray), aJ] : List ByteArray))).bind fun t105 => (if (eB.length : Int) > 0 then ((dm.f k eB o5).bind fun aX => ((strings_Join.f aX (⟨#[44, 32]⟩ : ByteArray)).bind fun t109 => ((aM.f (([t105, (⟨#[104, 111, 109, 101]⟩ : ByteArray), t109] : List ByteArray))).bind fun fT => (if fT.size + 1 ≤ 9223372036854775807 then (some (fT ++ (⟨#[59]⟩ : ByteArray))) else (none))))) else (if t105.size + 1 ≤ 9223372036854775807 then (some (t105 ++ (⟨#[59]⟩ : ByteArray))) else (none)))
theorem fP.mono : ∀ a0 a1 k, LeO (fP.f k a0 a1) (fP.f (k + 1) a0 a1) := by
 intro a0 a1 k
 unfold fP.f
 repeat' first
   | (with_reducible exact dm.mono _ _ _)
   | (with_reducible exact LeO.refl _)
   | (with_reducible exact LeO.none _)
   | (with_reducible refine LeO.ite ?_ ?_)
   | (with_reducible refine LeO.bind ?_ (fun _ => ?_))
   | exact dm.mono _ _ _
   | exact LeO.none _
   | refine LeO.ite ?_ ?_
   | refine LeO.bind ?_ (fun _ => ?_)
set_option maxHeartbeats 8000000 in
set_option maxRecDepth 100000 in
theorem fP.calls (k : Nat) (aJ : ByteArray) (gP : Option Addr) (c0_1 : Nat) (eB : List (S40)) (r : ByteArray) (w : World) (hr0_1 : Kd.C k40 w gP eB.length eB) (hc0_1 : eB.length ≤ c0_1) (h : fP.f k aJ eB = some r) (HGT : af (Go.Proofs.YthfphdbebnkdpaaDoorV.GT w)) :
  Calls Tryd.prog 99 #[.agg #[.string aJ, .slice gP eB.length c0_1]] w fun e w' => e = .returned (.string r) ∧ Below w.heap.size w w' := by
 have hu77 := Tryd.underlying77
 have lC := af.mk hr0_1
 have lD := af.mk hc0_1
 clear hr0_1 hc0_1
 have HB := af.mk (Below.refl w.heap.size w)
 have H : ((aM.f (([(⟨#[110, 111, 100, 101]⟩ : ByteArray), aJ] : List ByteArray))).bind fun t105 => (if (eB.length : Int) > 0 then ((dm.f k eB o5).bind fun aX => ((strings_Join.f aX (⟨#[44, 32]⟩ : ByteArray)).bind fun t109 => ((aM.f (([t105, (⟨#[104, 111, 109, 101]⟩ : ByteArray), t109] : List ByteArray))).bind fun fT => (if fT.size + 1 ≤ 9223372036854775807 then (some (fT ++ (⟨#[59]⟩ : ByteArray))) else (none))))) else (if t105.size + 1 ≤ 9223372036854775807 then (some (t105 ++ (⟨#[59]⟩ : ByteArray))) else (none)))) = some r := h
 clear h
 obtain ⟨y102, hy102⟩ : ∃ y_ : List ByteArray, y_ = (([(⟨#[110, 111, 100, 101]⟩ : ByteArray), aJ] : List ByteArray)) := ⟨_, rfl⟩
 replace H : ((aM.f y102).bind fun t105 => (if (eB.length : Int) > 0 then ((dm.f k eB o5).bind fun aX => ((strings_Join.f aX (⟨#[44, 32]⟩ : ByteArray)).bind fun t109 => ((aM.f (([t105, (⟨#[104, 111, 109, 101]⟩ : ByteArray), t109] : List ByteArray))).bind fun fT => (if fT.size + 1 ≤ 9223372036854775807 then (some (fT ++ (⟨#[59]⟩ : ByteArray))) else (none))))) else (if t105.size + 1 ≤ 9223372036854775807 then (some (t105 ++ (⟨#[59]⟩ : ByteArray))) else (none)))) = some r := by first | (rw [hy102]; with_reducible exact H) | (have H2_ := (Option.bind_some _ _).symm.trans H; rw [hy102]; with_reducible exact H2_) | (have H2_ := (Option.bind_some _ _).symm.trans H; with_reducible exact H2_) | with_reducible exact H | (rw [hy102]; exact H) | exact H
 have Ny102 := af.mk hy102
 clear hy102
 replace H := Option.bind_eq_some_iff.mp H
 obtain ⟨t105, A20, H⟩ := H
 replace H : (if (eB.length : Int) > 0 then ((dm.f k eB o5).bind fun aX => ((strings_Join.f aX (⟨#[44, 32]⟩ : ByteArray)).bind fun t109 => ((aM.f (([t105, (⟨#[104, 111, 109, 101]⟩ : ByteArray), t109] : List ByteArray))).bind fun fT => (if fT.size + 1 ≤ 9223372036854775807 then (some (fT ++ (⟨#[59]⟩ : ByteArray))) else (none))))) else (if t105.size + 1 ≤ 9223372036854775807 then (some (t105 ++ (⟨#[59]⟩ : ByteArray))) else (none))) = some r := H
 have A2 := af.mk A20
 clear A20
 by_cases c3 : (eB.length : Int) > 0
 ·rw [if_pos c3] at H
  have gG : decide (0 < (eB.length : Int)) = true := decide_eq_true c3
  have gY : decide (0 < eB.length) = true := decide_eq_true (by omega)
  clear c3
  replace H := Option.bind_eq_some_iff.mp H
  obtain ⟨aX, A40, H⟩ := H
  replace H : ((strings_Join.f aX (⟨#[44, 32]⟩ : ByteArray)).bind fun t109 => ((aM.f (([t105, (⟨#[104, 111, 109, 101]⟩ : ByteArray), t109] : List ByteArray))).bind fun fT => (if fT.size + 1 ≤ 9223372036854775807 then (some (fT ++ (⟨#[59]⟩ : ByteArray))) else (none)))) = some r := H
  have A4 := af.mk A40
  clear A40
  replace H := Option.bind_eq_some_iff.mp H
  obtain ⟨t109, A50, H⟩ := H
  replace H : ((aM.f (([t105, (⟨#[104, 111, 109, 101]⟩ : ByteArray), t109] : List ByteArray))).bind fun fT => (if fT.size + 1 ≤ 9223372036854775807 then (some (fT ++ (⟨#[59]⟩ : ByteArray))) else (none))) = some r := H
  have A5 := af.mk A50
  clear A50
  obtain ⟨y110, hy110⟩ : ∃ y_ : List ByteArray, y_ = (([t105, (⟨#[104, 111, 109, 101]⟩ : ByteArray), t109] : List ByteArray)) := ⟨_, rfl⟩
  replace H : ((aM.f y110).bind fun fT => (if fT.size + 1 ≤ 9223372036854775807 then (some (fT ++ (⟨#[59]⟩ : ByteArray))) else (none))) = some r := by first | (rw [hy110]; with_reducible exact H) | (have H2_ := (Option.bind_some _ _).symm.trans H; rw [hy110]; with_reducible exact H2_) | (have H2_ := (Option.bind_some _ _).symm.trans H; with_reducible exact H2_) | with_reducible exact H | (rw [hy110]; exact H) | exact H
  have Ny110 := af.mk hy110
  clear hy110
  replace H := Option.bind_eq_some_iff.mp H
  obtain ⟨fT, A60, H⟩ := H
  replace H : (if fT.size + 1 ≤ 9223372036854775807 then (some (fT ++ (⟨#[59]⟩ : ByteArray))) else (none)) = some r := H
  have A6 := af.mk A60
  clear A60
  by_cases c7 : fT.size + 1 ≤ 9223372036854775807
  ·rw [if_pos c7] at H
   have iZ := eq_true c7
   have om : decide (fT.size + 1 ≤ 9223372036854775807) = true := decide_eq_true c7
   try have uP : (9223372036854775807 < fT.size + 1) = False := eq_false (Nat.not_lt.2 c7)
   obtain rfl := Option.some.inj H
   go_enter Tryd.func99, Tryd.ntmps99
   go_wp2_with (first | ((with_reducible refine aU (N := 1) rfl ?_); refine bz ?hg (N := 1) ?hd (cs := #[.string aJ, .slice gP eB.length c0_1]) (t := 77) ?hr ?_; (case hd => rfl); (case hg => rfl); (case hr => first | (go_simp; done) | (go_simp; rfl)); intro ax hg w8 hbox hb; have ag := af.mk (hbox); have GW101 := qge HB hg; have dE := qge HB hg; replace HB := af.mk (ai (qw HB) hb); clear hb hbox hg; have hcz9_0 : w8.cell? ⟨ax, 0, none⟩ = some (.string aJ) := (ae ag.out 0).trans rfl; have hcz9_1 : w8.cell? ⟨ax, 1, none⟩ = some (.slice gP eB.length c0_1) := (ae ag.out 1).trans rfl; have hfz9_0 := ah ag.out 0; have hfz9_1 := ah ag.out 1) | ((with_reducible refine aU (N := 6) rfl ?_); refine Kd.jw Kd.string _ 9 ?hg (N := 6) ?hd (xs := ([(⟨#[110, 111, 100, 101]⟩ : ByteArray), aJ] : List ByteArray)) (inner := [.string (⟨#[110, 111, 100, 101]⟩ : ByteArray), .string aJ]) (ok := fun _ => True) (okp := fun _ => True) ?hr ?hp (fun _ hk => hk) trivial (Below.refl _ _) (Nat.le_refl _) (by simp) ?_; (case hd => rfl); (case hg => rfl); (case hr => first | (go_simp; done) | (go_simp; rfl)); (case hp => exact (bZ.one (show Kd.M Kd.string _ _ _ (⟨#[110, 111, 100, 101]⟩ : ByteArray) [.string (⟨#[110, 111, 100, 101]⟩ : ByteArray)] from rfl) (bZ.one (show Kd.M Kd.string _ _ _ aJ [.string aJ] from rfl) (bZ.none _ _)))); intro v103 w10 j5 hb hg_ hnew_; clear hg_ hnew_; (first | rw [← Ny102.out] at j5 | (simp only [Int.reduceToNat] at j5; rw [← Ny102.out] at j5)); have eG := af.mk (Kd.dI j5 (bg (qw HB))); replace ag := qbb ag hb; replace HB := af.mk (ai (qw HB) hb); clear hb j5; obtain ⟨qg, jk, iy⟩ := Kd.dW eG.out; subst iy) | ((with_reducible refine aN (f := 39) rfl ?_); refine cu (some 7) rfl rfl Tryd.func39 (by kernel_rfl) rfl #[.slice qg y102.length jk] rfl qt ?_; (with_reducible refine (aM.calls _ _ y102 t105 _ ?bI ?bJ A2.out).mono ?_); (case bI => exact qs ((Kd.aZ eG.out).2.2)); (case bJ => exact (Kd.aZ eG.out).2.1); rintro e w13 ⟨rfl, hb⟩; refine ⟨_, rfl, ?_⟩; replace eG := af.mk (Kd.bH (qr eG) hb); replace ag := qbb ag hb; replace HB := af.mk (ai (qw HB) hb); (try clear hb); (try clear hb2); (try clear hk); (try clear hi); have hcz14_0 : w13.cell? ⟨ax, 0, none⟩ = some (.string aJ) := (ae ag.out 0).trans rfl; have hcz14_1 : w13.cell? ⟨ax, 1, none⟩ = some (.slice gP eB.length c0_1) := (ae ag.out 1).trans rfl; have hfz14_0 := ah ag.out 0; have hfz14_1 := ah ag.out 1) | ((with_reducible refine aN (f := 128) rfl ?_); refine cu (some 15) rfl rfl Tryd.func128 (by kernel_rfl) rfl #[.slice gP eB.length c0_1, .func (.func 41) #[] #[]] rfl qt ?_; (with_reducible refine (dm.calls k _ _ eB o5 aX _ ?bI ?bJ A4.out ?gt).mono ?_); (case gt => exact Go.Proofs.YthfphdbebnkdpaaDoorV.GT.below HGT (qw HB)); (case bI => exact qs ((Kd.eY lC.out HB.out))); (case bJ => exact lD.out); rintro e w15 ⟨v107, rfl, ho0, hb⟩; refine ⟨_, rfl, ?_⟩; have gW := af.mk (Kd.dI (Kd.iE ho0 (Kd.kL (qr eG))) (bg (qw HB))); replace eG := af.mk (Kd.fV (qr eG) (Kd.iC ho0) hb); replace ag := qbb ag hb; replace HB := af.mk (ai (qw HB) hb); (try clear hb); (try clear hb2); (try clear hk); (try clear hi); (try clear ho0); obtain ⟨yn, yo, wG⟩ := Kd.dW gW.out; subst wG) | ((with_reducible refine aN (f := 45) rfl ?_); refine cu (some 16) rfl rfl Tryd.func45 (by kernel_rfl) rfl #[.slice yn aX.length yo, .string (⟨#[44, 32]⟩ : ByteArray)] rfl qt ?_; (with_reducible refine (strings_Join.calls _ _ aX (⟨#[44, 32]⟩ : ByteArray) t109 _ ?bI ?bJ A5.out).mono ?_); (case bI => exact qs ((Kd.aZ gW.out).2.2)); (case bJ => exact (Kd.aZ gW.out).2.1); rintro e w17 ⟨rfl, hb⟩; refine ⟨_, rfl, ?_⟩; replace eG := af.mk (Kd.bH (qr eG) hb); replace gW := af.mk (Kd.bH (qr gW) hb); replace ag := qbb ag hb; replace HB := af.mk (ai (qw HB) hb); (try clear hb); (try clear hb2); (try clear hk); (try clear hi)) | ((with_reducible refine aU (N := 17) rfl ?_); refine Kd.jw Kd.string _ 9 ?hg (N := 17) ?hd (xs := ([t105, (⟨#[104, 111, 109, 101]⟩ : ByteArray), t109] : List ByteArray)) (inner := [.string t105, .string (⟨#[104, 111, 109, 101]⟩ : ByteArray), .string t109]) (ok := fun _ => True) (okp := fun _ => True) ?hr ?hp (fun _ hk => hk) trivial (Below.refl _ _) (Nat.le_refl _) (by simp) ?_; (case hd => rfl); (case hg => rfl); (case hr => first | (go_simp; done) | (go_simp; rfl)); (case hp => exact (bZ.one (show Kd.M Kd.string _ _ _ t105 [.string t105] from rfl) (bZ.one (show Kd.M Kd.string _ _ _ (⟨#[104, 111, 109, 101]⟩ : ByteArray) [.string (⟨#[104, 111, 109, 101]⟩ : ByteArray)] from rfl) (bZ.one (show Kd.M Kd.string _ _ _ t109 [.string t109] from rfl) (bZ.none _ _))))); intro v111 w18 qj hb hg_ hnew_; clear hg_ hnew_; (first | rw [← Ny110.out] at qj | (simp only [Int.reduceToNat] at qj; rw [← Ny110.out] at qj)); have jO := af.mk (Kd.dI (Kd.iE (Kd.iE qj (Kd.kL (qr eG))) (Kd.kL (qr gW))) (bg (qw HB))); replace eG := af.mk (Kd.fV (qr eG) (Kd.iC qj) hb); replace gW := af.mk (Kd.fV (qr gW) (Kd.iC qj) hb); replace ag := qbb ag hb; replace HB := af.mk (ai (qw HB) hb); clear hb qj; obtain ⟨wJ, wK, uZ⟩ := Kd.dW jO.out; subst uZ) | ((with_reducible refine aN (f := 39) rfl ?_); refine cu (some 18) rfl rfl Tryd.func39 (by kernel_rfl) rfl #[.slice wJ y110.length wK] rfl qt ?_; (with_reducible refine (aM.calls _ _ y110 fT _ ?bI ?bJ A6.out).mono ?_); (case bI => exact qs ((Kd.aZ jO.out).2.2)); (case bJ => exact (Kd.aZ jO.out).2.1); rintro e w21 ⟨rfl, hb⟩; refine ⟨_, rfl, ?_⟩; replace eG := af.mk (Kd.bH (qr eG) hb); replace gW := af.mk (Kd.bH (qr gW) hb); replace jO := af.mk (Kd.bH (qr jO) hb); replace ag := qbb ag hb; replace HB := af.mk (ai (qw HB) hb); (try clear hb); (try clear hb2); (try clear hk); (try clear hi)))
   go_ret
   exact ⟨by first | rfl | (simp [errW_none, errW_some] <;> rfl) | (simp [*, errW_none, errW_some] <;> rfl), by repeat (first | (with_reducible first | exact HB.out | apply aA | apply aj | apply av | refine bi ?_ dE.out) | exact HB.out)⟩
  ·rw [if_neg c7] at H
   exact absurd H (by simp)
 ·rw [if_neg c3] at H
  have gG : decide (0 < (eB.length : Int)) = false := decide_eq_false c3
  have gY : decide (0 < eB.length) = false := decide_eq_false (by omega)
  clear c3
  by_cases c22 : t105.size + 1 ≤ 9223372036854775807
  ·rw [if_pos c22] at H
   have yx := eq_true c22
   have yz : decide (t105.size + 1 ≤ 9223372036854775807) = true := decide_eq_true c22
   try have yA : (9223372036854775807 < t105.size + 1) = False := eq_false (Nat.not_lt.2 c22)
   obtain rfl := Option.some.inj H
   go_enter Tryd.func99, Tryd.ntmps99
   go_wp2_with (first | ((with_reducible refine aU (N := 1) rfl ?_); refine bz ?hg (N := 1) ?hd (cs := #[.string aJ, .slice gP eB.length c0_1]) (t := 77) ?hr ?_; (case hd => rfl); (case hg => rfl); (case hr => first | (go_simp; done) | (go_simp; rfl)); intro ax hg w23 hbox hb; have ag := af.mk (hbox); have GW101 := qge HB hg; have dE := qge HB hg; replace HB := af.mk (ai (qw HB) hb); clear hb hbox hg; have hcz24_0 : w23.cell? ⟨ax, 0, none⟩ = some (.string aJ) := (ae ag.out 0).trans rfl; have hcz24_1 : w23.cell? ⟨ax, 1, none⟩ = some (.slice gP eB.length c0_1) := (ae ag.out 1).trans rfl; have hfz24_0 := ah ag.out 0; have hfz24_1 := ah ag.out 1) | ((with_reducible refine aU (N := 6) rfl ?_); refine Kd.jw Kd.string _ 9 ?hg (N := 6) ?hd (xs := ([(⟨#[110, 111, 100, 101]⟩ : ByteArray), aJ] : List ByteArray)) (inner := [.string (⟨#[110, 111, 100, 101]⟩ : ByteArray), .string aJ]) (ok := fun _ => True) (okp := fun _ => True) ?hr ?hp (fun _ hk => hk) trivial (Below.refl _ _) (Nat.le_refl _) (by simp) ?_; (case hd => rfl); (case hg => rfl); (case hr => first | (go_simp; done) | (go_simp; rfl)); (case hp => exact (bZ.one (show Kd.M Kd.string _ _ _ (⟨#[110, 111, 100, 101]⟩ : ByteArray) [.string (⟨#[110, 111, 100, 101]⟩ : ByteArray)] from rfl) (bZ.one (show Kd.M Kd.string _ _ _ aJ [.string aJ] from rfl) (bZ.none _ _)))); intro v103 w25 ui hb hg_ hnew_; clear hg_ hnew_; (first | rw [← Ny102.out] at ui | (simp only [Int.reduceToNat] at ui; rw [← Ny102.out] at ui)); have eG := af.mk (Kd.dI ui (bg (qw HB))); replace ag := qbb ag hb; replace HB := af.mk (ai (qw HB) hb); clear hb ui; obtain ⟨zw, zx, zy⟩ := Kd.dW eG.out; subst zy) | ((with_reducible refine aN (f := 39) rfl ?_); refine cu (some 7) rfl rfl Tryd.func39 (by kernel_rfl) rfl #[.slice zw y102.length zx] rfl qt ?_; (with_reducible refine (aM.calls _ _ y102 t105 _ ?bI ?bJ A2.out).mono ?_); (case bI => exact qs ((Kd.aZ eG.out).2.2)); (case bJ => exact (Kd.aZ eG.out).2.1); rintro e w28 ⟨rfl, hb⟩; refine ⟨_, rfl, ?_⟩; replace eG := af.mk (Kd.bH (qr eG) hb); replace ag := qbb ag hb; replace HB := af.mk (ai (qw HB) hb); (try clear hb); (try clear hb2); (try clear hk); (try clear hi); have hcz29_0 : w28.cell? ⟨ax, 0, none⟩ = some (.string aJ) := (ae ag.out 0).trans rfl; have hcz29_1 : w28.cell? ⟨ax, 1, none⟩ = some (.slice gP eB.length c0_1) := (ae ag.out 1).trans rfl; have hfz29_0 := ah ag.out 0; have hfz29_1 := ah ag.out 1))
   go_ret
   exact ⟨by first | rfl | (simp [errW_none, errW_some] <;> rfl) | (simp [*, errW_none, errW_some] <;> rfl), by repeat (first | (with_reducible first | exact HB.out | apply aA | apply aj | apply av | refine bi ?_ dE.out) | exact HB.out)⟩
  ·rw [if_neg c22] at H
   exact absurd H (by simp)
end Go.Proofs.YthfphdbebnkdpaaDoor.P
end
section
namespace Go.Proofs.YthfphdbebnkdpaaDoor.P
open Go.RowKit Go.Proofs.YthfphdbebnkdpaaDoorW.aH Go.Proofs.YthfphdbebnkdpaaDoorW.aV Go.Proofs.YthfphdbebnkdpaaDoorW.bn
attribute [local go_sem] bR bS dn dw bB bC bU bV
set_option linter.unusedVariables false
set_option linter.unusedSimpArgs false
def dV.l0 : Nat → List ByteArray → List (S77) → Int → Int → Option (List ByteArray)
 | 0, _, _, _, _ => none
 | k + 1, x5, x11, x12, x13 => if x13 < x12 then (if 0 ≤ x13 then (if x13 < (x11.length : Int) then ((fP.f k ((gQ x11 x13).f0) ((gQ x11 x13).f1)).bind fun aX => (if x13 < (x5.length : Int) then (dV.l0 k (x5.set (x13 : Int).toNat aX) x11 x12 (wrap64 (x13 + 1))) else (none))) else (none)) else (none)) else (some x5)
def dV.f (k : Nat) (l0 : List (S77)) (a1 : Bool) : Option (List ByteArray) := if 0 ≤ (l0.length : Int) then (if ((l0.length : Int) : Int).toNat ≤ 17592186044416 then (dV.l0 k (List.replicate ((l0.length : Int) : Int).toNat (⟨#[]⟩ : ByteArray)) l0 (l0.length : Int) 0) else (none)) else (none)
theorem dV.dZ : ∀ k, (∀ y0 y1 y2 y3, LeO (dV.l0 k y0 y1 y2 y3) (dV.l0 (k + 1) y0 y1 y2 y3))
 | 0 => fun _ _ _ _ r h => by simp [dV.l0] at h
 | k + 1 => by
  have ih0 := dV.dZ k
  ·intro y0 y1 y2 y3
   unfold dV.l0
   repeat' first
   | (with_reducible exact ih0 _ _ _ _)
   | (with_reducible exact fP.mono _ _ _)
   | (with_reducible exact LeO.refl _)
   | (with_reducible exact LeO.none _)
   | (with_reducible refine LeO.ite ?_ ?_)
   | (with_reducible refine LeO.bind ?_ (fun _ => ?_))
   | exact ih0 _ _ _ _
   | exact fP.mono _ _ _
   | exact LeO.none _
   | refine LeO.ite ?_ ?_
   | refine LeO.bind ?_ (fun _ => ?_)
theorem dV.mono : ∀ a0 a1 k, LeO (dV.f k a0 a1) (dV.f (k + 1) a0 a1) := by
 intro a0 a1 k
 have ih0 := dV.dZ k
 unfold dV.f
 repeat' first
   | (with_reducible exact ih0 _ _ _ _)
   | (with_reducible exact fP.mono _ _ _)
   | (with_reducible exact LeO.refl _)
   | (with_reducible exact LeO.none _)
   | (with_reducible refine LeO.ite ?_ ?_)
   | (with_reducible refine LeO.bind ?_ (fun _ => ?_))
   | exact ih0 _ _ _ _
   | exact fP.mono _ _ _
   | exact LeO.none _
   | refine LeO.ite ?_ ?_
   | refine LeO.bind ?_ (fun _ => ?_)
set_option maxHeartbeats 8000000 in
set_option maxRecDepth 100000 in
theorem dV.calls (k : Nat) (A0 : Option Addr) (c0 : Nat) (l0 : List (S77)) (a1 : Bool) (r : List ByteArray) (w : World) (hr0 : Kd.C k77 w A0 l0.length l0) (hc0 : l0.length ≤ c0) (h : dV.f k l0 a1 = some r) (HGT : af (Go.Proofs.YthfphdbebnkdpaaDoorV.GT w)) :
  Calls Tryd.prog 98 #[.slice A0 l0.length c0, .func (.func 99) #[] #[]] w fun e w' => ∃ v0_ : Value, e = .returned (v0_) ∧ Kd.R Kd.string 9 w' w.heap.size (fun _ => True) v0_ r ∧ Below w.heap.size w w' := by
 have hu77 := Tryd.underlying77
 have HR0 := af.mk hr0
 have HC0 := af.mk hc0
 clear hr0 hc0
 have HB := af.mk (Below.refl w.heap.size w)
 have H : (if 0 ≤ (l0.length : Int) then (if ((l0.length : Int) : Int).toNat ≤ 17592186044416 then (dV.l0 k (List.replicate ((l0.length : Int) : Int).toNat (⟨#[]⟩ : ByteArray)) l0 (l0.length : Int) 0) else (none)) else (none)) = some r := h
 clear h
 by_cases c3 : 0 ≤ (l0.length : Int)
 ·rw [if_pos c3] at H
  have gG := eq_true c3
  have gY : decide (0 ≤ (l0.length : Int)) = true := decide_eq_true c3
  clear c3
  by_cases c4 : ((l0.length : Int) : Int).toNat ≤ 17592186044416
  ·rw [if_pos c4] at H
   have ic := eq_true c4
   have iA : decide (((l0.length : Int) : Int).toNat ≤ 17592186044416) = true := decide_eq_true c4
   clear c4
   obtain ⟨y101, hy101⟩ : ∃ y_ : List ByteArray, y_ = (List.replicate ((l0.length : Int) : Int).toNat (⟨#[]⟩ : ByteArray)) := ⟨_, rfl⟩
   replace H : (dV.l0 k y101 l0 (l0.length : Int) 0) = some r := by first | (rw [hy101]; with_reducible exact H) | (have H2_ := (Option.bind_some _ _).symm.trans H; rw [hy101]; with_reducible exact H2_) | (have H2_ := (Option.bind_some _ _).symm.trans H; with_reducible exact H2_) | with_reducible exact H | (rw [hy101]; exact H) | exact H
   have Ny101 := af.mk hy101
   clear hy101
   have H' := af.mk H
   clear H
   go_enter Tryd.func98, Tryd.ntmps98
   go_wp2_with (first | ((with_reducible refine aU (N := 10) rfl ?_); refine Kd.jh Kd.string _ 9 rfl (N := 10) rfl 72 _ _ rfl (l0.length : Int) rfl rfl Tryd.underlying72 (.string ⟨#[]⟩) 16 lq rfl (by decide) (by omega) (⟨#[]⟩ : ByteArray) (ok := fun _ => True) (okp := fun _ => True) rfl (fun _ hk => hk) trivial (of_decide_eq_true qa) (Nat.le_trans (Nat.mul_le_mul_right _ (of_decide_eq_true qa : (l0.length : Int).toNat ≤ 17592186044416)) (by omega)) (Below.refl _ _) (Nat.le_refl _) ?_; intro v102 w5 ho6 hb hg_ hnew_; clear hg_ hnew_; (first | rw [← Ny101.out] at ho6 | (simp only [Int.reduceToNat] at ho6; rw [← Ny101.out] at ho6)); have eD := af.mk (Kd.dI ho6 (bg (qw HB))); replace HB := af.mk (ai (qw HB) hb); clear hb ho6))
   go_loopg [13] k (fun kq v13 w' => ∃ (bO : List ByteArray) (au : Int), v13 = .int .i64 au ∧ af (dV.l0 kq bO l0 (l0.length : Int) au = some r) ∧ af (kq ≤ k) ∧ af (Kd.R Kd.string 9 w' w.heap.size (fun _ => True) v102 bO) ∧ af (Below w.heap.size w w'))
   case atStart => exact ⟨(y101), (0), (by first | rfl | (simp; done) | (simp [*]; done)), H', ⟨Nat.le_refl _⟩, ⟨by (with_reducible repeat (first | apply Kd.cB | apply Kd.cK | apply Kd.dD)); exact eD.out⟩, ⟨by repeat (first | (with_reducible first | exact HB.out | apply aA | apply aj | apply av) | exact HB.out)⟩⟩
   case round =>
    clear H'
    try clear p2
    try clear c3
    try clear gG
    try clear gY
    try clear c4
    try clear ic
    try clear iA
    obtain ⟨bO, au, rfl, HA, HK1, dN, HB⟩ := hrel
    cases gk with
    | zero => exact absurd HA.out (by simp [dV.l0])
    | succ k1 =>
     have H := HA.out
     clear HA
     simp only [dV.l0] at H
     by_cases c7 : au < (l0.length : Int)
     ·rw [if_pos c7] at H
      have iZ : decide (au < (l0.length : Int)) = true := decide_eq_true c7
      clear c7
      by_cases c8 : 0 ≤ au
      ·rw [if_pos c8] at H
       have jM : decide (0 ≤ au) = true := decide_eq_true c8
       clear c8
       by_cases c9 : au < (l0.length : Int)
       ·rw [if_pos c9] at H
        have kT : decide (au < (l0.length : Int)) = true := decide_eq_true c9
        clear c9
        replace H := Option.bind_eq_some_iff.mp H
        obtain ⟨aX, A100, H⟩ := H
        replace H : (if au < (bO.length : Int) then (dV.l0 k1 (bO.set (au : Int).toNat aX) l0 (l0.length : Int) (wrap64 (au + 1))) else (none)) = some r := H
        have A10 := af.mk A100
        clear A100
        by_cases c11 : au < (bO.length : Int)
        ·rw [if_pos c11] at H
         have jC : decide (au < (bO.length : Int)) = true := decide_eq_true c11
         clear c11
         obtain ⟨y107, hy107⟩ : ∃ y_ : List ByteArray, y_ = (bO.set (au : Int).toNat aX) := ⟨_, rfl⟩
         replace H : (dV.l0 k1 y107 l0 (l0.length : Int) (wrap64 (au + 1))) = some r := by first | (rw [hy107]; with_reducible exact H) | (have H2_ := (Option.bind_some _ _).symm.trans H; rw [hy107]; with_reducible exact H2_) | (have H2_ := (Option.bind_some _ _).symm.trans H; with_reducible exact H2_) | with_reducible exact H | (rw [hy107]; exact H) | exact H
         have Ny107 := af.mk hy107
         clear hy107
         have H' := af.mk H
         clear H
         have p104 : 0 ≤ (au : Int) := of_decide_eq_true qa
         have q104 : au < (l0.length : Int) := of_decide_eq_true qa
         obtain ⟨ad104, jm, c104_1, e104, hx104_0, hx104_1, hl104_1, hi104_1⟩ := vZ HR0.out au p104 q104
         cases e104
         replace hx104_0 := (HB.out.cell (World.block_lt_of_cell? w _ hx104_0)).trans hx104_0
         replace hx104_1 := (HB.out.cell (World.block_lt_of_cell? w _ hx104_1)).trans hx104_1
         have oI := af.mk hi104_1
         have oJ := af.mk hl104_1
         clear hi104_1 hl104_1
         replace p104 := eq_true p104
         replace q104 := eq_true q104
         go_wp2_with (first | ((with_reducible refine aU (N := 7) rfl ?_); refine bz ?hg (N := 7) ?hd (cs := #[.string (⟨#[]⟩ : ByteArray), .slice none 0 0]) (t := 77) ?hr ?_; (case hd => rfl); (case hg => rfl); (case hr => first | (go_simp; done) | (go_simp; rfl)); intro dB hg w13 hbox hb; replace dN := af.mk (Kd.bH (qr dN) hb); have bD := af.mk (hbox); have GW105 := qge HB hg; have jN := qge HB hg; replace HB := af.mk (ai (qw HB) hb); clear hb hbox hg; have hcz14_0 : w13.cell? ⟨dB, 0, none⟩ = some (.string (⟨#[]⟩ : ByteArray)) := (ae bD.out 0).trans rfl; have hcz14_1 : w13.cell? ⟨dB, 1, none⟩ = some (.slice none 0 0) := (ae bD.out 1).trans rfl; have hfz14_0 := ah bD.out 0; have hfz14_1 := ah bD.out 1) | ((with_reducible refine Go.Proofs.YthfphdbebnkdpaaDoorV.gz (s := 20) rfl ?_); refine Go.Proofs.YthfphdbebnkdpaaDoorV.jB (some 22) rfl rfl Tryd.func99 (by kernel_rfl) rfl #[.agg #[.string ((gQ l0 au).f0), .slice jm ((gQ l0 au).f1).length c104_1]] rfl qt ?_; (with_reducible refine (fP.calls k1 ((gQ l0 au).f0) _ _ ((gQ l0 au).f1) aX _ ?bI ?bJ A10.out ?gt).mono ?_); (case gt => exact Go.Proofs.YthfphdbebnkdpaaDoorV.GT.below HGT (qw HB)); (case bI => exact Kd.eY oI.out (qw HB)); (case bJ => exact oJ.out); rintro e w15 ⟨rfl, hb⟩; refine ⟨_, rfl, ?_⟩; replace dN := af.mk (Kd.bH (by (with_reducible repeat (first | apply Kd.cB | apply Kd.cK | apply Kd.dD)); exact (Kd.fG (Kd.gy (p := ⟨dB, 1, none⟩) (Kd.gy (p := ⟨dB, 0, none⟩) (Kd.jR dN.out bD.out (by decide)) (fun _ hk => hk.2) (.string ((gQ l0 au).f0))) (fun _ hk => hk.2) (.slice jm ((gQ l0 au).f1).length c104_1)) (fun _ h_ => h_.1))) hb); replace bD := af.mk (gX (g := dB) (o := .cells #[.string ((gQ l0 au).f0), .slice jm ((gQ l0 au).f1).length c104_1] 77 (0, 0)) (by refine cO (cs := #[.string ((gQ l0 au).f0), .slice none 0 0]) ?_ 1 _ rfl; refine cO (cs := #[.string (⟨#[]⟩ : ByteArray), .slice none 0 0]) ?_ 0 _ rfl; (with_reducible repeat (first | refine fK ?_ _ | refine dC ?_ | refine fJ ?_ _)); exact bD.out) hb); replace HB := af.mk (ai (qw HB) hb); (try clear hb); (try clear hb2); (try clear hk); (try clear hi); have p12 : 0 ≤ (au : Int) := of_decide_eq_true qa; have q12 : (au : Int) < ((bO.length : Int) : Int) := of_decide_eq_true qa; obtain ⟨go12, jk, iy, jl, gl12, cl12, HG12⟩ := Kd.jg dN.out (by omega); (first | cases iy | (injection iy with ea_ en_ ec_; (first | subst ea_ | (injection ea_ with ea_; subst ea_)); subst ec_; clear en_)); have kV := af.mk jl; have GG12 := af.mk HG12; clear jl gl12 HG12; obtain ⟨hx12_0, hf12_0⟩ := Kd.fD (⟨#[]⟩ : ByteArray) dN.out (au : Int) p12 q12; replace p12 := eq_true p12; replace q12 := eq_true q12; obtain ⟨hy16_, hz16_⟩ := Kd.fD (⟨#[]⟩ : ByteArray) dN.out (au : Int) (of_decide_eq_true qa) (of_decide_eq_true qa); have HP16 := Kd.ji dN.out (au : Int) aX) | ((with_reducible refine fZ (t := 9) (p := 23) rfl ?_); refine fH (t := 9) (p := 23) (v := ?vo_w17) (w1 := (w15.setCell ⟨go12, (au : Int).toNat, none⟩ (.string aX))) ?hg ?ho ?hn ?hr ?_; (case ho => rfl); (case hg => rfl); (case hn => rfl); (case hr => first | (go_simp; done) | (go_simp; rfl)); intro w17 hw; have hg : w15.grownBy w17 (some go12) := (by rw [hw]; exact HP16.2); have hp_ : Kd.R Kd.string 9 w17 w.heap.size (fun _ => True) (.slice (some ⟨go12, 0, none⟩) bO.length jk) y107 := (by rw [hw, Ny107.out]; exact HP16.1); clear HP16; replace bD := af.mk (iQ (g := dB) (o := .cells #[.string ((gQ l0 au).f0), .slice jm ((gQ l0 au).f1).length c104_1] 77 (0, 0)) (qb bD) hg (Kd.pO dN.out bD.out (by decide))); replace dN := af.mk (hp_); replace HB := af.mk ((by rw [hw]; exact bi (HB.out) kV.out : Below w.heap.size w w17)); clear hg hw hp_))
         go_roundg k1
         case measure => have := HK1.out; omega
         case rel => exact ⟨(y107), (wrap64 (au + 1)), (by first | rfl | (simp; done) | (simp [*]; done)), H', ⟨by have := HK1.out; omega⟩, ⟨by (with_reducible repeat (first | apply Kd.cB | apply Kd.cK | apply Kd.dD)); exact dN.out⟩, ⟨by repeat (first | (with_reducible first | exact HB.out | apply aA | apply aj | apply av | refine bi ?_ jN.out) | exact HB.out)⟩⟩
        ·rw [if_neg c11] at H
         exact absurd H (by simp)
       ·rw [if_neg c9] at H
        exact absurd H (by simp)
      ·rw [if_neg c8] at H
       exact absurd H (by simp)
     ·rw [if_neg c7] at H
      have iZ : decide (au < (l0.length : Int)) = false := decide_eq_false c7
      clear c7
      obtain rfl := Option.some.inj H
      go_wp2
      go_ret
      exact ⟨_, by first | rfl | (simp [errW_none, errW_some] <;> rfl) | (simp [*, errW_none, errW_some] <;> rfl), by (with_reducible repeat (first | apply Kd.cB | apply Kd.cK | apply Kd.dD)); exact dN.out, by repeat (first | (with_reducible first | exact HB.out | apply aA | apply aj | apply av) | exact HB.out)⟩
  ·rw [if_neg c4] at H
   exact absurd H (by simp)
 ·rw [if_neg c3] at H
  exact absurd H (by simp)
end Go.Proofs.YthfphdbebnkdpaaDoor.P
end
section
namespace Go.Proofs.YthfphdbebnkdpaaDoor.P
open Go.RowKit Go.Proofs.YthfphdbebnkdpaaDoorW.aH Go.Proofs.YthfphdbebnkdpaaDoorW.aV Go.Proofs.YthfphdbebnkdpaaDoorW.bn
attribute [local go_sem] bR bS dn dw bB bC bU bV
set_option linter.unusedVariables false
set_option linter.unusedSimpArgs false
def fU.f (aJ : ByteArray) (aD : Int) : Option (ByteArray) := if aD = 1 then (some aJ) else (if aJ.size + 1 ≤ 9223372036854775807 then ((strconv_Itoa.f aD).bind fun aQ => (if (aJ ++ (⟨#[42]⟩ : ByteArray)).size + aQ.size ≤ 9223372036854775807 then (some ((aJ ++ (⟨#[42]⟩ : ByteArray)) ++ aQ)) else (none))) else (none))
def fU.T3 : Bool × List (List Nat × List Nat) := (true, [([], []), ([0], [0]), ([1], [1]), ([], []), ([3], [3]), ([4], [4]), ([2, 5], [2, 5]), ([6, 5, 0, 1, 2, 3, 4, 5, 6], [6])])
def fU.B3 : List Nat := [0, 1, 3, 0, 8, 24, 63, 127]
theorem fU.qd : gK .any (opsOf Tryd.f154 3) = fU.T3 := by kernel_rfl
theorem fU.mU : fM fU.T3.2 fU.B3 = true := by kernel_rfl
set_option maxHeartbeats 8000000 in
set_option maxRecDepth 100000 in
theorem fU.calls (aJ : ByteArray) (aD : Int) (r : ByteArray) (w : World) (h : fU.f aJ aD = some r) (HGT : af (Go.Proofs.YthfphdbebnkdpaaDoorV.GT w)) :
  Calls Tryd.prog 154 #[.agg #[.string aJ, .int .i64 aD]] w fun e w' => e = .returned (.string r) ∧ Below w.heap.size w w' := by
 have hu219 := Tryd.underlying219
 have HB := af.mk (Below.refl w.heap.size w)
 have H : (if aD = 1 then (some aJ) else (if aJ.size + 1 ≤ 9223372036854775807 then ((strconv_Itoa.f aD).bind fun aQ => (if (aJ ++ (⟨#[42]⟩ : ByteArray)).size + aQ.size ≤ 9223372036854775807 then (some ((aJ ++ (⟨#[42]⟩ : ByteArray)) ++ aQ)) else (none))) else (none))) = some r := h
 clear h
 by_cases c2 : aD = 1
 ·rw [if_pos c2] at H
  have jr : (aD == 1) = true := beq_iff_eq.mpr c2
  have nG : (aD != 1) = false := bne_eq_false_iff_eq.mpr c2
  clear c2
  obtain rfl := Option.some.inj H
  go_enter Tryd.func154, Tryd.ntmps154
  go_wp2_with (first | ((with_reducible refine aU (N := 1) rfl ?_); refine bz ?hg (N := 1) ?hd (cs := #[.string aJ, .int .i64 aD]) (t := 219) ?hr ?_; (case hd => rfl); (case hg => rfl); (case hr => first | (go_simp; done) | (go_simp; rfl)); intro ax hg w3 hbox hb; have ag := af.mk (hbox); have GW101 := qge HB hg; have dE := qge HB hg; replace HB := af.mk (ai (qw HB) hb); clear hb hbox hg; have hcz4_0 : w3.cell? ⟨ax, 0, none⟩ = some (.string aJ) := (ae ag.out 0).trans rfl; have hcz4_1 : w3.cell? ⟨ax, 1, none⟩ = some (.int .i64 aD) := (ae ag.out 1).trans rfl; have hfz4_0 := ah ag.out 0; have hfz4_1 := ah ag.out 1))
  go_ret
  exact ⟨by first | rfl | (simp [errW_none, errW_some] <;> rfl) | (simp [*, errW_none, errW_some] <;> rfl), by repeat (first | (with_reducible first | exact HB.out | apply aA | apply aj | apply av | refine bi ?_ dE.out) | exact HB.out)⟩
 ·rw [if_neg c2] at H
  have jr : (aD == 1) = false := beq_eq_false_iff_ne.mpr c2
  have nG : (aD != 1) = true := bne_iff_ne.mpr c2
  by_cases c5 : aJ.size + 1 ≤ 9223372036854775807
  ·rw [if_pos c5] at H
   have iL := eq_true c5
   have kC : decide (aJ.size + 1 ≤ 9223372036854775807) = true := decide_eq_true c5
   try have p9 : (9223372036854775807 < aJ.size + 1) = False := eq_false (Nat.not_lt.2 c5)
   replace H := Option.bind_eq_some_iff.mp H
   obtain ⟨aQ, A60, H⟩ := H
   replace H : (if (aJ ++ (⟨#[42]⟩ : ByteArray)).size + aQ.size ≤ 9223372036854775807 then (some ((aJ ++ (⟨#[42]⟩ : ByteArray)) ++ aQ)) else (none)) = some r := H
   have A6 := af.mk A60
   clear A60
   by_cases c7 : (aJ ++ (⟨#[42]⟩ : ByteArray)).size + aQ.size ≤ 9223372036854775807
   ·rw [if_pos c7] at H
    have iZ := eq_true c7
    have om : decide ((aJ ++ (⟨#[42]⟩ : ByteArray)).size + aQ.size ≤ 9223372036854775807) = true := decide_eq_true c7
    try have uP : (9223372036854775807 < (aJ ++ (⟨#[42]⟩ : ByteArray)).size + aQ.size) = False := eq_false (Nat.not_lt.2 c7)
    (try (have xc : (9223372036854775807 < aJ.size + 1 + aQ.size) = False := eq_false (Nat.not_lt.2 (by have h_ := om; simp only [ByteArray.size_append, decide_eq_true_eq] at h_; first | exact h_ | (simp at h_; omega)))))
    obtain rfl := Option.some.inj H
    go_enter Tryd.func154, Tryd.ntmps154
    try go_wp2_with (first | ((with_reducible refine aU (N := 1) rfl ?_); refine bz ?hg (N := 1) ?hd (cs := #[.string aJ, .int .i64 aD]) (t := 219) ?hr ?_; (case hd => rfl); (case hg => rfl); (case hr => first | (go_simp; done) | (go_simp; rfl)); intro ax hg w8 hbox hb; have ag := af.mk (hbox); have GW101 := qge HB hg; have dE := qge HB hg; replace HB := af.mk (ai (qw HB) hb); clear hb hbox hg; have hcz9_0 : w8.cell? ⟨ax, 0, none⟩ = some (.string aJ) := (ae ag.out 0).trans rfl; have hcz9_1 : w8.cell? ⟨ax, 1, none⟩ = some (.int .i64 aD) := (ae ag.out 1).trans rfl; have hfz9_0 := ah ag.out 0; have hfz9_1 := ah ag.out 1))
    replace ag := af.mk (dC ag.out)
    replace HB := af.mk (av HB.out)
    refine gm (n := 8) (S := fun w' => w'.cell? ⟨ax, 0, none⟩ = some (.string aJ) ∧ w'.cell? ⟨ax, 1, none⟩ = some (.int .i64 aD)) (ds := []) #[bF,bF,bF,bF,bF,bF,bF,bF] (by kernel_rfl) rfl rfl ⟨(ae ag.out 0).trans rfl, (ae ag.out 1).trans rfl⟩ (fun hHeld => ?_); refine eH fU.qd fU.mU (fun HT_ HW_ => ?_)
    generalize w8.drew = w10 at ag HB hHeld ⊢
    refine aY 0 (some 8) HT_ ?_
    refine aY 3 (some 11) HT_ ?_
    refine d9 1 (some 9) HT_ HW_ hHeld ?_
    refine aY 2 (some 10) HT_ ?_
    refine d9 4 (some 12) HT_ HW_ hHeld ?_
    refine gF 5 (some 13) HT_ (fun K hK => ?_)
    refine fe Tryd.func40 #[.int .i64 aD] ?_
    with_reducible refine (strconv_Itoa.calls aD aQ _ A6.out ?gt).mono ?_
    (case gt => exact Go.Proofs.YthfphdbebnkdpaaDoorV.GT.below HGT (qw HB))
    rintro e w11 ⟨rfl, hb⟩
    refine ⟨_, rfl, ?_⟩
    replace ag := qbb ag hb
    replace HB := af.mk (ai (qw HB) hb)
    (try clear hb)
    (try clear hb2)
    (try clear hk)
    (try clear hi)
    refine hK.out _ _ ⟨(ae ag.out 0).trans rfl, (ae ag.out 1).trans rfl⟩ (fun hHeld => ?_)
    clear hK K
    refine eX (some 13) ?_
    refine aY 6 (some 14) HT_ ?_
    refine aY 7 (some 2) HT_ ?_
    refine iq HT_ ?_
    try go_wp2
    go_ret
    exact ⟨by first | rfl | (simp [errW_none, errW_some] <;> rfl) | (simp [*, errW_none, errW_some] <;> rfl), by repeat (first | (with_reducible first | exact HB.out | apply aA | apply aj | apply av | refine bi ?_ dE.out) | exact HB.out)⟩
   ·rw [if_neg c7] at H
    exact absurd H (by simp)
  ·rw [if_neg c5] at H
   exact absurd H (by simp)
end Go.Proofs.YthfphdbebnkdpaaDoor.P
end
section
namespace Go.Proofs.YthfphdbebnkdpaaDoor.P
open Go.RowKit Go.Proofs.YthfphdbebnkdpaaDoorW.aH Go.Proofs.YthfphdbebnkdpaaDoorW.aV Go.Proofs.YthfphdbebnkdpaaDoorW.bn
attribute [local go_sem] bR bS dn dw bB bC bU bV
set_option linter.unusedVariables false
set_option linter.unusedSimpArgs false
def cZ.l0 : Nat → List ByteArray → List (jd) → Int → Int → Option (List ByteArray)
 | 0, _, _, _, _ => none
 | k + 1, x5, x11, x12, x13 => if x13 < x12 then (if 0 ≤ x13 then (if x13 < (x11.length : Int) then ((fU.f ((gN x11 x13).f0) ((gN x11 x13).f1)).bind fun aX => (if x13 < (x5.length : Int) then (cZ.l0 k (x5.set (x13 : Int).toNat aX) x11 x12 (wrap64 (x13 + 1))) else (none))) else (none)) else (none)) else (some x5)
def cZ.f (k : Nat) (l0 : List (jd)) (a1 : Bool) : Option (List ByteArray) := if 0 ≤ (l0.length : Int) then (if ((l0.length : Int) : Int).toNat ≤ 17592186044416 then (cZ.l0 k (List.replicate ((l0.length : Int) : Int).toNat (⟨#[]⟩ : ByteArray)) l0 (l0.length : Int) 0) else (none)) else (none)
theorem cZ.dZ : ∀ k, (∀ y0 y1 y2 y3, LeO (cZ.l0 k y0 y1 y2 y3) (cZ.l0 (k + 1) y0 y1 y2 y3))
 | 0 => fun _ _ _ _ r h => by simp [cZ.l0] at h
 | k + 1 => by
  have ih0 := cZ.dZ k
  ·intro y0 y1 y2 y3
   unfold cZ.l0
   repeat' first
   | (with_reducible exact ih0 _ _ _ _)
   | (with_reducible exact LeO.refl _)
   | (with_reducible exact LeO.none _)
   | (with_reducible refine LeO.ite ?_ ?_)
   | (with_reducible refine LeO.bind ?_ (fun _ => ?_))
   | exact ih0 _ _ _ _
   | exact LeO.none _
   | refine LeO.ite ?_ ?_
   | refine LeO.bind ?_ (fun _ => ?_)
theorem cZ.mono : ∀ a0 a1 k, LeO (cZ.f k a0 a1) (cZ.f (k + 1) a0 a1) := by
 intro a0 a1 k
 have ih0 := cZ.dZ k
 unfold cZ.f
 repeat' first
   | (with_reducible exact ih0 _ _ _ _)
   | (with_reducible exact LeO.refl _)
   | (with_reducible exact LeO.none _)
   | (with_reducible refine LeO.ite ?_ ?_)
   | (with_reducible refine LeO.bind ?_ (fun _ => ?_))
   | exact ih0 _ _ _ _
   | exact LeO.none _
   | refine LeO.ite ?_ ?_
   | refine LeO.bind ?_ (fun _ => ?_)
set_option maxHeartbeats 8000000 in
set_option maxRecDepth 100000 in
theorem cZ.calls (k : Nat) (A0 : Option Addr) (c0 : Nat) (l0 : List (jd)) (a1 : Bool) (r : List ByteArray) (w : World) (hr0 : Kd.C mQ w A0 l0.length l0) (hc0 : l0.length ≤ c0) (h : cZ.f k l0 a1 = some r) (HGT : af (Go.Proofs.YthfphdbebnkdpaaDoorV.GT w)) :
  Calls Tryd.prog 153 #[.slice A0 l0.length c0, .func (.func 154) #[] #[]] w fun e w' => ∃ v0_ : Value, e = .returned (v0_) ∧ Kd.R Kd.string 9 w' w.heap.size (fun _ => True) v0_ r ∧ Below w.heap.size w w' := by
 have hu219 := Tryd.underlying219
 have HR0 := af.mk hr0
 have HC0 := af.mk hc0
 clear hr0 hc0
 have HB := af.mk (Below.refl w.heap.size w)
 have H : (if 0 ≤ (l0.length : Int) then (if ((l0.length : Int) : Int).toNat ≤ 17592186044416 then (cZ.l0 k (List.replicate ((l0.length : Int) : Int).toNat (⟨#[]⟩ : ByteArray)) l0 (l0.length : Int) 0) else (none)) else (none)) = some r := h
 clear h
 by_cases c3 : 0 ≤ (l0.length : Int)
 ·rw [if_pos c3] at H
  have gG := eq_true c3
  have gY : decide (0 ≤ (l0.length : Int)) = true := decide_eq_true c3
  clear c3
  by_cases c4 : ((l0.length : Int) : Int).toNat ≤ 17592186044416
  ·rw [if_pos c4] at H
   have ic := eq_true c4
   have iA : decide (((l0.length : Int) : Int).toNat ≤ 17592186044416) = true := decide_eq_true c4
   clear c4
   obtain ⟨y101, hy101⟩ : ∃ y_ : List ByteArray, y_ = (List.replicate ((l0.length : Int) : Int).toNat (⟨#[]⟩ : ByteArray)) := ⟨_, rfl⟩
   replace H : (cZ.l0 k y101 l0 (l0.length : Int) 0) = some r := by first | (rw [hy101]; with_reducible exact H) | (have H2_ := (Option.bind_some _ _).symm.trans H; rw [hy101]; with_reducible exact H2_) | (have H2_ := (Option.bind_some _ _).symm.trans H; with_reducible exact H2_) | with_reducible exact H | (rw [hy101]; exact H) | exact H
   have Ny101 := af.mk hy101
   clear hy101
   have H' := af.mk H
   clear H
   go_enter Tryd.func153, Tryd.ntmps153
   go_wp2_with (first | ((with_reducible refine aU (N := 10) rfl ?_); refine Kd.jh Kd.string _ 9 rfl (N := 10) rfl 72 _ _ rfl (l0.length : Int) rfl rfl Tryd.underlying72 (.string ⟨#[]⟩) 16 lq rfl (by decide) (by omega) (⟨#[]⟩ : ByteArray) (ok := fun _ => True) (okp := fun _ => True) rfl (fun _ hk => hk) trivial (of_decide_eq_true qa) (Nat.le_trans (Nat.mul_le_mul_right _ (of_decide_eq_true qa : (l0.length : Int).toNat ≤ 17592186044416)) (by omega)) (Below.refl _ _) (Nat.le_refl _) ?_; intro v102 w5 ho6 hb hg_ hnew_; clear hg_ hnew_; (first | rw [← Ny101.out] at ho6 | (simp only [Int.reduceToNat] at ho6; rw [← Ny101.out] at ho6)); have eD := af.mk (Kd.dI ho6 (bg (qw HB))); replace HB := af.mk (ai (qw HB) hb); clear hb ho6))
   go_loopg [13] k (fun kq v13 w' => ∃ (bO : List ByteArray) (au : Int), v13 = .int .i64 au ∧ af (cZ.l0 kq bO l0 (l0.length : Int) au = some r) ∧ af (kq ≤ k) ∧ af (Kd.R Kd.string 9 w' w.heap.size (fun _ => True) v102 bO) ∧ af (Below w.heap.size w w'))
   case atStart => exact ⟨(y101), (0), (by first | rfl | (simp; done) | (simp [*]; done)), H', ⟨Nat.le_refl _⟩, ⟨by (with_reducible repeat (first | apply Kd.cB | apply Kd.cK | apply Kd.dD)); exact eD.out⟩, ⟨by repeat (first | (with_reducible first | exact HB.out | apply aA | apply aj | apply av) | exact HB.out)⟩⟩
   case round =>
    clear H'
    try clear c1
    try clear p2
    try clear c3
    try clear gG
    try clear gY
    try clear c4
    try clear ic
    try clear iA
    obtain ⟨bO, au, rfl, HA, HK1, dN, HB⟩ := hrel
    cases gk with
    | zero => exact absurd HA.out (by simp [cZ.l0])
    | succ k1 =>
     have H := HA.out
     clear HA
     simp only [cZ.l0] at H
     by_cases c7 : au < (l0.length : Int)
     ·rw [if_pos c7] at H
      have iZ : decide (au < (l0.length : Int)) = true := decide_eq_true c7
      clear c7
      by_cases c8 : 0 ≤ au
      ·rw [if_pos c8] at H
       have jM : decide (0 ≤ au) = true := decide_eq_true c8
       clear c8
       by_cases c9 : au < (l0.length : Int)
       ·rw [if_pos c9] at H
        have kT : decide (au < (l0.length : Int)) = true := decide_eq_true c9
        clear c9
        replace H := Option.bind_eq_some_iff.mp H
        obtain ⟨aX, A100, H⟩ := H
        replace H : (if au < (bO.length : Int) then (cZ.l0 k1 (bO.set (au : Int).toNat aX) l0 (l0.length : Int) (wrap64 (au + 1))) else (none)) = some r := H
        have A10 := af.mk A100
        clear A100
        by_cases c11 : au < (bO.length : Int)
        ·rw [if_pos c11] at H
         have jC : decide (au < (bO.length : Int)) = true := decide_eq_true c11
         clear c11
         obtain ⟨y107, hy107⟩ : ∃ y_ : List ByteArray, y_ = (bO.set (au : Int).toNat aX) := ⟨_, rfl⟩
         replace H : (cZ.l0 k1 y107 l0 (l0.length : Int) (wrap64 (au + 1))) = some r := by first | (rw [hy107]; with_reducible exact H) | (have H2_ := (Option.bind_some _ _).symm.trans H; rw [hy107]; with_reducible exact H2_) | (have H2_ := (Option.bind_some _ _).symm.trans H; with_reducible exact H2_) | with_reducible exact H | (rw [hy107]; exact H) | exact H
         have Ny107 := af.mk hy107
         clear hy107
         have H' := af.mk H
         clear H
         have p104 : 0 ≤ (au : Int) := of_decide_eq_true qa
         have q104 : au < (l0.length : Int) := of_decide_eq_true qa
         obtain ⟨ad104, e104, hx104_0, hx104_1⟩ := uM HR0.out au p104 q104
         cases e104
         replace hx104_0 := (HB.out.cell (World.block_lt_of_cell? w _ hx104_0)).trans hx104_0
         replace hx104_1 := (HB.out.cell (World.block_lt_of_cell? w _ hx104_1)).trans hx104_1
         replace p104 := eq_true p104
         replace q104 := eq_true q104
         go_wp2_with (first | ((with_reducible refine aU (N := 7) rfl ?_); refine bz ?hg (N := 7) ?hd (cs := #[.string (⟨#[]⟩ : ByteArray), .int .i64 0]) (t := 219) ?hr ?_; (case hd => rfl); (case hg => rfl); (case hr => first | (go_simp; done) | (go_simp; rfl)); intro dB hg w13 hbox hb; replace dN := af.mk (Kd.bH (qr dN) hb); have bD := af.mk (hbox); have GW105 := qge HB hg; have jN := qge HB hg; replace HB := af.mk (ai (qw HB) hb); clear hb hbox hg; have hcz14_0 : w13.cell? ⟨dB, 0, none⟩ = some (.string (⟨#[]⟩ : ByteArray)) := (ae bD.out 0).trans rfl; have hcz14_1 : w13.cell? ⟨dB, 1, none⟩ = some (.int .i64 0) := (ae bD.out 1).trans rfl; have hfz14_0 := ah bD.out 0; have hfz14_1 := ah bD.out 1) | ((with_reducible refine Go.Proofs.YthfphdbebnkdpaaDoorV.gz (s := 20) rfl ?_); refine Go.Proofs.YthfphdbebnkdpaaDoorV.jB (some 22) rfl rfl Tryd.func154 (by kernel_rfl) rfl #[.agg #[.string ((gN l0 au).f0), .int .i64 ((gN l0 au).f1)]] rfl qt ?_; (with_reducible refine (fU.calls ((gN l0 au).f0) ((gN l0 au).f1) aX _ A10.out ?gt).mono ?_); (case gt => exact Go.Proofs.YthfphdbebnkdpaaDoorV.GT.below HGT (qw HB)); rintro e w15 ⟨rfl, hb⟩; refine ⟨_, rfl, ?_⟩; replace dN := af.mk (Kd.bH (by (with_reducible repeat (first | apply Kd.cB | apply Kd.cK | apply Kd.dD)); exact (Kd.fG (Kd.gy (p := ⟨dB, 1, none⟩) (Kd.gy (p := ⟨dB, 0, none⟩) (Kd.jR dN.out bD.out (by decide)) (fun _ hk => hk.2) (.string ((gN l0 au).f0))) (fun _ hk => hk.2) (.int .i64 ((gN l0 au).f1))) (fun _ h_ => h_.1))) hb); replace bD := af.mk (gX (g := dB) (o := .cells #[.string ((gN l0 au).f0), .int .i64 ((gN l0 au).f1)] 219 (0, 0)) (by refine cO (cs := #[.string ((gN l0 au).f0), .int .i64 0]) ?_ 1 _ rfl; refine cO (cs := #[.string (⟨#[]⟩ : ByteArray), .int .i64 0]) ?_ 0 _ rfl; (with_reducible repeat (first | refine fK ?_ _ | refine dC ?_ | refine fJ ?_ _)); exact bD.out) hb); replace HB := af.mk (ai (qw HB) hb); (try clear hb); (try clear hb2); (try clear hk); (try clear hi); have p12 : 0 ≤ (au : Int) := of_decide_eq_true qa; have q12 : (au : Int) < ((bO.length : Int) : Int) := of_decide_eq_true qa; obtain ⟨go12, jk, iy, jl, gl12, cl12, HG12⟩ := Kd.jg dN.out (by omega); (first | cases iy | (injection iy with ea_ en_ ec_; (first | subst ea_ | (injection ea_ with ea_; subst ea_)); subst ec_; clear en_)); have kV := af.mk jl; have GG12 := af.mk HG12; clear jl gl12 HG12; obtain ⟨hx12_0, hf12_0⟩ := Kd.fD (⟨#[]⟩ : ByteArray) dN.out (au : Int) p12 q12; replace p12 := eq_true p12; replace q12 := eq_true q12; obtain ⟨hy16_, hz16_⟩ := Kd.fD (⟨#[]⟩ : ByteArray) dN.out (au : Int) (of_decide_eq_true qa) (of_decide_eq_true qa); have HP16 := Kd.ji dN.out (au : Int) aX) | ((with_reducible refine fZ (t := 9) (p := 23) rfl ?_); refine fH (t := 9) (p := 23) (v := ?vo_w17) (w1 := (w15.setCell ⟨go12, (au : Int).toNat, none⟩ (.string aX))) ?hg ?ho ?hn ?hr ?_; (case ho => rfl); (case hg => rfl); (case hn => rfl); (case hr => first | (go_simp; done) | (go_simp; rfl)); intro w17 hw; have hg : w15.grownBy w17 (some go12) := (by rw [hw]; exact HP16.2); have hp_ : Kd.R Kd.string 9 w17 w.heap.size (fun _ => True) (.slice (some ⟨go12, 0, none⟩) bO.length jk) y107 := (by rw [hw, Ny107.out]; exact HP16.1); clear HP16; replace bD := af.mk (iQ (g := dB) (o := .cells #[.string ((gN l0 au).f0), .int .i64 ((gN l0 au).f1)] 219 (0, 0)) (qb bD) hg (Kd.pO dN.out bD.out (by decide))); replace dN := af.mk (hp_); replace HB := af.mk ((by rw [hw]; exact bi (HB.out) kV.out : Below w.heap.size w w17)); clear hg hw hp_))
         go_roundg k1
         case measure => have := HK1.out; omega
         case rel => exact ⟨(y107), (wrap64 (au + 1)), (by first | rfl | (simp; done) | (simp [*]; done)), H', ⟨by have := HK1.out; omega⟩, ⟨by (with_reducible repeat (first | apply Kd.cB | apply Kd.cK | apply Kd.dD)); exact dN.out⟩, ⟨by repeat (first | (with_reducible first | exact HB.out | apply aA | apply aj | apply av | refine bi ?_ jN.out) | exact HB.out)⟩⟩
        ·rw [if_neg c11] at H
         exact absurd H (by simp)
       ·rw [if_neg c9] at H
        exact absurd H (by simp)
      ·rw [if_neg c8] at H
       exact absurd H (by simp)
     ·rw [if_neg c7] at H
      have iZ : decide (au < (l0.length : Int)) = false := decide_eq_false c7
      clear c7
      obtain rfl := Option.some.inj H
      go_wp2
      go_ret
      exact ⟨_, by first | rfl | (simp [errW_none, errW_some] <;> rfl) | (simp [*, errW_none, errW_some] <;> rfl), by (with_reducible repeat (first | apply Kd.cB | apply Kd.cK | apply Kd.dD)); exact dN.out, by repeat (first | (with_reducible first | exact HB.out | apply aA | apply aj | apply av) | exact HB.out)⟩
  ·rw [if_neg c4] at H
   exact absurd H (by simp)
 ·rw [if_neg c3] at H
  exact absurd H (by simp)
end Go.Proofs.YthfphdbebnkdpaaDoor.P
end
section
namespace Go.Proofs.YthfphdbebnkdpaaDoor.P
open Go.RowKit Go.Proofs.YthfphdbebnkdpaaDoorW.aH Go.Proofs.YthfphdbebnkdpaaDoorW.aV Go.Proofs.YthfphdbebnkdpaaDoorW.bn
attribute [local go_sem] bR bS dn dw bB bC bU bV
set_option linter.unusedVariables false
set_option linter.unusedSimpArgs false
def fB.f (k : Nat) (l0 : List (jd)) : Option (ByteArray) := (cZ.f k l0 p8).bind fun dG => ((strings_Join.f dG (⟨#[44, 32]⟩ : ByteArray)).bind fun bf => (some bf))
theorem fB.mono : ∀ a0 k, LeO (fB.f k a0) (fB.f (k + 1) a0) := by
 intro a0 k
 unfold fB.f
 repeat' first
   | (with_reducible exact cZ.mono _ _ _)
   | (with_reducible exact LeO.refl _)
   | (with_reducible exact LeO.none _)
   | (with_reducible refine LeO.ite ?_ ?_)
   | (with_reducible refine LeO.bind ?_ (fun _ => ?_))
   | exact cZ.mono _ _ _
   | exact LeO.none _
   | refine LeO.ite ?_ ?_
   | refine LeO.bind ?_ (fun _ => ?_)
set_option maxHeartbeats 8000000 in
set_option maxRecDepth 100000 in
theorem fB.calls (k : Nat) (A0 : Option Addr) (c0 : Nat) (l0 : List (jd)) (r : ByteArray) (w : World) (hr0 : Kd.C mQ w A0 l0.length l0) (hc0 : l0.length ≤ c0) (h : fB.f k l0 = some r) (HGT : af (Go.Proofs.YthfphdbebnkdpaaDoorV.GT w)) :
  Calls Tryd.prog 131 #[.slice A0 l0.length c0] w fun e w' => e = .returned (.string r) ∧ Below w.heap.size w w' := by
 have HR0 := af.mk hr0
 have HC0 := af.mk hc0
 clear hr0 hc0
 have HB := af.mk (Below.refl w.heap.size w)
 have H : ((cZ.f k l0 p8).bind fun dG => ((strings_Join.f dG (⟨#[44, 32]⟩ : ByteArray)).bind fun bf => (some bf))) = some r := h
 clear h
 replace H := Option.bind_eq_some_iff.mp H
 obtain ⟨dG, A20, H⟩ := H
 replace H : ((strings_Join.f dG (⟨#[44, 32]⟩ : ByteArray)).bind fun bf => (some bf)) = some r := H
 have A2 := af.mk A20
 clear A20
 replace H := Option.bind_eq_some_iff.mp H
 obtain ⟨bf, A30, H⟩ := H
 replace H : (some bf) = some r := H
 have A3 := af.mk A30
 clear A30
 obtain rfl := Option.some.inj H
 go_enter Tryd.func131, Tryd.ntmps131
 go_wp2_with (first | ((with_reducible refine aN (f := 153) rfl ?_); refine cu (some 4) rfl rfl Tryd.func153 (by kernel_rfl) rfl #[.slice A0 l0.length c0, .func (.func 154) #[] #[]] rfl qt ?_; (with_reducible refine (cZ.calls k _ _ l0 p8 dG _ ?bI ?bJ A2.out ?gt).mono ?_); (case gt => exact Go.Proofs.YthfphdbebnkdpaaDoorV.GT.below HGT (qw HB)); (case bI => exact qs (HR0.out)); (case bJ => exact HC0.out); rintro e w4 ⟨v102, rfl, ho0, hb⟩; refine ⟨_, rfl, ?_⟩; have eD := af.mk (Kd.dI ho0 (bg (qw HB))); replace HB := af.mk (ai (qw HB) hb); (try clear hb); (try clear hb2); (try clear hk); (try clear hi); (try clear ho0); obtain ⟨Ao5, co5, eo5⟩ := Kd.dW eD.out; subst eo5) | ((with_reducible refine aN (f := 45) rfl ?_); refine cu (some 5) rfl rfl Tryd.func45 (by kernel_rfl) rfl #[.slice Ao5 dG.length co5, .string (⟨#[44, 32]⟩ : ByteArray)] rfl qt ?_; (with_reducible refine (strings_Join.calls _ _ dG (⟨#[44, 32]⟩ : ByteArray) bf _ ?bI ?bJ A3.out).mono ?_); (case bI => exact qs ((Kd.aZ eD.out).2.2)); (case bJ => exact (Kd.aZ eD.out).2.1); rintro e w6 ⟨rfl, hb⟩; refine ⟨_, rfl, ?_⟩; replace eD := af.mk (Kd.bH (qr eD) hb); replace HB := af.mk (ai (qw HB) hb); (try clear hb); (try clear hb2); (try clear hk); (try clear hi)))
 go_ret
 exact ⟨by first | rfl | (simp [errW_none, errW_some] <;> rfl) | (simp [*, errW_none, errW_some] <;> rfl), by repeat (first | (with_reducible first | exact HB.out | apply aA | apply aj | apply av) | exact HB.out)⟩
end Go.Proofs.YthfphdbebnkdpaaDoor.P
end
section
namespace Go.Proofs.YthfphdbebnkdpaaDoor.P
open Go.RowKit Go.Proofs.YthfphdbebnkdpaaDoorW.aH Go.Proofs.YthfphdbebnkdpaaDoorW.aV Go.Proofs.YthfphdbebnkdpaaDoorW.bn
attribute [local go_sem] bR bS dn dw bB bC bU bV
set_option linter.unusedVariables false
set_option linter.unusedSimpArgs false
def bP.l0 : Nat → List ByteArray → List (List (jd)) → Int → Int → Option (List ByteArray)
 | 0, _, _, _, _ => none
 | k + 1, x5, x11, x12, x13 => if x13 < x12 then (if 0 ≤ x13 then (if x13 < (x11.length : Int) then ((fB.f k (kQ x11 x13)).bind fun t105 => (if x13 < (x5.length : Int) then (bP.l0 k (x5.set (x13 : Int).toNat t105) x11 x12 (wrap64 (x13 + 1))) else (none))) else (none)) else (none)) else (some x5)
def bP.f (k : Nat) (l0 : List (List (jd))) (a1 : Bool) : Option (List ByteArray) := if 0 ≤ (l0.length : Int) then (if ((l0.length : Int) : Int).toNat ≤ 17592186044416 then (bP.l0 k (List.replicate ((l0.length : Int) : Int).toNat (⟨#[]⟩ : ByteArray)) l0 (l0.length : Int) 0) else (none)) else (none)
theorem bP.dZ : ∀ k, (∀ y0 y1 y2 y3, LeO (bP.l0 k y0 y1 y2 y3) (bP.l0 (k + 1) y0 y1 y2 y3))
 | 0 => fun _ _ _ _ r h => by simp [bP.l0] at h
 | k + 1 => by
  have ih0 := bP.dZ k
  ·intro y0 y1 y2 y3
   unfold bP.l0
   repeat' first
   | (with_reducible exact ih0 _ _ _ _)
   | (with_reducible exact fB.mono _ _)
   | (with_reducible exact LeO.refl _)
   | (with_reducible exact LeO.none _)
   | (with_reducible refine LeO.ite ?_ ?_)
   | (with_reducible refine LeO.bind ?_ (fun _ => ?_))
   | exact ih0 _ _ _ _
   | exact fB.mono _ _
   | exact LeO.none _
   | refine LeO.ite ?_ ?_
   | refine LeO.bind ?_ (fun _ => ?_)
theorem bP.mono : ∀ a0 a1 k, LeO (bP.f k a0 a1) (bP.f (k + 1) a0 a1) := by
 intro a0 a1 k
 have ih0 := bP.dZ k
 unfold bP.f
 repeat' first
   | (with_reducible exact ih0 _ _ _ _)
   | (with_reducible exact fB.mono _ _)
   | (with_reducible exact LeO.refl _)
   | (with_reducible exact LeO.none _)
   | (with_reducible refine LeO.ite ?_ ?_)
   | (with_reducible refine LeO.bind ?_ (fun _ => ?_))
   | exact ih0 _ _ _ _
   | exact fB.mono _ _
   | exact LeO.none _
   | refine LeO.ite ?_ ?_
   | refine LeO.bind ?_ (fun _ => ?_)
set_option maxHeartbeats 8000000 in
set_option maxRecDepth 100000 in
theorem bP.calls (k : Nat) (A0 : Option Addr) (c0 : Nat) (l0 : List (List (jd))) (a1 : Bool) (r : List ByteArray) (w : World) (hr0 : Kd.C (Kd.slice 219 mQ) w A0 l0.length l0) (hc0 : l0.length ≤ c0) (h : bP.f k l0 a1 = some r) (HGT : af (Go.Proofs.YthfphdbebnkdpaaDoorV.GT w)) :
  Calls Tryd.prog 130 #[.slice A0 l0.length c0, .func (.func 131) #[] #[]] w fun e w' => ∃ v0_ : Value, e = .returned (v0_) ∧ Kd.R Kd.string 9 w' w.heap.size (fun _ => True) v0_ r ∧ Below w.heap.size w w' := by
 have HR0 := af.mk hr0
 have HC0 := af.mk hc0
 clear hr0 hc0
 have HB := af.mk (Below.refl w.heap.size w)
 have H : (if 0 ≤ (l0.length : Int) then (if ((l0.length : Int) : Int).toNat ≤ 17592186044416 then (bP.l0 k (List.replicate ((l0.length : Int) : Int).toNat (⟨#[]⟩ : ByteArray)) l0 (l0.length : Int) 0) else (none)) else (none)) = some r := h
 clear h
 by_cases c3 : 0 ≤ (l0.length : Int)
 ·rw [if_pos c3] at H
  have gG := eq_true c3
  have gY : decide (0 ≤ (l0.length : Int)) = true := decide_eq_true c3
  clear c3
  by_cases c4 : ((l0.length : Int) : Int).toNat ≤ 17592186044416
  ·rw [if_pos c4] at H
   have ic := eq_true c4
   have iA : decide (((l0.length : Int) : Int).toNat ≤ 17592186044416) = true := decide_eq_true c4
   clear c4
   obtain ⟨y101, hy101⟩ : ∃ y_ : List ByteArray, y_ = (List.replicate ((l0.length : Int) : Int).toNat (⟨#[]⟩ : ByteArray)) := ⟨_, rfl⟩
   replace H : (bP.l0 k y101 l0 (l0.length : Int) 0) = some r := by first | (rw [hy101]; with_reducible exact H) | (have H2_ := (Option.bind_some _ _).symm.trans H; rw [hy101]; with_reducible exact H2_) | (have H2_ := (Option.bind_some _ _).symm.trans H; with_reducible exact H2_) | with_reducible exact H | (rw [hy101]; exact H) | exact H
   have Ny101 := af.mk hy101
   clear hy101
   have H' := af.mk H
   clear H
   go_enter Tryd.func130, Tryd.ntmps130
   go_wp2_with (first | ((with_reducible refine aU (N := 10) rfl ?_); refine Kd.jh Kd.string _ 9 rfl (N := 10) rfl 72 _ _ rfl (l0.length : Int) rfl rfl Tryd.underlying72 (.string ⟨#[]⟩) 16 lq rfl (by decide) (by omega) (⟨#[]⟩ : ByteArray) (ok := fun _ => True) (okp := fun _ => True) rfl (fun _ hk => hk) trivial (of_decide_eq_true qa) (Nat.le_trans (Nat.mul_le_mul_right _ (of_decide_eq_true qa : (l0.length : Int).toNat ≤ 17592186044416)) (by omega)) (Below.refl _ _) (Nat.le_refl _) ?_; intro v102 w5 ho6 hb hg_ hnew_; clear hg_ hnew_; (first | rw [← Ny101.out] at ho6 | (simp only [Int.reduceToNat] at ho6; rw [← Ny101.out] at ho6)); have eD := af.mk (Kd.dI ho6 (bg (qw HB))); replace HB := af.mk (ai (qw HB) hb); clear hb ho6))
   go_loopg [13] k (fun kq v13 w' => ∃ (bO : List ByteArray) (au : Int), v13 = .int .i64 au ∧ af (bP.l0 kq bO l0 (l0.length : Int) au = some r) ∧ af (kq ≤ k) ∧ af (Kd.R Kd.string 9 w' w.heap.size (fun _ => True) v102 bO) ∧ af (Below w.heap.size w w'))
   case atStart => exact ⟨(y101), (0), (by first | rfl | (simp; done) | (simp [*]; done)), H', ⟨Nat.le_refl _⟩, ⟨by (with_reducible repeat (first | apply Kd.cB | apply Kd.cK | apply Kd.dD)); exact eD.out⟩, ⟨by repeat (first | (with_reducible first | exact HB.out | apply aA | apply aj | apply av) | exact HB.out)⟩⟩
   case round =>
    clear H'
    try clear c1
    try clear p2
    try clear c3
    try clear gG
    try clear gY
    try clear c4
    try clear ic
    try clear iA
    obtain ⟨bO, au, rfl, HA, HK1, dN, HB⟩ := hrel
    cases gk with
    | zero => exact absurd HA.out (by simp [bP.l0])
    | succ k1 =>
     have H := HA.out
     clear HA
     simp only [bP.l0] at H
     by_cases c7 : au < (l0.length : Int)
     ·rw [if_pos c7] at H
      have iZ : decide (au < (l0.length : Int)) = true := decide_eq_true c7
      clear c7
      by_cases c8 : 0 ≤ au
      ·rw [if_pos c8] at H
       have jM : decide (0 ≤ au) = true := decide_eq_true c8
       clear c8
       by_cases c9 : au < (l0.length : Int)
       ·rw [if_pos c9] at H
        have kT : decide (au < (l0.length : Int)) = true := decide_eq_true c9
        clear c9
        replace H := Option.bind_eq_some_iff.mp H
        obtain ⟨t105, A100, H⟩ := H
        replace H : (if au < (bO.length : Int) then (bP.l0 k1 (bO.set (au : Int).toNat t105) l0 (l0.length : Int) (wrap64 (au + 1))) else (none)) = some r := H
        have A10 := af.mk A100
        clear A100
        by_cases c11 : au < (bO.length : Int)
        ·rw [if_pos c11] at H
         have jC : decide (au < (bO.length : Int)) = true := decide_eq_true c11
         clear c11
         obtain ⟨y106, hy106⟩ : ∃ y_ : List ByteArray, y_ = (bO.set (au : Int).toNat t105) := ⟨_, rfl⟩
         replace H : (bP.l0 k1 y106 l0 (l0.length : Int) (wrap64 (au + 1))) = some r := by first | (rw [hy106]; with_reducible exact H) | (have H2_ := (Option.bind_some _ _).symm.trans H; rw [hy106]; with_reducible exact H2_) | (have H2_ := (Option.bind_some _ _).symm.trans H; with_reducible exact H2_) | with_reducible exact H | (rw [hy106]; exact H) | exact H
         have Ny106 := af.mk hy106
         clear hy106
         have H' := af.mk H
         clear H
         have p104 : 0 ≤ (au : Int) := of_decide_eq_true qa
         have q104 : au < (l0.length : Int) := of_decide_eq_true qa
         obtain ⟨ad104, wL, c104_0, e104, hx104_0, hl104_0, hi104_0⟩ := wh HR0.out au p104 q104
         cases e104
         replace hx104_0 := (HB.out.cell (World.block_lt_of_cell? w _ hx104_0)).trans hx104_0
         have vk := af.mk hi104_0
         have vo := af.mk hl104_0
         clear hi104_0 hl104_0
         replace p104 := eq_true p104
         replace q104 := eq_true q104
         go_wp2_with (first | ((with_reducible refine Go.Proofs.YthfphdbebnkdpaaDoorV.gz (s := 20) rfl ?_); refine Go.Proofs.YthfphdbebnkdpaaDoorV.jB (some 22) rfl rfl Tryd.func131 (by kernel_rfl) rfl #[.slice wL (kQ l0 au).length c104_0] rfl qt ?_; (with_reducible refine (fB.calls k1 _ _ (kQ l0 au) t105 _ ?bI ?bJ A10.out ?gt).mono ?_); (case gt => exact Go.Proofs.YthfphdbebnkdpaaDoorV.GT.below HGT (qw HB)); (case bI => exact qs ((Kd.eY vk.out HB.out))); (case bJ => exact vo.out); rintro e w13 ⟨rfl, hb⟩; refine ⟨_, rfl, ?_⟩; replace dN := af.mk (Kd.bH (qr dN) hb); replace HB := af.mk (ai (qw HB) hb); (try clear hb); (try clear hb2); (try clear hk); (try clear hi); have p12 : 0 ≤ (au : Int) := of_decide_eq_true qa; have q12 : (au : Int) < ((bO.length : Int) : Int) := of_decide_eq_true qa; obtain ⟨go12, jk, iy, jl, gl12, cl12, HG12⟩ := Kd.jg dN.out (by omega); (first | cases iy | (injection iy with ea_ en_ ec_; (first | subst ea_ | (injection ea_ with ea_; subst ea_)); subst ec_; clear en_)); have kV := af.mk jl; have GG12 := af.mk HG12; clear jl gl12 HG12; obtain ⟨hx12_0, hf12_0⟩ := Kd.fD (⟨#[]⟩ : ByteArray) dN.out (au : Int) p12 q12; replace p12 := eq_true p12; replace q12 := eq_true q12; obtain ⟨hy14_, hz14_⟩ := Kd.fD (⟨#[]⟩ : ByteArray) dN.out (au : Int) (of_decide_eq_true qa) (of_decide_eq_true qa); have HP14 := Kd.ji dN.out (au : Int) t105) | ((with_reducible refine fZ (t := 9) (p := 23) rfl ?_); refine fH (t := 9) (p := 23) (v := ?vo_w15) (w1 := (w13.setCell ⟨go12, (au : Int).toNat, none⟩ (.string t105))) ?hg ?ho ?hn ?hr ?_; (case ho => rfl); (case hg => rfl); (case hn => rfl); (case hr => first | (go_simp; done) | (go_simp; rfl)); intro w15 hw; have hg : w13.grownBy w15 (some go12) := (by rw [hw]; exact HP14.2); have hp_ : Kd.R Kd.string 9 w15 w.heap.size (fun _ => True) (.slice (some ⟨go12, 0, none⟩) bO.length jk) y106 := (by rw [hw, Ny106.out]; exact HP14.1); clear HP14; replace dN := af.mk (hp_); replace HB := af.mk ((by rw [hw]; exact bi (HB.out) kV.out : Below w.heap.size w w15)); clear hg hw hp_))
         go_roundg k1
         case measure => have := HK1.out; omega
         case rel => exact ⟨(y106), (wrap64 (au + 1)), (by first | rfl | (simp; done) | (simp [*]; done)), H', ⟨by have := HK1.out; omega⟩, ⟨by (with_reducible repeat (first | apply Kd.cB | apply Kd.cK | apply Kd.dD)); exact dN.out⟩, ⟨by repeat (first | (with_reducible first | exact HB.out | apply aA | apply aj | apply av) | exact HB.out)⟩⟩
        ·rw [if_neg c11] at H
         exact absurd H (by simp)
       ·rw [if_neg c9] at H
        exact absurd H (by simp)
      ·rw [if_neg c8] at H
       exact absurd H (by simp)
     ·rw [if_neg c7] at H
      have iZ : decide (au < (l0.length : Int)) = false := decide_eq_false c7
      clear c7
      obtain rfl := Option.some.inj H
      go_wp2
      go_ret
      exact ⟨_, by first | rfl | (simp [errW_none, errW_some] <;> rfl) | (simp [*, errW_none, errW_some] <;> rfl), by (with_reducible repeat (first | apply Kd.cB | apply Kd.cK | apply Kd.dD)); exact dN.out, by repeat (first | (with_reducible first | exact HB.out | apply aA | apply aj | apply av) | exact HB.out)⟩
  ·rw [if_neg c4] at H
   exact absurd H (by simp)
 ·rw [if_neg c3] at H
  exact absurd H (by simp)
end Go.Proofs.YthfphdbebnkdpaaDoor.P
end
section
namespace Go.Proofs.YthfphdbebnkdpaaDoor.P
open Go.RowKit Go.Proofs.YthfphdbebnkdpaaDoorW.aH Go.Proofs.YthfphdbebnkdpaaDoorW.aV Go.Proofs.YthfphdbebnkdpaaDoorW.bn
attribute [local go_sem] bR bS dn dw bB bC bU bV
set_option linter.unusedVariables false
set_option linter.unusedSimpArgs false
def dR.f (k : Nat) (aJ : ByteArray) (aD : Int) (bL : Int) (aR : Bool) (ig : List (List (jd))) : Option (ByteArray) := (dA.f k aD bL).bind fun aQ => ((aM.f (([(⟨#[114, 117, 108, 101]⟩ : ByteArray), aJ, aQ] : List ByteArray))).bind fun aX => (if aR = true then ((aM.f (([aX, (⟨#[100, 114, 111, 112]⟩ : ByteArray)] : List ByteArray))).bind fun fq => (if fq.size + 1 ≤ 9223372036854775807 then (some (fq ++ (⟨#[59]⟩ : ByteArray))) else (none))) else ((bP.f k ig kS).bind fun gI => ((strings_Join.f gI (⟨#[32, 101, 108, 115, 101, 32]⟩ : ByteArray)).bind fun iB => ((aM.f (([aX, (⟨#[118, 105, 97]⟩ : ByteArray), iB] : List ByteArray))).bind fun ik => (if ik.size + 1 ≤ 9223372036854775807 then (some (ik ++ (⟨#[59]⟩ : ByteArray))) else (none)))))))
theorem dR.mono : ∀ a0 a1 a2 a3 a4 k, LeO (dR.f k a0 a1 a2 a3 a4) (dR.f (k + 1) a0 a1 a2 a3 a4) := by
 intro a0 a1 a2 a3 a4 k
 unfold dR.f
 repeat' first
   | (with_reducible exact dA.mono _ _ _)
   | (with_reducible exact bP.mono _ _ _)
   | (with_reducible exact LeO.refl _)
   | (with_reducible exact LeO.none _)
   | (with_reducible refine LeO.ite ?_ ?_)
   | (with_reducible refine LeO.bind ?_ (fun _ => ?_))
   | exact dA.mono _ _ _
   | exact bP.mono _ _ _
   | exact LeO.none _
   | refine LeO.ite ?_ ?_
   | refine LeO.bind ?_ (fun _ => ?_)
def dR.T1 : Bool × List (List Nat × List Nat) := (true, [([], []), ([0], [0]), ([], []), ([2], [2]), ([3], [3]), ([1, 4], [1, 4]), ([5, 4], [5]), ([6, 6, 0, 1, 2, 3, 4, 5, 6], [6])])
def dR.B1 : List Nat := [0, 1, 0, 4, 12, 31, 63, 127]
theorem dR.mg : gK .any (opsOf Tryd.f103 1) = dR.T1 := by kernel_rfl
theorem dR.jV : fM dR.T1.2 dR.B1 = true := by kernel_rfl
set_option maxHeartbeats 8000000 in
set_option maxRecDepth 100000 in
theorem dR.calls (k : Nat) (aJ : ByteArray) (aD : Int) (bL : Int) (aR : Bool) (kW : Option Addr) (c0_4 : Nat) (ig : List (List (jd))) (r : ByteArray) (w : World) (hr0_4 : Kd.C (Kd.slice 219 mQ) w kW ig.length ig) (hc0_4 : ig.length ≤ c0_4) (h : dR.f k aJ aD bL aR ig = some r) (HGT : af (Go.Proofs.YthfphdbebnkdpaaDoorV.GT w)) :
  Calls Tryd.prog 103 #[.agg #[.string aJ, .int .u32 aD, .int .i64 bL, .bool aR, .slice kW ig.length c0_4]] w fun e w' => e = .returned (.string r) ∧ Below w.heap.size w w' := by
 have hu156 := Tryd.underlying156
 have hu40 := Tryd.underlying40
 have ug := af.mk hr0_4
 have uh := af.mk hc0_4
 clear hr0_4 hc0_4
 have HB := af.mk (Below.refl w.heap.size w)
 have H : ((dA.f k aD bL).bind fun aQ => ((aM.f (([(⟨#[114, 117, 108, 101]⟩ : ByteArray), aJ, aQ] : List ByteArray))).bind fun aX => (if aR = true then ((aM.f (([aX, (⟨#[100, 114, 111, 112]⟩ : ByteArray)] : List ByteArray))).bind fun fq => (if fq.size + 1 ≤ 9223372036854775807 then (some (fq ++ (⟨#[59]⟩ : ByteArray))) else (none))) else ((bP.f k ig kS).bind fun gI => ((strings_Join.f gI (⟨#[32, 101, 108, 115, 101, 32]⟩ : ByteArray)).bind fun iB => ((aM.f (([aX, (⟨#[118, 105, 97]⟩ : ByteArray), iB] : List ByteArray))).bind fun ik => (if ik.size + 1 ≤ 9223372036854775807 then (some (ik ++ (⟨#[59]⟩ : ByteArray))) else (none)))))))) = some r := h
 clear h
 replace H := Option.bind_eq_some_iff.mp H
 obtain ⟨aQ, A20, H⟩ := H
 replace H : ((aM.f (([(⟨#[114, 117, 108, 101]⟩ : ByteArray), aJ, aQ] : List ByteArray))).bind fun aX => (if aR = true then ((aM.f (([aX, (⟨#[100, 114, 111, 112]⟩ : ByteArray)] : List ByteArray))).bind fun fq => (if fq.size + 1 ≤ 9223372036854775807 then (some (fq ++ (⟨#[59]⟩ : ByteArray))) else (none))) else ((bP.f k ig kS).bind fun gI => ((strings_Join.f gI (⟨#[32, 101, 108, 115, 101, 32]⟩ : ByteArray)).bind fun iB => ((aM.f (([aX, (⟨#[118, 105, 97]⟩ : ByteArray), iB] : List ByteArray))).bind fun ik => (if ik.size + 1 ≤ 9223372036854775807 then (some (ik ++ (⟨#[59]⟩ : ByteArray))) else (none))))))) = some r := H
 have A2 := af.mk A20
 clear A20
 obtain ⟨y103, hy103⟩ : ∃ y_ : List ByteArray, y_ = (([(⟨#[114, 117, 108, 101]⟩ : ByteArray), aJ, aQ] : List ByteArray)) := ⟨_, rfl⟩
 replace H : ((aM.f y103).bind fun aX => (if aR = true then ((aM.f (([aX, (⟨#[100, 114, 111, 112]⟩ : ByteArray)] : List ByteArray))).bind fun fq => (if fq.size + 1 ≤ 9223372036854775807 then (some (fq ++ (⟨#[59]⟩ : ByteArray))) else (none))) else ((bP.f k ig kS).bind fun gI => ((strings_Join.f gI (⟨#[32, 101, 108, 115, 101, 32]⟩ : ByteArray)).bind fun iB => ((aM.f (([aX, (⟨#[118, 105, 97]⟩ : ByteArray), iB] : List ByteArray))).bind fun ik => (if ik.size + 1 ≤ 9223372036854775807 then (some (ik ++ (⟨#[59]⟩ : ByteArray))) else (none))))))) = some r := by first | (rw [hy103]; with_reducible exact H) | (have H2_ := (Option.bind_some _ _).symm.trans H; rw [hy103]; with_reducible exact H2_) | (have H2_ := (Option.bind_some _ _).symm.trans H; with_reducible exact H2_) | with_reducible exact H | (rw [hy103]; exact H) | exact H
 have Ny103 := af.mk hy103
 clear hy103
 replace H := Option.bind_eq_some_iff.mp H
 obtain ⟨aX, A30, H⟩ := H
 replace H : (if aR = true then ((aM.f (([aX, (⟨#[100, 114, 111, 112]⟩ : ByteArray)] : List ByteArray))).bind fun fq => (if fq.size + 1 ≤ 9223372036854775807 then (some (fq ++ (⟨#[59]⟩ : ByteArray))) else (none))) else ((bP.f k ig kS).bind fun gI => ((strings_Join.f gI (⟨#[32, 101, 108, 115, 101, 32]⟩ : ByteArray)).bind fun iB => ((aM.f (([aX, (⟨#[118, 105, 97]⟩ : ByteArray), iB] : List ByteArray))).bind fun ik => (if ik.size + 1 ≤ 9223372036854775807 then (some (ik ++ (⟨#[59]⟩ : ByteArray))) else (none)))))) = some r := H
 have A3 := af.mk A30
 clear A30
 by_cases c4 : aR = true
 ·subst c4
  have H1 : ((aM.f (([aX, (⟨#[100, 114, 111, 112]⟩ : ByteArray)] : List ByteArray))).bind fun fq => (if fq.size + 1 ≤ 9223372036854775807 then (some (fq ++ (⟨#[59]⟩ : ByteArray))) else (none))) = some r := by rw [if_pos rfl] at H; exact H
  clear H
  have H := H1
  clear H1
  obtain ⟨y107, hy107⟩ : ∃ y_ : List ByteArray, y_ = (([aX, (⟨#[100, 114, 111, 112]⟩ : ByteArray)] : List ByteArray)) := ⟨_, rfl⟩
  replace H : ((aM.f y107).bind fun fq => (if fq.size + 1 ≤ 9223372036854775807 then (some (fq ++ (⟨#[59]⟩ : ByteArray))) else (none))) = some r := by first | (rw [hy107]; with_reducible exact H) | (have H2_ := (Option.bind_some _ _).symm.trans H; rw [hy107]; with_reducible exact H2_) | (have H2_ := (Option.bind_some _ _).symm.trans H; with_reducible exact H2_) | with_reducible exact H | (rw [hy107]; exact H) | exact H
  have Ny107 := af.mk hy107
  clear hy107
  replace H := Option.bind_eq_some_iff.mp H
  obtain ⟨fq, A50, H⟩ := H
  replace H : (if fq.size + 1 ≤ 9223372036854775807 then (some (fq ++ (⟨#[59]⟩ : ByteArray))) else (none)) = some r := H
  have A5 := af.mk A50
  clear A50
  by_cases c6 : fq.size + 1 ≤ 9223372036854775807
  ·rw [if_pos c6] at H
   have lT := eq_true c6
   have tu : decide (fq.size + 1 ≤ 9223372036854775807) = true := decide_eq_true c6
   try have wy : (9223372036854775807 < fq.size + 1) = False := eq_false (Nat.not_lt.2 c6)
   obtain rfl := Option.some.inj H
   go_enter Tryd.func103, Tryd.ntmps103
   try go_wp2_with (first | ((with_reducible refine aU (N := 1) rfl ?_); refine bz ?hg (N := 1) ?hd (cs := #[.string aJ, .int .u32 aD, .int .i64 bL, .bool true, .slice kW ig.length c0_4]) (t := 156) ?hr ?_; (case hd => rfl); (case hg => rfl); (case hr => first | (go_simp; done) | (go_simp; rfl)); intro ax hg w7 hbox hb; have ag := af.mk (hbox); have GW101 := qge HB hg; have dE := qge HB hg; replace HB := af.mk (ai (qw HB) hb); clear hb hbox hg))
   replace ag := af.mk (dC ag.out)
   replace HB := af.mk (av HB.out)
   refine gm (n := 8) (S := fun w' => w'.cell? ⟨ax, 0, none⟩ = some (.string aJ) ∧ w'.cell? ⟨ax, 1, none⟩ = some (.int .u32 aD) ∧ w'.cell? ⟨ax, 2, none⟩ = some (.int .i64 bL) ∧ w'.cell? ⟨ax, 3, none⟩ = some (.bool true) ∧ w'.cell? ⟨ax, 4, none⟩ = some (.slice kW ig.length c0_4)) (ds := []) #[bF,bF,bF,bF,bF,bF,bF,bF] (by kernel_rfl) rfl rfl ⟨(ae ag.out 0).trans rfl, (ae ag.out 1).trans rfl, (ae ag.out 2).trans rfl, (ae ag.out 3).trans rfl, (ae ag.out 4).trans rfl⟩ (fun hHeld => ?_); refine eH dR.mg dR.jV (fun HT_ HW_ => ?_)
   generalize w7.drew = w8 at ag HB hHeld ⊢
   refine aY 0 (some 4) HT_ ?_
   refine aY 2 (some 6) HT_ ?_
   refine d9 1 (some 5) HT_ HW_ hHeld ?_
   refine d9 3 (some 7) HT_ HW_ hHeld ?_
   refine gF 4 (some 8) HT_ (fun K hK => ?_)
   refine fe Tryd.func41 #[.agg #[.int .u32 aD, .int .i64 bL]] ?_
   with_reducible refine (dA.calls k aD bL aQ _ A2.out ?gt).mono ?_
   (case gt => exact Go.Proofs.YthfphdbebnkdpaaDoorV.GT.below HGT (qw HB))
   rintro e w9 ⟨rfl, hb⟩
   refine ⟨_, rfl, ?_⟩
   replace ag := qbb ag hb
   replace HB := af.mk (ai (qw HB) hb)
   (try clear hb)
   (try clear hb2)
   (try clear hk)
   (try clear hi)
   refine hK.out _ _ ⟨(ae ag.out 0).trans rfl, (ae ag.out 1).trans rfl, (ae ag.out 2).trans rfl, (ae ag.out 3).trans rfl, (ae ag.out 4).trans rfl⟩ (fun hHeld => ?_)
   clear hK K
   refine eX (some 8) ?_
   refine gF 5 (some 9) HT_ (fun K hK => ?_)
   refine Kd.iT Kd.string _ 9 ?hg (N := 9) ?hd (xs := ([(⟨#[114, 117, 108, 101]⟩ : ByteArray), aJ, aQ] : List ByteArray)) (inner := [.string (⟨#[114, 117, 108, 101]⟩ : ByteArray), .string aJ, .string aQ]) (ok := fun _ => True) (okp := fun _ => True) ?hr ?hp (fun _ hk => hk) trivial (Below.refl _ _) (Nat.le_refl _) (by simp) ?_; (case hd => rfl); (case hg => rfl); (case hr => first | (go_simp; done) | (go_simp; rfl)); (case hp => exact (bZ.one (show Kd.M Kd.string _ _ _ (⟨#[114, 117, 108, 101]⟩ : ByteArray) [.string (⟨#[114, 117, 108, 101]⟩ : ByteArray)] from rfl) (bZ.one (show Kd.M Kd.string _ _ _ aJ [.string aJ] from rfl) (bZ.one (show Kd.M Kd.string _ _ _ aQ [.string aQ] from rfl) (bZ.none _ _)))))
   intro v104 w10 j5 hb hg_ hnew_
   clear hg_ hnew_
   (first | rw [← Ny103.out] at j5 | (simp only [Int.reduceToNat] at j5; rw [← Ny103.out] at j5))
   have eQ := af.mk (Kd.dI j5 (bg (qw HB)))
   replace ag := qbb ag hb
   replace HB := af.mk (ai (qw HB) hb)
   clear hb j5
   obtain ⟨qg, jk, iy⟩ := Kd.dW eQ.out
   (first | subst iy | (injection iy with f1_ f2_ f3_; have f4_ := f1_.symm; have f5_ := f3_.symm; clear f1_ f2_ f3_; subst f4_; subst f5_))
   refine hK.out _ _ ⟨(ae ag.out 0).trans rfl, (ae ag.out 1).trans rfl, (ae ag.out 2).trans rfl, (ae ag.out 3).trans rfl, (ae ag.out 4).trans rfl⟩ (fun hHeld => ?_)
   clear hK K
   refine eX (some 9) ?_
   refine gF 6 (some 10) HT_ (fun K hK => ?_)
   refine fe Tryd.func39 #[.slice qg y103.length jk] ?_
   with_reducible refine (aM.calls _ _ y103 aX _ ?bI ?bJ A3.out).mono ?_
   (case bI => exact qs ((Kd.aZ eQ.out).2.2))
   (case bJ => exact (Kd.aZ eQ.out).2.1)
   rintro e w13 ⟨rfl, hb⟩
   refine ⟨_, rfl, ?_⟩
   replace eQ := af.mk (Kd.bH (qr eQ) hb)
   replace ag := qbb ag hb
   replace HB := af.mk (ai (qw HB) hb)
   (try clear hb)
   (try clear hb2)
   (try clear hk)
   (try clear hi)
   refine hK.out _ _ ⟨(ae ag.out 0).trans rfl, (ae ag.out 1).trans rfl, (ae ag.out 2).trans rfl, (ae ag.out 3).trans rfl, (ae ag.out 4).trans rfl⟩ (fun hHeld => ?_)
   clear hK K
   refine eX (some 10) ?_
   refine aY 7 (some 3) HT_ ?_
   refine iq HT_ ?_
   have hcz14_0 : w13.cell? ⟨ax, 0, none⟩ = some (.string aJ) := (ae ag.out 0).trans rfl
   have hcz14_1 : w13.cell? ⟨ax, 1, none⟩ = some (.int .u32 aD) := (ae ag.out 1).trans rfl
   have hcz14_2 : w13.cell? ⟨ax, 2, none⟩ = some (.int .i64 bL) := (ae ag.out 2).trans rfl
   have hcz14_3 : w13.cell? ⟨ax, 3, none⟩ = some (.bool true) := (ae ag.out 3).trans rfl
   have hcz14_4 : w13.cell? ⟨ax, 4, none⟩ = some (.slice kW ig.length c0_4) := (ae ag.out 4).trans rfl
   have hfz14_0 := ah ag.out 0
   have hfz14_1 := ah ag.out 1
   have hfz14_2 := ah ag.out 2
   have hfz14_3 := ah ag.out 3
   have hfz14_4 := ah ag.out 4
   try go_wp2_with (first | ((with_reducible refine aU (N := 14) rfl ?_); refine Kd.jw Kd.string _ 9 ?hg (N := 14) ?hd (xs := ([aX, (⟨#[100, 114, 111, 112]⟩ : ByteArray)] : List ByteArray)) (inner := [.string aX, .string (⟨#[100, 114, 111, 112]⟩ : ByteArray)]) (ok := fun _ => True) (okp := fun _ => True) ?hr ?hp (fun _ hk => hk) trivial (Below.refl _ _) (Nat.le_refl _) (by simp) ?_; (case hd => rfl); (case hg => rfl); (case hr => first | (go_simp; done) | (go_simp; rfl)); (case hp => exact (bZ.one (show Kd.M Kd.string _ _ _ aX [.string aX] from rfl) (bZ.one (show Kd.M Kd.string _ _ _ (⟨#[100, 114, 111, 112]⟩ : ByteArray) [.string (⟨#[100, 114, 111, 112]⟩ : ByteArray)] from rfl) (bZ.none _ _)))); intro v108 w15 rH hb hg_ hnew_; clear hg_ hnew_; (first | rw [← Ny107.out] at rH | (simp only [Int.reduceToNat] at rH; rw [← Ny107.out] at rH)); have j6 := af.mk (Kd.dI (Kd.iE rH (Kd.kL (qr eQ))) (bg (qw HB))); replace eQ := af.mk (Kd.fV (qr eQ) (Kd.iC rH) hb); replace ag := qbb ag hb; replace HB := af.mk (ai (qw HB) hb); clear hb rH; obtain ⟨vv, rF, qh⟩ := Kd.dW j6.out; subst qh) | ((with_reducible refine aN (f := 39) rfl ?_); refine cu (some 15) rfl rfl Tryd.func39 (by kernel_rfl) rfl #[.slice vv y107.length rF] rfl qt ?_; (with_reducible refine (aM.calls _ _ y107 fq _ ?bI ?bJ A5.out).mono ?_); (case bI => exact qs ((Kd.aZ j6.out).2.2)); (case bJ => exact (Kd.aZ j6.out).2.1); rintro e w18 ⟨rfl, hb⟩; refine ⟨_, rfl, ?_⟩; replace eQ := af.mk (Kd.bH (qr eQ) hb); replace j6 := af.mk (Kd.bH (qr j6) hb); replace ag := qbb ag hb; replace HB := af.mk (ai (qw HB) hb); (try clear hb); (try clear hb2); (try clear hk); (try clear hi)))
   go_ret
   exact ⟨by first | rfl | (simp [errW_none, errW_some] <;> rfl) | (simp [*, errW_none, errW_some] <;> rfl), by repeat (first | (with_reducible first | exact HB.out | apply aA | apply aj | apply av | refine bi ?_ dE.out) | exact HB.out)⟩
  ·rw [if_neg c6] at H
   exact absurd H (by simp)
 ·replace c4 := Bool.eq_false_iff.mpr c4
  subst c4
  have H1 : ((bP.f k ig kS).bind fun gI => ((strings_Join.f gI (⟨#[32, 101, 108, 115, 101, 32]⟩ : ByteArray)).bind fun iB => ((aM.f (([aX, (⟨#[118, 105, 97]⟩ : ByteArray), iB] : List ByteArray))).bind fun ik => (if ik.size + 1 ≤ 9223372036854775807 then (some (ik ++ (⟨#[59]⟩ : ByteArray))) else (none))))) = some r := by rw [if_neg (show ¬ (false = true) by decide)] at H; exact H
  clear H
  have H := H1
  clear H1
  replace H := Option.bind_eq_some_iff.mp H
  obtain ⟨gI, A190, H⟩ := H
  replace H : ((strings_Join.f gI (⟨#[32, 101, 108, 115, 101, 32]⟩ : ByteArray)).bind fun iB => ((aM.f (([aX, (⟨#[118, 105, 97]⟩ : ByteArray), iB] : List ByteArray))).bind fun ik => (if ik.size + 1 ≤ 9223372036854775807 then (some (ik ++ (⟨#[59]⟩ : ByteArray))) else (none)))) = some r := H
  have A19 := af.mk A190
  clear A190
  replace H := Option.bind_eq_some_iff.mp H
  obtain ⟨iB, A200, H⟩ := H
  replace H : ((aM.f (([aX, (⟨#[118, 105, 97]⟩ : ByteArray), iB] : List ByteArray))).bind fun ik => (if ik.size + 1 ≤ 9223372036854775807 then (some (ik ++ (⟨#[59]⟩ : ByteArray))) else (none))) = some r := H
  have A20 := af.mk A200
  clear A200
  obtain ⟨y115, hy115⟩ : ∃ y_ : List ByteArray, y_ = (([aX, (⟨#[118, 105, 97]⟩ : ByteArray), iB] : List ByteArray)) := ⟨_, rfl⟩
  replace H : ((aM.f y115).bind fun ik => (if ik.size + 1 ≤ 9223372036854775807 then (some (ik ++ (⟨#[59]⟩ : ByteArray))) else (none))) = some r := by first | (rw [hy115]; with_reducible exact H) | (have H2_ := (Option.bind_some _ _).symm.trans H; rw [hy115]; with_reducible exact H2_) | (have H2_ := (Option.bind_some _ _).symm.trans H; with_reducible exact H2_) | with_reducible exact H | (rw [hy115]; exact H) | exact H
  have Ny115 := af.mk hy115
  clear hy115
  replace H := Option.bind_eq_some_iff.mp H
  obtain ⟨ik, A210, H⟩ := H
  replace H : (if ik.size + 1 ≤ 9223372036854775807 then (some (ik ++ (⟨#[59]⟩ : ByteArray))) else (none)) = some r := H
  have A21 := af.mk A210
  clear A210
  by_cases c22 : ik.size + 1 ≤ 9223372036854775807
  ·rw [if_pos c22] at H
   have yx := eq_true c22
   have yz : decide (ik.size + 1 ≤ 9223372036854775807) = true := decide_eq_true c22
   try have yA : (9223372036854775807 < ik.size + 1) = False := eq_false (Nat.not_lt.2 c22)
   obtain rfl := Option.some.inj H
   go_enter Tryd.func103, Tryd.ntmps103
   try go_wp2_with (first | ((with_reducible refine aU (N := 1) rfl ?_); refine bz ?hg (N := 1) ?hd (cs := #[.string aJ, .int .u32 aD, .int .i64 bL, .bool false, .slice kW ig.length c0_4]) (t := 156) ?hr ?_; (case hd => rfl); (case hg => rfl); (case hr => first | (go_simp; done) | (go_simp; rfl)); intro ax hg w23 hbox hb; have ag := af.mk (hbox); have GW101 := qge HB hg; have dE := qge HB hg; replace HB := af.mk (ai (qw HB) hb); clear hb hbox hg))
   replace ag := af.mk (dC ag.out)
   replace HB := af.mk (av HB.out)
   refine gm (n := 8) (S := fun w' => w'.cell? ⟨ax, 0, none⟩ = some (.string aJ) ∧ w'.cell? ⟨ax, 1, none⟩ = some (.int .u32 aD) ∧ w'.cell? ⟨ax, 2, none⟩ = some (.int .i64 bL) ∧ w'.cell? ⟨ax, 3, none⟩ = some (.bool false) ∧ w'.cell? ⟨ax, 4, none⟩ = some (.slice kW ig.length c0_4)) (ds := []) #[bF,bF,bF,bF,bF,bF,bF,bF] (by kernel_rfl) rfl rfl ⟨(ae ag.out 0).trans rfl, (ae ag.out 1).trans rfl, (ae ag.out 2).trans rfl, (ae ag.out 3).trans rfl, (ae ag.out 4).trans rfl⟩ (fun hHeld => ?_); refine eH dR.mg dR.jV (fun HT_ HW_ => ?_)
   generalize w23.drew = w24 at ag HB hHeld ⊢
   refine aY 0 (some 4) HT_ ?_
   refine aY 2 (some 6) HT_ ?_
   refine d9 1 (some 5) HT_ HW_ hHeld ?_
   refine d9 3 (some 7) HT_ HW_ hHeld ?_
   refine gF 4 (some 8) HT_ (fun K hK => ?_)
   refine fe Tryd.func41 #[.agg #[.int .u32 aD, .int .i64 bL]] ?_
   with_reducible refine (dA.calls k aD bL aQ _ A2.out ?gt).mono ?_
   (case gt => exact Go.Proofs.YthfphdbebnkdpaaDoorV.GT.below HGT (qw HB))
   rintro e w25 ⟨rfl, hb⟩
   refine ⟨_, rfl, ?_⟩
   replace ag := qbb ag hb
   replace HB := af.mk (ai (qw HB) hb)
   (try clear hb)
   (try clear hb2)
   (try clear hk)
   (try clear hi)
   refine hK.out _ _ ⟨(ae ag.out 0).trans rfl, (ae ag.out 1).trans rfl, (ae ag.out 2).trans rfl, (ae ag.out 3).trans rfl, (ae ag.out 4).trans rfl⟩ (fun hHeld => ?_)
   clear hK K
   refine eX (some 8) ?_
   refine gF 5 (some 9) HT_ (fun K hK => ?_)
   refine Kd.iT Kd.string _ 9 ?hg (N := 9) ?hd (xs := ([(⟨#[114, 117, 108, 101]⟩ : ByteArray), aJ, aQ] : List ByteArray)) (inner := [.string (⟨#[114, 117, 108, 101]⟩ : ByteArray), .string aJ, .string aQ]) (ok := fun _ => True) (okp := fun _ => True) ?hr ?hp (fun _ hk => hk) trivial (Below.refl _ _) (Nat.le_refl _) (by simp) ?_; (case hd => rfl); (case hg => rfl); (case hr => first | (go_simp; done) | (go_simp; rfl)); (case hp => exact (bZ.one (show Kd.M Kd.string _ _ _ (⟨#[114, 117, 108, 101]⟩ : ByteArray) [.string (⟨#[114, 117, 108, 101]⟩ : ByteArray)] from rfl) (bZ.one (show Kd.M Kd.string _ _ _ aJ [.string aJ] from rfl) (bZ.one (show Kd.M Kd.string _ _ _ aQ [.string aQ] from rfl) (bZ.none _ _)))))
   intro v104 w26 uj hb hg_ hnew_
   clear hg_ hnew_
   (first | rw [← Ny103.out] at uj | (simp only [Int.reduceToNat] at uj; rw [← Ny103.out] at uj))
   have eQ := af.mk (Kd.dI uj (bg (qw HB)))
   replace ag := qbb ag hb
   replace HB := af.mk (ai (qw HB) hb)
   clear hb uj
   obtain ⟨zz, zA, yB⟩ := Kd.dW eQ.out
   (first | subst yB | (injection yB with f1_ f2_ f3_; have f4_ := f1_.symm; have f5_ := f3_.symm; clear f1_ f2_ f3_; subst f4_; subst f5_))
   refine hK.out _ _ ⟨(ae ag.out 0).trans rfl, (ae ag.out 1).trans rfl, (ae ag.out 2).trans rfl, (ae ag.out 3).trans rfl, (ae ag.out 4).trans rfl⟩ (fun hHeld => ?_)
   clear hK K
   refine eX (some 9) ?_
   refine gF 6 (some 10) HT_ (fun K hK => ?_)
   refine fe Tryd.func39 #[.slice zz y103.length zA] ?_
   with_reducible refine (aM.calls _ _ y103 aX _ ?bI ?bJ A3.out).mono ?_
   (case bI => exact qs ((Kd.aZ eQ.out).2.2))
   (case bJ => exact (Kd.aZ eQ.out).2.1)
   rintro e w29 ⟨rfl, hb⟩
   refine ⟨_, rfl, ?_⟩
   replace eQ := af.mk (Kd.bH (qr eQ) hb)
   replace ag := qbb ag hb
   replace HB := af.mk (ai (qw HB) hb)
   (try clear hb)
   (try clear hb2)
   (try clear hk)
   (try clear hi)
   refine hK.out _ _ ⟨(ae ag.out 0).trans rfl, (ae ag.out 1).trans rfl, (ae ag.out 2).trans rfl, (ae ag.out 3).trans rfl, (ae ag.out 4).trans rfl⟩ (fun hHeld => ?_)
   clear hK K
   refine eX (some 10) ?_
   refine aY 7 (some 3) HT_ ?_
   refine iq HT_ ?_
   have hcz30_0 : w29.cell? ⟨ax, 0, none⟩ = some (.string aJ) := (ae ag.out 0).trans rfl
   have hcz30_1 : w29.cell? ⟨ax, 1, none⟩ = some (.int .u32 aD) := (ae ag.out 1).trans rfl
   have hcz30_2 : w29.cell? ⟨ax, 2, none⟩ = some (.int .i64 bL) := (ae ag.out 2).trans rfl
   have hcz30_3 : w29.cell? ⟨ax, 3, none⟩ = some (.bool false) := (ae ag.out 3).trans rfl
   have hcz30_4 : w29.cell? ⟨ax, 4, none⟩ = some (.slice kW ig.length c0_4) := (ae ag.out 4).trans rfl
   have hfz30_0 := ah ag.out 0
   have hfz30_1 := ah ag.out 1
   have hfz30_2 := ah ag.out 2
   have hfz30_3 := ah ag.out 3
   have hfz30_4 := ah ag.out 4
   try go_wp2_with (first | ((with_reducible refine aN (f := 130) rfl ?_); refine cu (some 20) rfl rfl Tryd.func130 (by kernel_rfl) rfl #[.slice kW ig.length c0_4, .func (.func 131) #[] #[]] rfl qt ?_; (with_reducible refine (bP.calls k _ _ ig kS gI _ ?bI ?bJ A19.out ?gt).mono ?_); (case gt => exact Go.Proofs.YthfphdbebnkdpaaDoorV.GT.below HGT (qw HB)); (case bI => exact qs ((Kd.eY ug.out HB.out))); (case bJ => exact uh.out); rintro e w31 ⟨v112, rfl, ho0, hb⟩; refine ⟨_, rfl, ?_⟩; have kH := af.mk (Kd.dI (Kd.iE ho0 (Kd.kL (qr eQ))) (bg (qw HB))); replace eQ := af.mk (Kd.fV (qr eQ) (Kd.iC ho0) hb); replace ag := qbb ag hb; replace HB := af.mk (ai (qw HB) hb); (try clear hb); (try clear hb2); (try clear hk); (try clear hi); (try clear ho0); obtain ⟨zB, zC, zD⟩ := Kd.dW kH.out; subst zD) | ((with_reducible refine aN (f := 45) rfl ?_); refine cu (some 21) rfl rfl Tryd.func45 (by kernel_rfl) rfl #[.slice zB gI.length zC, .string (⟨#[32, 101, 108, 115, 101, 32]⟩ : ByteArray)] rfl qt ?_; (with_reducible refine (strings_Join.calls _ _ gI (⟨#[32, 101, 108, 115, 101, 32]⟩ : ByteArray) iB _ ?bI ?bJ A20.out).mono ?_); (case bI => exact qs ((Kd.aZ kH.out).2.2)); (case bJ => exact (Kd.aZ kH.out).2.1); rintro e w33 ⟨rfl, hb⟩; refine ⟨_, rfl, ?_⟩; replace eQ := af.mk (Kd.bH (qr eQ) hb); replace kH := af.mk (Kd.bH (qr kH) hb); replace ag := qbb ag hb; replace HB := af.mk (ai (qw HB) hb); (try clear hb); (try clear hb2); (try clear hk); (try clear hi)) | ((with_reducible refine aU (N := 22) rfl ?_); refine Kd.jw Kd.string _ 9 ?hg (N := 22) ?hd (xs := ([aX, (⟨#[118, 105, 97]⟩ : ByteArray), iB] : List ByteArray)) (inner := [.string aX, .string (⟨#[118, 105, 97]⟩ : ByteArray), .string iB]) (ok := fun _ => True) (okp := fun _ => True) ?hr ?hp (fun _ hk => hk) trivial (Below.refl _ _) (Nat.le_refl _) (by simp) ?_; (case hd => rfl); (case hg => rfl); (case hr => first | (go_simp; done) | (go_simp; rfl)); (case hp => exact (bZ.one (show Kd.M Kd.string _ _ _ aX [.string aX] from rfl) (bZ.one (show Kd.M Kd.string _ _ _ (⟨#[118, 105, 97]⟩ : ByteArray) [.string (⟨#[118, 105, 97]⟩ : ByteArray)] from rfl) (bZ.one (show Kd.M Kd.string _ _ _ iB [.string iB] from rfl) (bZ.none _ _))))); intro v116 w34 ql hb hg_ hnew_; clear hg_ hnew_; (first | rw [← Ny115.out] at ql | (simp only [Int.reduceToNat] at ql; rw [← Ny115.out] at ql)); have ni := af.mk (Kd.dI (Kd.iE (Kd.iE ql (Kd.kL (qr eQ))) (Kd.kL (qr kH))) (bg (qw HB))); replace eQ := af.mk (Kd.fV (qr eQ) (Kd.iC ql) hb); replace kH := af.mk (Kd.fV (qr kH) (Kd.iC ql) hb); replace ag := qbb ag hb; replace HB := af.mk (ai (qw HB) hb); clear hb ql; obtain ⟨zF, zG, zH⟩ := Kd.dW ni.out; subst zH) | ((with_reducible refine aN (f := 39) rfl ?_); refine cu (some 23) rfl rfl Tryd.func39 (by kernel_rfl) rfl #[.slice zF y115.length zG] rfl qt ?_; (with_reducible refine (aM.calls _ _ y115 ik _ ?bI ?bJ A21.out).mono ?_); (case bI => exact qs ((Kd.aZ ni.out).2.2)); (case bJ => exact (Kd.aZ ni.out).2.1); rintro e w37 ⟨rfl, hb⟩; refine ⟨_, rfl, ?_⟩; replace eQ := af.mk (Kd.bH (qr eQ) hb); replace kH := af.mk (Kd.bH (qr kH) hb); replace ni := af.mk (Kd.bH (qr ni) hb); replace ag := qbb ag hb; replace HB := af.mk (ai (qw HB) hb); (try clear hb); (try clear hb2); (try clear hk); (try clear hi)))
   go_ret
   exact ⟨by first | rfl | (simp [errW_none, errW_some] <;> rfl) | (simp [*, errW_none, errW_some] <;> rfl), by repeat (first | (with_reducible first | exact HB.out | apply aA | apply aj | apply av | refine bi ?_ dE.out) | exact HB.out)⟩
  ·rw [if_neg c22] at H
   exact absurd H (by simp)
end Go.Proofs.YthfphdbebnkdpaaDoor.P
end
section
namespace Go.Proofs.YthfphdbebnkdpaaDoor.P
open Go.RowKit Go.Proofs.YthfphdbebnkdpaaDoorW.aH Go.Proofs.YthfphdbebnkdpaaDoorW.aV Go.Proofs.YthfphdbebnkdpaaDoorW.bn
attribute [local go_sem] bR bS dn dw bB bC bU bV
set_option linter.unusedVariables false
set_option linter.unusedSimpArgs false
def dP.l0 : Nat → List ByteArray → List (jq) → Int → Int → Option (List ByteArray)
 | 0, _, _, _, _ => none
 | k + 1, x5, x11, x12, x13 => if x13 < x12 then (if 0 ≤ x13 then (if x13 < (x11.length : Int) then ((dR.f k ((dx x11 x13).f0) ((dx x11 x13).f1.f0) ((dx x11 x13).f1.f1) ((dx x11 x13).f2) ((dx x11 x13).f3)).bind fun aX => (if x13 < (x5.length : Int) then (dP.l0 k (x5.set (x13 : Int).toNat aX) x11 x12 (wrap64 (x13 + 1))) else (none))) else (none)) else (none)) else (some x5)
def dP.f (k : Nat) (l0 : List (jq)) (a1 : Bool) : Option (List ByteArray) := if 0 ≤ (l0.length : Int) then (if ((l0.length : Int) : Int).toNat ≤ 17592186044416 then (dP.l0 k (List.replicate ((l0.length : Int) : Int).toNat (⟨#[]⟩ : ByteArray)) l0 (l0.length : Int) 0) else (none)) else (none)
theorem dP.dZ : ∀ k, (∀ y0 y1 y2 y3, LeO (dP.l0 k y0 y1 y2 y3) (dP.l0 (k + 1) y0 y1 y2 y3))
 | 0 => fun _ _ _ _ r h => by simp [dP.l0] at h
 | k + 1 => by
  have ih0 := dP.dZ k
  ·intro y0 y1 y2 y3
   unfold dP.l0
   repeat' first
   | (with_reducible exact ih0 _ _ _ _)
   | (with_reducible exact dR.mono _ _ _ _ _ _)
   | (with_reducible exact LeO.refl _)
   | (with_reducible exact LeO.none _)
   | (with_reducible refine LeO.ite ?_ ?_)
   | (with_reducible refine LeO.bind ?_ (fun _ => ?_))
   | exact ih0 _ _ _ _
   | exact dR.mono _ _ _ _ _ _
   | exact LeO.none _
   | refine LeO.ite ?_ ?_
   | refine LeO.bind ?_ (fun _ => ?_)
theorem dP.mono : ∀ a0 a1 k, LeO (dP.f k a0 a1) (dP.f (k + 1) a0 a1) := by
 intro a0 a1 k
 have ih0 := dP.dZ k
 unfold dP.f
 repeat' first
   | (with_reducible exact ih0 _ _ _ _)
   | (with_reducible exact dR.mono _ _ _ _ _ _)
   | (with_reducible exact LeO.refl _)
   | (with_reducible exact LeO.none _)
   | (with_reducible refine LeO.ite ?_ ?_)
   | (with_reducible refine LeO.bind ?_ (fun _ => ?_))
   | exact ih0 _ _ _ _
   | exact dR.mono _ _ _ _ _ _
   | exact LeO.none _
   | refine LeO.ite ?_ ?_
   | refine LeO.bind ?_ (fun _ => ?_)
set_option maxHeartbeats 8000000 in
set_option maxRecDepth 100000 in
theorem dP.calls (k : Nat) (A0 : Option Addr) (c0 : Nat) (l0 : List (jq)) (a1 : Bool) (r : List ByteArray) (w : World) (hr0 : Kd.C ol w A0 l0.length l0) (hc0 : l0.length ≤ c0) (h : dP.f k l0 a1 = some r) (HGT : af (Go.Proofs.YthfphdbebnkdpaaDoorV.GT w)) :
  Calls Tryd.prog 102 #[.slice A0 l0.length c0, .func (.func 103) #[] #[]] w fun e w' => ∃ v0_ : Value, e = .returned (v0_) ∧ Kd.R Kd.string 9 w' w.heap.size (fun _ => True) v0_ r ∧ Below w.heap.size w w' := by
 have hu156 := Tryd.underlying156
 have HR0 := af.mk hr0
 have HC0 := af.mk hc0
 clear hr0 hc0
 have HB := af.mk (Below.refl w.heap.size w)
 have H : (if 0 ≤ (l0.length : Int) then (if ((l0.length : Int) : Int).toNat ≤ 17592186044416 then (dP.l0 k (List.replicate ((l0.length : Int) : Int).toNat (⟨#[]⟩ : ByteArray)) l0 (l0.length : Int) 0) else (none)) else (none)) = some r := h
 clear h
 by_cases c3 : 0 ≤ (l0.length : Int)
 ·rw [if_pos c3] at H
  have gG := eq_true c3
  have gY : decide (0 ≤ (l0.length : Int)) = true := decide_eq_true c3
  clear c3
  by_cases c4 : ((l0.length : Int) : Int).toNat ≤ 17592186044416
  ·rw [if_pos c4] at H
   have ic := eq_true c4
   have iA : decide (((l0.length : Int) : Int).toNat ≤ 17592186044416) = true := decide_eq_true c4
   clear c4
   obtain ⟨y101, hy101⟩ : ∃ y_ : List ByteArray, y_ = (List.replicate ((l0.length : Int) : Int).toNat (⟨#[]⟩ : ByteArray)) := ⟨_, rfl⟩
   replace H : (dP.l0 k y101 l0 (l0.length : Int) 0) = some r := by first | (rw [hy101]; with_reducible exact H) | (have H2_ := (Option.bind_some _ _).symm.trans H; rw [hy101]; with_reducible exact H2_) | (have H2_ := (Option.bind_some _ _).symm.trans H; with_reducible exact H2_) | with_reducible exact H | (rw [hy101]; exact H) | exact H
   have Ny101 := af.mk hy101
   clear hy101
   have H' := af.mk H
   clear H
   go_enter Tryd.func102, Tryd.ntmps102
   go_wp2_with (first | ((with_reducible refine aU (N := 10) rfl ?_); refine Kd.jh Kd.string _ 9 rfl (N := 10) rfl 72 _ _ rfl (l0.length : Int) rfl rfl Tryd.underlying72 (.string ⟨#[]⟩) 16 lq rfl (by decide) (by omega) (⟨#[]⟩ : ByteArray) (ok := fun _ => True) (okp := fun _ => True) rfl (fun _ hk => hk) trivial (of_decide_eq_true qa) (Nat.le_trans (Nat.mul_le_mul_right _ (of_decide_eq_true qa : (l0.length : Int).toNat ≤ 17592186044416)) (by omega)) (Below.refl _ _) (Nat.le_refl _) ?_; intro v102 w5 ho6 hb hg_ hnew_; clear hg_ hnew_; (first | rw [← Ny101.out] at ho6 | (simp only [Int.reduceToNat] at ho6; rw [← Ny101.out] at ho6)); have eD := af.mk (Kd.dI ho6 (bg (qw HB))); replace HB := af.mk (ai (qw HB) hb); clear hb ho6))
   go_loopg [13] k (fun kq v13 w' => ∃ (bO : List ByteArray) (au : Int), v13 = .int .i64 au ∧ af (dP.l0 kq bO l0 (l0.length : Int) au = some r) ∧ af (kq ≤ k) ∧ af (Kd.R Kd.string 9 w' w.heap.size (fun _ => True) v102 bO) ∧ af (Below w.heap.size w w'))
   case atStart => exact ⟨(y101), (0), (by first | rfl | (simp; done) | (simp [*]; done)), H', ⟨Nat.le_refl _⟩, ⟨by (with_reducible repeat (first | apply Kd.cB | apply Kd.cK | apply Kd.dD)); exact eD.out⟩, ⟨by repeat (first | (with_reducible first | exact HB.out | apply aA | apply aj | apply av) | exact HB.out)⟩⟩
   case round =>
    clear H'
    try clear c1
    try clear p2
    try clear c3
    try clear gG
    try clear gY
    try clear c4
    try clear ic
    try clear iA
    obtain ⟨bO, au, rfl, HA, HK1, dN, HB⟩ := hrel
    cases gk with
    | zero => exact absurd HA.out (by simp [dP.l0])
    | succ k1 =>
     have H := HA.out
     clear HA
     simp only [dP.l0] at H
     by_cases c7 : au < (l0.length : Int)
     ·rw [if_pos c7] at H
      have iZ : decide (au < (l0.length : Int)) = true := decide_eq_true c7
      clear c7
      by_cases c8 : 0 ≤ au
      ·rw [if_pos c8] at H
       have jM : decide (0 ≤ au) = true := decide_eq_true c8
       clear c8
       by_cases c9 : au < (l0.length : Int)
       ·rw [if_pos c9] at H
        have kT : decide (au < (l0.length : Int)) = true := decide_eq_true c9
        clear c9
        replace H := Option.bind_eq_some_iff.mp H
        obtain ⟨aX, A100, H⟩ := H
        replace H : (if au < (bO.length : Int) then (dP.l0 k1 (bO.set (au : Int).toNat aX) l0 (l0.length : Int) (wrap64 (au + 1))) else (none)) = some r := H
        have A10 := af.mk A100
        clear A100
        by_cases c11 : au < (bO.length : Int)
        ·rw [if_pos c11] at H
         have jC : decide (au < (bO.length : Int)) = true := decide_eq_true c11
         clear c11
         obtain ⟨y107, hy107⟩ : ∃ y_ : List ByteArray, y_ = (bO.set (au : Int).toNat aX) := ⟨_, rfl⟩
         replace H : (dP.l0 k1 y107 l0 (l0.length : Int) (wrap64 (au + 1))) = some r := by first | (rw [hy107]; with_reducible exact H) | (have H2_ := (Option.bind_some _ _).symm.trans H; rw [hy107]; with_reducible exact H2_) | (have H2_ := (Option.bind_some _ _).symm.trans H; with_reducible exact H2_) | with_reducible exact H | (rw [hy107]; exact H) | exact H
         have Ny107 := af.mk hy107
         clear hy107
         have H' := af.mk H
         clear H
         have p104 : 0 ≤ (au : Int) := of_decide_eq_true qa
         have q104 : au < (l0.length : Int) := of_decide_eq_true qa
         obtain ⟨ad104, jJ, c104_4, e104, hx104_0, hx104_1, hx104_2, hx104_3, hx104_4, hl104_4, hi104_4⟩ := uN HR0.out au p104 q104
         cases e104
         replace hx104_0 := (HB.out.cell (World.block_lt_of_cell? w _ hx104_0)).trans hx104_0
         replace hx104_1 := (HB.out.cell (World.block_lt_of_cell? w _ hx104_1)).trans hx104_1
         replace hx104_2 := (HB.out.cell (World.block_lt_of_cell? w _ hx104_2)).trans hx104_2
         replace hx104_3 := (HB.out.cell (World.block_lt_of_cell? w _ hx104_3)).trans hx104_3
         replace hx104_4 := (HB.out.cell (World.block_lt_of_cell? w _ hx104_4)).trans hx104_4
         have oG := af.mk hi104_4
         have oH := af.mk hl104_4
         clear hi104_4 hl104_4
         replace p104 := eq_true p104
         replace q104 := eq_true q104
         go_wp2_with (first | ((with_reducible refine aU (N := 7) rfl ?_); refine bz ?hg (N := 7) ?hd (cs := #[.string (⟨#[]⟩ : ByteArray), .int .u32 0, .int .i64 0, .bool false, .slice none 0 0]) (t := 156) ?hr ?_; (case hd => rfl); (case hg => rfl); (case hr => first | (go_simp; done) | (go_simp; rfl)); intro dB hg w13 hbox hb; replace dN := af.mk (Kd.bH (qr dN) hb); have bD := af.mk (hbox); have GW105 := qge HB hg; have jN := qge HB hg; replace HB := af.mk (ai (qw HB) hb); clear hb hbox hg; have hcz14_0 : w13.cell? ⟨dB, 0, none⟩ = some (.string (⟨#[]⟩ : ByteArray)) := (ae bD.out 0).trans rfl; have hcz14_1 : w13.cell? ⟨dB, 1, none⟩ = some (.int .u32 0) := (ae bD.out 1).trans rfl; have hcz14_2 : w13.cell? ⟨dB, 2, none⟩ = some (.int .i64 0) := (ae bD.out 2).trans rfl; have hcz14_3 : w13.cell? ⟨dB, 3, none⟩ = some (.bool false) := (ae bD.out 3).trans rfl; have hcz14_4 : w13.cell? ⟨dB, 4, none⟩ = some (.slice none 0 0) := (ae bD.out 4).trans rfl; have hfz14_0 := ah bD.out 0; have hfz14_1 := ah bD.out 1; have hfz14_2 := ah bD.out 2; have hfz14_3 := ah bD.out 3; have hfz14_4 := ah bD.out 4) | ((with_reducible refine Go.Proofs.YthfphdbebnkdpaaDoorV.gz (s := 20) rfl ?_); refine Go.Proofs.YthfphdbebnkdpaaDoorV.jB (some 22) rfl rfl Tryd.func103 (by kernel_rfl) rfl #[.agg #[.string ((dx l0 au).f0), .int .u32 ((dx l0 au).f1.f0), .int .i64 ((dx l0 au).f1.f1), .bool ((dx l0 au).f2), .slice jJ ((dx l0 au).f3).length c104_4]] rfl qt ?_; (with_reducible refine (dR.calls k1 ((dx l0 au).f0) ((dx l0 au).f1.f0) ((dx l0 au).f1.f1) ((dx l0 au).f2) _ _ ((dx l0 au).f3) aX _ ?bI ?bJ A10.out ?gt).mono ?_); (case gt => exact Go.Proofs.YthfphdbebnkdpaaDoorV.GT.below HGT (qw HB)); (case bI => exact Kd.eY oG.out (qw HB)); (case bJ => exact oH.out); rintro e w15 ⟨rfl, hb⟩; refine ⟨_, rfl, ?_⟩; replace dN := af.mk (Kd.bH (by (with_reducible repeat (first | apply Kd.cB | apply Kd.cK | apply Kd.dD)); exact (Kd.fG (Kd.gy (p := ⟨dB, 4, none⟩) (Kd.gy (p := ⟨dB, 3, none⟩) (Kd.gy (p := ⟨dB, 2, none⟩) (Kd.gy (p := ⟨dB, 1, none⟩) (Kd.gy (p := ⟨dB, 0, none⟩) (Kd.jR dN.out bD.out (by decide)) (fun _ hk => hk.2) (.string ((dx l0 au).f0))) (fun _ hk => hk.2) (.int .u32 ((dx l0 au).f1.f0))) (fun _ hk => hk.2) (.int .i64 ((dx l0 au).f1.f1))) (fun _ hk => hk.2) (.bool ((dx l0 au).f2))) (fun _ hk => hk.2) (.slice jJ ((dx l0 au).f3).length c104_4)) (fun _ h_ => h_.1))) hb); replace bD := af.mk (gX (g := dB) (o := .cells #[.string ((dx l0 au).f0), .int .u32 ((dx l0 au).f1.f0), .int .i64 ((dx l0 au).f1.f1), .bool ((dx l0 au).f2), .slice jJ ((dx l0 au).f3).length c104_4] 156 (0, 0)) (by refine cO (cs := #[.string ((dx l0 au).f0), .int .u32 ((dx l0 au).f1.f0), .int .i64 ((dx l0 au).f1.f1), .bool ((dx l0 au).f2), .slice none 0 0]) ?_ 4 _ rfl; refine cO (cs := #[.string ((dx l0 au).f0), .int .u32 ((dx l0 au).f1.f0), .int .i64 ((dx l0 au).f1.f1), .bool false, .slice none 0 0]) ?_ 3 _ rfl; refine cO (cs := #[.string ((dx l0 au).f0), .int .u32 ((dx l0 au).f1.f0), .int .i64 0, .bool false, .slice none 0 0]) ?_ 2 _ rfl; refine cO (cs := #[.string ((dx l0 au).f0), .int .u32 0, .int .i64 0, .bool false, .slice none 0 0]) ?_ 1 _ rfl; refine cO (cs := #[.string (⟨#[]⟩ : ByteArray), .int .u32 0, .int .i64 0, .bool false, .slice none 0 0]) ?_ 0 _ rfl; (with_reducible repeat (first | refine fK ?_ _ | refine dC ?_ | refine fJ ?_ _)); exact bD.out) hb); replace HB := af.mk (ai (qw HB) hb); (try clear hb); (try clear hb2); (try clear hk); (try clear hi); have p12 : 0 ≤ (au : Int) := of_decide_eq_true qa; have q12 : (au : Int) < ((bO.length : Int) : Int) := of_decide_eq_true qa; obtain ⟨go12, jk, iy, jl, gl12, cl12, HG12⟩ := Kd.jg dN.out (by omega); (first | cases iy | (injection iy with ea_ en_ ec_; (first | subst ea_ | (injection ea_ with ea_; subst ea_)); subst ec_; clear en_)); have kV := af.mk jl; have GG12 := af.mk HG12; clear jl gl12 HG12; obtain ⟨hx12_0, hf12_0⟩ := Kd.fD (⟨#[]⟩ : ByteArray) dN.out (au : Int) p12 q12; replace p12 := eq_true p12; replace q12 := eq_true q12; obtain ⟨hy16_, hz16_⟩ := Kd.fD (⟨#[]⟩ : ByteArray) dN.out (au : Int) (of_decide_eq_true qa) (of_decide_eq_true qa); have HP16 := Kd.ji dN.out (au : Int) aX) | ((with_reducible refine fZ (t := 9) (p := 23) rfl ?_); refine fH (t := 9) (p := 23) (v := ?vo_w17) (w1 := (w15.setCell ⟨go12, (au : Int).toNat, none⟩ (.string aX))) ?hg ?ho ?hn ?hr ?_; (case ho => rfl); (case hg => rfl); (case hn => rfl); (case hr => first | (go_simp; done) | (go_simp; rfl)); intro w17 hw; have hg : w15.grownBy w17 (some go12) := (by rw [hw]; exact HP16.2); have hp_ : Kd.R Kd.string 9 w17 w.heap.size (fun _ => True) (.slice (some ⟨go12, 0, none⟩) bO.length jk) y107 := (by rw [hw, Ny107.out]; exact HP16.1); clear HP16; replace bD := af.mk (iQ (g := dB) (o := .cells #[.string ((dx l0 au).f0), .int .u32 ((dx l0 au).f1.f0), .int .i64 ((dx l0 au).f1.f1), .bool ((dx l0 au).f2), .slice jJ ((dx l0 au).f3).length c104_4] 156 (0, 0)) (qb bD) hg (Kd.pO dN.out bD.out (by decide))); replace dN := af.mk (hp_); replace HB := af.mk ((by rw [hw]; exact bi (HB.out) kV.out : Below w.heap.size w w17)); clear hg hw hp_))
         go_roundg k1
         case measure => have := HK1.out; omega
         case rel => exact ⟨(y107), (wrap64 (au + 1)), (by first | rfl | (simp; done) | (simp [*]; done)), H', ⟨by have := HK1.out; omega⟩, ⟨by (with_reducible repeat (first | apply Kd.cB | apply Kd.cK | apply Kd.dD)); exact dN.out⟩, ⟨by repeat (first | (with_reducible first | exact HB.out | apply aA | apply aj | apply av | refine bi ?_ jN.out) | exact HB.out)⟩⟩
        ·rw [if_neg c11] at H
         exact absurd H (by simp)
       ·rw [if_neg c9] at H
        exact absurd H (by simp)
      ·rw [if_neg c8] at H
       exact absurd H (by simp)
     ·rw [if_neg c7] at H
      have iZ : decide (au < (l0.length : Int)) = false := decide_eq_false c7
      clear c7
      obtain rfl := Option.some.inj H
      go_wp2
      go_ret
      exact ⟨_, by first | rfl | (simp [errW_none, errW_some] <;> rfl) | (simp [*, errW_none, errW_some] <;> rfl), by (with_reducible repeat (first | apply Kd.cB | apply Kd.cK | apply Kd.dD)); exact dN.out, by repeat (first | (with_reducible first | exact HB.out | apply aA | apply aj | apply av) | exact HB.out)⟩
  ·rw [if_neg c4] at H
   exact absurd H (by simp)
 ·rw [if_neg c3] at H
  exact absurd H (by simp)
end Go.Proofs.YthfphdbebnkdpaaDoor.P
end
section
namespace Go.Proofs.YthfphdbebnkdpaaDoor.P
open Go.RowKit Go.Proofs.YthfphdbebnkdpaaDoorW.aH Go.Proofs.YthfphdbebnkdpaaDoorW.aV Go.Proofs.YthfphdbebnkdpaaDoorW.bn
attribute [local go_sem] bR bS dn dw bB bC bU bV
set_option linter.unusedVariables false
set_option linter.unusedSimpArgs false
def jK (s : ByteArray) (ls : List ByteArray) : List UInt8 := s.data.toList ++ 10 :: ls.flatMap (fun x => 32 :: 32 :: (x.data.toList ++ [10]))
def nI (s : ByteArray) (ls : List ByteArray) : List UInt8 := jK s ls ++ [125, 10]
def dJ.tail (s : ByteArray) (a b c : List ByteArray) : Option ByteArray := if (nI s ([a, b, c] : List (List ByteArray)).flatten).length ≤ 140737488355328 then some ⟨(nI s ([a, b, c] : List (List ByteArray)).flatten).toArray⟩ else none
theorem nR (s : ByteArray) (ls : List ByteArray) (x : ByteArray) : jK s (ls ++ [x]) = jK s ls ++ 32 :: 32 :: (x.data.toList ++ [10]) := by simp [jK]
theorem qM (s : ByteArray) (ls ms : List ByteArray) : (jK s ls).length ≤ (jK s (ls ++ ms)).length := by simp [jK]
theorem rJ (s : ByteArray) (ls ms : List ByteArray) (x : ByteArray) : (jK s ls).length + (x.size + 3) ≤ (jK s (ls ++ x :: ms)).length := by
 rw [show ls ++ x :: ms = (ls ++ [x]) ++ ms by simp]
 refine Nat.le_trans ?_ (qM s (ls ++ [x]) ms)
 rw [nR]
 simp
theorem uk (x : ByteArray) : Lib.strCells ((⟨#[32, 32]⟩ : ByteArray) ++ x ++ (⟨#[10]⟩ : ByteArray)) = Lib.byteCells (32 :: 32 :: (x.data.toList ++ [10])) := by simp [Lib.strCells, Lib.byteCells]
theorem nJ (x : ByteArray) : ((⟨#[32, 32]⟩ : ByteArray) ++ x ++ (⟨#[10]⟩ : ByteArray)).size = x.size + 3 := by
 simp only [ByteArray.size_append]; show 2 + x.size + 1 = x.size + 3; omega
theorem ul (s : ByteArray) : Lib.strCells (s ++ (⟨#[10]⟩ : ByteArray)) = Lib.byteCells (jK s []) := by simp [Lib.strCells, Lib.byteCells, jK]
theorem lH (a b : List UInt8) : Lib.byteCells (a ++ b) = Lib.byteCells a ++ Lib.byteCells b := by simp [Lib.byteCells]
theorem qm (xs : List (List ByteArray)) (i : Nat) (x : List ByteArray) (hi : xs[i]? = some x) (j : Nat) (y : ByteArray) (hj : x[j]? = some y) : ∃ ms, xs.flatten = ((xs.take i).flatten ++ x.take j) ++ y :: ms := by
 obtain ⟨h1, rfl⟩ := List.getElem?_eq_some_iff.1 hi
 obtain ⟨h2, rfl⟩ := List.getElem?_eq_some_iff.1 hj
 refine ⟨xs[i].drop (j + 1) ++ (xs.drop (i + 1)).flatten, ?_⟩
 have e1 : xs.flatten = (xs.take i).flatten ++ (xs[i] ++ (xs.drop (i + 1)).flatten) := by
  conv => lhs; rw [← List.take_append_drop i xs, List.drop_eq_getElem_cons h1, List.flatten_append, List.flatten_cons]
 have e2 : xs[i].take j ++ xs[i][j] :: xs[i].drop (j + 1) = xs[i] := by rw [← List.drop_eq_getElem_cons h2, List.take_append_drop]
 rw [e1]
 generalize hz : xs[i] = z at *
 have e3 : z ++ (xs.drop (i + 1)).flatten = z.take j ++ z[j] :: (z.drop (j + 1) ++ (xs.drop (i + 1)).flatten) := by
  rw [← List.cons_append, ← List.append_assoc, e2]
 rw [e3, List.append_assoc]
def dJ.f (k : Nat) (aJ : ByteArray) (eB : List (S77)) (gq : List (jo)) (jX : List (jq)) : Option (ByteArray) := (aM.f (([(⟨#[110, 101, 116, 119, 111, 114, 107]⟩ : ByteArray), aJ, (⟨#[123]⟩ : ByteArray)] : List ByteArray))).bind fun t105 => (if t105.size + 1 ≤ 9223372036854775807 then ((dV.f k eB o6).bind fun aX => ((dQ.f k gq lS).bind fun t109 => ((dP.f k jX kR).bind fun gU => (dJ.tail t105 aX t109 gU)))) else (none))
theorem dJ.mono : ∀ a0 a1 a2 a3 k, LeO (dJ.f k a0 a1 a2 a3) (dJ.f (k + 1) a0 a1 a2 a3) := by
 intro a0 a1 a2 a3 k
 unfold dJ.f
 repeat' first
   | (with_reducible exact dQ.mono _ _ _)
   | (with_reducible exact dV.mono _ _ _)
   | (with_reducible exact dP.mono _ _ _)
   | (with_reducible exact LeO.refl _)
   | (with_reducible exact LeO.none _)
   | (with_reducible refine LeO.ite ?_ ?_)
   | (with_reducible refine LeO.bind ?_ (fun _ => ?_))
   | exact dQ.mono _ _ _
   | exact dV.mono _ _ _
   | exact dP.mono _ _ _
   | exact LeO.none _
   | refine LeO.ite ?_ ?_
   | refine LeO.bind ?_ (fun _ => ?_)
def dJ.T3 : Bool × List (List Nat × List Nat) := (true, [([], []), ([0], [0]), ([1], [1]), ([], []), ([3], [3]), ([4, 2], [4]), ([], []), ([6], [6]), ([7, 5], [7]), ([2, 5, 8], [2, 5, 8]), ([9], [9]), ([], [])])
def dJ.B3 : List Nat := [0, 1, 3, 0, 8, 31, 0, 64, 255, 511, 1023, 0]
theorem dJ.qd : gK .any (opsOf Tryd.f68 3) = dJ.T3 := by kernel_rfl
theorem dJ.mU : fM dJ.T3.2 dJ.B3 = true := by kernel_rfl
set_option maxHeartbeats 8000000 in
set_option maxRecDepth 100000 in
theorem dJ.calls (k : Nat) (aJ : ByteArray) (gP : Option Addr) (c0_1 : Nat) (eB : List (S77)) (jP : Option Addr) (c0_2 : Nat) (gq : List (jo)) (qo : Option Addr) (c0_3 : Nat) (jX : List (jq)) (r : ByteArray) (w : World) (hr0_1 : Kd.C k77 w gP eB.length eB) (hc0_1 : eB.length ≤ c0_1) (hr0_2 : Kd.C oh w jP gq.length gq) (hc0_2 : gq.length ≤ c0_2) (hr0_3 : Kd.C ol w qo jX.length jX) (hc0_3 : jX.length ≤ c0_3) (h : dJ.f k aJ eB gq jX = some r) (HGT : af (Go.Proofs.YthfphdbebnkdpaaDoorV.GT w)) :
  Calls Tryd.prog 68 #[.agg #[.string aJ, .slice gP eB.length c0_1, .slice jP gq.length c0_2, .slice qo jX.length c0_3]] w fun e w' => e = .returned (.string r) ∧ Below w.heap.size w w' := by
 have hu82 := Tryd.underlying82
 have lC := af.mk hr0_1
 have lD := af.mk hc0_1
 clear hr0_1 hc0_1
 have pF := af.mk hr0_2
 have pG := af.mk hc0_2
 clear hr0_2 hc0_2
 have yC := af.mk hr0_3
 have yD := af.mk hc0_3
 clear hr0_3 hc0_3
 have HB := af.mk (Below.refl w.heap.size w)
 have H : ((aM.f (([(⟨#[110, 101, 116, 119, 111, 114, 107]⟩ : ByteArray), aJ, (⟨#[123]⟩ : ByteArray)] : List ByteArray))).bind fun t105 => (if t105.size + 1 ≤ 9223372036854775807 then ((dV.f k eB o6).bind fun aX => ((dQ.f k gq lS).bind fun t109 => ((dP.f k jX kR).bind fun gU => (dJ.tail t105 aX t109 gU)))) else (none))) = some r := h
 clear h
 obtain ⟨y102, hy102⟩ : ∃ y_ : List ByteArray, y_ = (([(⟨#[110, 101, 116, 119, 111, 114, 107]⟩ : ByteArray), aJ, (⟨#[123]⟩ : ByteArray)] : List ByteArray)) := ⟨_, rfl⟩
 replace H : ((aM.f y102).bind fun t105 => (if t105.size + 1 ≤ 9223372036854775807 then ((dV.f k eB o6).bind fun aX => ((dQ.f k gq lS).bind fun t109 => ((dP.f k jX kR).bind fun gU => (dJ.tail t105 aX t109 gU)))) else (none))) = some r := by first | (rw [hy102]; with_reducible exact H) | (have H2_ := (Option.bind_some _ _).symm.trans H; rw [hy102]; with_reducible exact H2_) | (have H2_ := (Option.bind_some _ _).symm.trans H; with_reducible exact H2_) | with_reducible exact H | (rw [hy102]; exact H) | exact H
 have Ny102 := af.mk hy102
 clear hy102
 replace H := Option.bind_eq_some_iff.mp H
 obtain ⟨t105, A20, H⟩ := H
 replace H : (if t105.size + 1 ≤ 9223372036854775807 then ((dV.f k eB o6).bind fun aX => ((dQ.f k gq lS).bind fun t109 => ((dP.f k jX kR).bind fun gU => (dJ.tail t105 aX t109 gU)))) else (none)) = some r := H
 have A2 := af.mk A20
 clear A20
 by_cases c3 : t105.size + 1 ≤ 9223372036854775807
 ·rw [if_pos c3] at H
  have gG := eq_true c3
  have gY : decide (t105.size + 1 ≤ 9223372036854775807) = true := decide_eq_true c3
  try have ww : (9223372036854775807 < t105.size + 1) = False := eq_false (Nat.not_lt.2 c3)
  replace H := Option.bind_eq_some_iff.mp H
  obtain ⟨aX, A40, H⟩ := H
  replace H : ((dQ.f k gq lS).bind fun t109 => ((dP.f k jX kR).bind fun gU => (dJ.tail t105 aX t109 gU))) = some r := H
  have A4 := af.mk A40
  clear A40
  replace H := Option.bind_eq_some_iff.mp H
  obtain ⟨t109, A50, H⟩ := H
  replace H : ((dP.f k jX kR).bind fun gU => (dJ.tail t105 aX t109 gU)) = some r := H
  have A5 := af.mk A50
  clear A50
  replace H := Option.bind_eq_some_iff.mp H
  obtain ⟨gU, A60, H⟩ := H
  replace H : (dJ.tail t105 aX t109 gU) = some r := H
  have A6 := af.mk A60
  clear A60
  obtain ⟨y115, hy115⟩ : ∃ y_ : List (List ByteArray), y_ = (([aX, t109, gU] : List (List ByteArray))) := ⟨_, rfl⟩
  replace H : (dJ.tail t105 aX t109 gU) = some r := by first | (rw [hy115]; with_reducible exact H) | (have H2_ := (Option.bind_some _ _).symm.trans H; rw [hy115]; with_reducible exact H2_) | (have H2_ := (Option.bind_some _ _).symm.trans H; with_reducible exact H2_) | with_reducible exact H | (rw [hy115]; exact H) | exact H
  have Ny115 := af.mk hy115
  clear hy115
  obtain ⟨hbnd, hres⟩ : (nI t105 ([aX, t109, gU] : List (List ByteArray)).flatten).length ≤ 140737488355328 ∧ (⟨(nI t105 ([aX, t109, gU] : List (List ByteArray)).flatten).toArray⟩ : ByteArray) = r := by
   unfold dJ.tail at H
   split at H
   ·rename_i h_; exact ⟨h_, Option.some.inj H⟩
   ·cases H
  clear H
  have HBND := af.mk hbnd
  have HRES := af.mk hres
  have HL0 := af.mk (show ([] : List Value).length + (t105 ++ (⟨#[10]⟩ : ByteArray)).size ≤ 140737488355328 by
   have h1 := qM t105 [] ([aX, t109, gU] : List (List ByteArray)).flatten
   have h2 : (jK t105 []).length = t105.size + 1 := by simp [jK]
   have h3 : (nI t105 ([aX, t109, gU] : List (List ByteArray)).flatten).length = (jK t105 ([aX, t109, gU] : List (List ByteArray)).flatten).length + 2 := by simp [nI]
   rw [ByteArray.size_append]
   rw [List.nil_append] at h1
   show 0 + (t105.size + 1) ≤ _
   omega)
  clear hbnd hres
  go_enter Tryd.func68, Tryd.ntmps68
  try go_wp2_with (first | ((with_reducible refine aU (N := 1) rfl ?_); refine bz ?hg (N := 1) ?hd (cs := #[.string aJ, .slice gP eB.length c0_1, .slice jP gq.length c0_2, .slice qo jX.length c0_3]) (t := 82) ?hr ?_; (case hd => rfl); (case hg => rfl); (case hr => first | (go_simp; done) | (go_simp; rfl)); intro ax hg w7 hbox hb; have ag := af.mk (hbox); have GW101 := qge HB hg; have dE := qge HB hg; replace HB := af.mk (ai (qw HB) hb); clear hb hbox hg; have hcz8_0 : w7.cell? ⟨ax, 0, none⟩ = some (.string aJ) := (ae ag.out 0).trans rfl; have hcz8_1 : w7.cell? ⟨ax, 1, none⟩ = some (.slice gP eB.length c0_1) := (ae ag.out 1).trans rfl; have hcz8_2 : w7.cell? ⟨ax, 2, none⟩ = some (.slice jP gq.length c0_2) := (ae ag.out 2).trans rfl; have hcz8_3 : w7.cell? ⟨ax, 3, none⟩ = some (.slice qo jX.length c0_3) := (ae ag.out 3).trans rfl; have hfz8_0 := ah ag.out 0; have hfz8_1 := ah ag.out 1; have hfz8_2 := ah ag.out 2; have hfz8_3 := ah ag.out 3) | ((with_reducible refine aU (N := 3) rfl ?_); refine Go.Proofs.YthfphdbebnkdpaaDoorV.nE ?hg (N := 3) ?hd (T := 105) (e := 5) ?hr ?_; (case hd => rfl); (case hg => rfl); (case hr => first | (go_simp; done) | (go_simp; rfl)); intro gbB hgB wB hbi hb; have HBI := af.mk hbi; have GEB := qge HB hgB; have GLT := af.mk (show ax < gbB by rw [hgB]; exact jf (qb ag)); have GSB := af.mk (show gbB < wB.heap.size by obtain ⟨cs_, hc_⟩ := Go.Proofs.YthfphdbebnkdpaaDoorV.ky hbi; exact jf hc_); replace HB := af.mk (ai (qw HB) hb); replace ag := qbb ag hb; have HBB := af.mk (Below.refl wB.heap.size wB); clear hbi hb hgB; have hcB_0 : wB.cell? ⟨ax, 0, none⟩ = some (.string aJ) := (ae ag.out 0).trans rfl; have hfB_0 := ah ag.out 0; have hcB_1 : wB.cell? ⟨ax, 1, none⟩ = some (.slice gP eB.length c0_1) := (ae ag.out 1).trans rfl; have hfB_1 := ah ag.out 1; have hcB_2 : wB.cell? ⟨ax, 2, none⟩ = some (.slice jP gq.length c0_2) := (ae ag.out 2).trans rfl; have hfB_2 := ah ag.out 2; have hcB_3 : wB.cell? ⟨ax, 3, none⟩ = some (.slice qo jX.length c0_3) := (ae ag.out 3).trans rfl; have hfB_3 := ah ag.out 3) | ((with_reducible refine aU (N := 10) rfl ?_); refine Kd.jw Kd.string _ 9 ?hg (N := 10) ?hd (xs := ([(⟨#[110, 101, 116, 119, 111, 114, 107]⟩ : ByteArray), aJ, (⟨#[123]⟩ : ByteArray)] : List ByteArray)) (inner := [.string (⟨#[110, 101, 116, 119, 111, 114, 107]⟩ : ByteArray), .string aJ, .string (⟨#[123]⟩ : ByteArray)]) (ok := fun _ => True) (okp := fun _ => True) ?hr ?hp (fun _ hk => hk) trivial (Below.refl _ _) (Nat.le_refl _) (by simp) ?_; (case hd => rfl); (case hg => rfl); (case hr => first | (go_simp; done) | (go_simp; rfl)); (case hp => exact (bZ.one (show Kd.M Kd.string _ _ _ (⟨#[110, 101, 116, 119, 111, 114, 107]⟩ : ByteArray) [.string (⟨#[110, 101, 116, 119, 111, 114, 107]⟩ : ByteArray)] from rfl) (bZ.one (show Kd.M Kd.string _ _ _ aJ [.string aJ] from rfl) (bZ.one (show Kd.M Kd.string _ _ _ (⟨#[123]⟩ : ByteArray) [.string (⟨#[123]⟩ : ByteArray)] from rfl) (bZ.none _ _))))); intro v103 w9 um hb hg_ hnew_; clear hg_ hnew_; (first | rw [← Ny102.out] at um | (simp only [Int.reduceToNat] at um; rw [← Ny102.out] at um)); have n0_ := af.mk (Kd.dI um (bg (qw HB))); have n1_ := qbb ag hb; replace HBB := af.mk (ai (qw HBB) hb); have n2_ := af.mk (ai (qw HB) hb); clear ag; clear HB; have eG := n0_; have ag := n1_; have HB := n2_; clear n0_ n1_ n2_; clear hb um; obtain ⟨wH, wI, uY⟩ := Kd.dW eG.out; subst uY) | ((with_reducible refine aN (f := 39) rfl ?_); refine cu (some 11) rfl rfl Tryd.func39 (by kernel_rfl) rfl #[.slice wH y102.length wI] rfl qt ?_; (with_reducible refine (aM.calls _ _ y102 t105 _ ?bI ?bJ A2.out).mono ?_); (case bI => exact qs ((Kd.aZ eG.out).2.2)); (case bJ => exact (Kd.aZ eG.out).2.1); rintro e w12 ⟨rfl, hb⟩; refine ⟨_, rfl, ?_⟩; have n0_ := af.mk (Kd.bH (qr eG) hb); have n1_ := qbb ag hb; replace HBB := af.mk (ai (qw HBB) hb); have n2_ := af.mk (ai (qw HB) hb); clear eG; clear ag; clear HB; have eG := n0_; have ag := n1_; have HB := n2_; clear n0_ n1_ n2_; (try clear hb); (try clear hb2); (try clear hk); (try clear hi)) | ((with_reducible refine aN (f := 65) rfl ?_); refine cu (some 13) rfl rfl Tryd.func65 (by kernel_rfl) rfl #[.pointer (some ⟨gbB, 0, none⟩), .string (t105 ++ (⟨#[10]⟩ : ByteArray))] rfl (by (try simp only [List.map_toArray, List.map_cons, List.map_nil]); first | done | rfl) ?_; (with_reducible refine (Tryd.Builder_WriteString_k gbB gbB [] (t105 ++ (⟨#[10]⟩ : ByteArray)) _ ?hbi ?hlen ?hsz).mono ?_); (case hbi => exact Go.Proofs.YthfphdbebnkdpaaDoorV.lQ HBI.out (qw HBB)); (case hlen => exact HL0.out); (case hsz => exact Nat.le_of_lt (Nat.lt_of_lt_of_le GSB.out (bg (qw HBB)))); rintro e wS ⟨he, hat, hb, hk⟩; obtain ⟨z13, hz13⟩ : ∃ z_ : Int, (((t105 ++ (⟨#[10]⟩ : ByteArray)).size : Nat) : Int) = z_ := ⟨_, rfl⟩; rw [hz13] at he; subst he; clear hz13; refine ⟨_, rfl, ?_⟩; obtain ⟨cs_, hc_⟩ := Go.Proofs.YthfphdbebnkdpaaDoorV.ky (Go.Proofs.YthfphdbebnkdpaaDoorV.lQ HBI.out (qw HBB)); replace eG := af.mk (Go.Proofs.YthfphdbebnkdpaaDoorV.sM (qr eG) hk hc_ (by decide)); replace ag := af.mk ((hb.block ax GLT.out).trans (qb ag)); replace HB := af.mk (Below.trans (qw HB) (hb.mono GEB.out)); replace HBI := af.mk (show Lib.IsBuilderF 105 5 gbB gbB (Lib.byteCells (jK t105 [])) wS from Or.inr (by have h_ := hat; rw [List.nil_append, ul] at h_; exact h_)); replace HBB := af.mk (Below.refl wS.heap.size wS); replace GSB := af.mk (show gbB < wS.heap.size by obtain ⟨cs1_, hc1_⟩ := Go.Proofs.YthfphdbebnkdpaaDoorV.ky HBI.out; exact jf hc1_); clear hat hb hk hc_))
  have n0_ := af.mk (Kd.dD eG.out)
  have n1_ := af.mk (dC ag.out)
  replace HBB := af.mk (av HBB.out)
  have n2_ := af.mk (av HB.out)
  clear eG ag HB
  have eG := n0_
  have ag := n1_
  have HB := n2_
  clear n0_ n1_ n2_
  refine gm (n := 12) (S := fun w' => w'.cell? ⟨ax, 0, none⟩ = some (.string aJ) ∧ w'.cell? ⟨ax, 1, none⟩ = some (.slice gP eB.length c0_1) ∧ w'.cell? ⟨ax, 2, none⟩ = some (.slice jP gq.length c0_2) ∧ w'.cell? ⟨ax, 3, none⟩ = some (.slice qo jX.length c0_3)) (ds := []) #[bF,bF,bF,bF,bF,bF,bF,bF,bF,bF,bF,bF] (by kernel_rfl) rfl rfl ⟨(ae ag.out 0).trans rfl, (ae ag.out 1).trans rfl, (ae ag.out 2).trans rfl, (ae ag.out 3).trans rfl⟩ (fun hHeld => ?_); refine eH dJ.qd dJ.mU (fun HT_ HW_ => ?_)
  generalize wS.drew = w13 at HBB eG ag HB hHeld ⊢
  refine aY 0 (some 14) HT_ ?_
  refine aY 3 (some 17) HT_ ?_
  refine aY 6 (some 20) HT_ ?_
  refine aY 11 (some 25) HT_ ?_
  refine d9 1 (some 15) HT_ HW_ hHeld ?_
  refine d9 4 (some 18) HT_ HW_ hHeld ?_
  refine d9 7 (some 21) HT_ HW_ hHeld ?_
  refine gF 2 (some 16) HT_ (fun K hK => ?_)
  refine fe Tryd.func98 #[.slice gP eB.length c0_1, .func (.func 99) #[] #[]] ?_
  with_reducible refine (dV.calls k _ _ eB o6 aX _ ?bI ?bJ A4.out ?gt).mono ?_
  (case gt => exact Go.Proofs.YthfphdbebnkdpaaDoorV.GT.below HGT (qw HB))
  (case bI => exact qs ((Kd.eY lC.out HB.out)))
  (case bJ => exact lD.out)
  rintro e w14 ⟨v107, rfl, ho0, hb⟩
  refine ⟨_, rfl, ?_⟩
  have n0_ := af.mk (Kd.fV (qr eG) (Kd.iC ho0) hb)
  have n1_ := af.mk (Kd.dI (Kd.iE ho0 (Kd.kL (qr eG))) (bg (qw HB)))
  have n2_ := qbb ag hb
  replace HBB := af.mk (ai (qw HBB) hb)
  have n3_ := af.mk (ai (qw HB) hb)
  clear eG ag HB
  have eG := n0_
  have gW := n1_
  have ag := n2_
  have HB := n3_
  clear n0_ n1_ n2_ n3_
  (try clear hb)
  (try clear hb2)
  (try clear hk)
  (try clear hi)
  (try clear ho0)
  refine hK.out _ _ ⟨(ae ag.out 0).trans rfl, (ae ag.out 1).trans rfl, (ae ag.out 2).trans rfl, (ae ag.out 3).trans rfl⟩ (fun hHeld => ?_)
  clear hK K
  refine eX (some 16) ?_
  refine gF 5 (some 19) HT_ (fun K hK => ?_)
  refine fe Tryd.func100 #[.slice jP gq.length c0_2, .func (.func 101) #[] #[]] ?_
  with_reducible refine (dQ.calls k _ _ gq lS t109 _ ?bI ?bJ A5.out).mono ?_
  (case bI => exact qs ((Kd.eY pF.out HB.out)))
  (case bJ => exact pG.out)
  rintro e w15 ⟨v110, rfl, ho0, hb⟩
  refine ⟨_, rfl, ?_⟩
  have n0_ := af.mk (Kd.fV (qr eG) (Kd.iC ho0) hb)
  have n1_ := af.mk (Kd.fV (qr gW) (Kd.iC ho0) hb)
  have n2_ := af.mk (Kd.dI (Kd.iE (Kd.iE ho0 (Kd.kL (qr eG))) (Kd.kL (qr gW))) (bg (qw HB)))
  have n3_ := qbb ag hb
  replace HBB := af.mk (ai (qw HBB) hb)
  have n4_ := af.mk (ai (qw HB) hb)
  clear eG gW ag HB
  have eG := n0_
  have gW := n1_
  have l8 := n2_
  have ag := n3_
  have HB := n4_
  clear n0_ n1_ n2_ n3_ n4_
  (try clear hb)
  (try clear hb2)
  (try clear hk)
  (try clear hi)
  (try clear ho0)
  refine hK.out _ _ ⟨(ae ag.out 0).trans rfl, (ae ag.out 1).trans rfl, (ae ag.out 2).trans rfl, (ae ag.out 3).trans rfl⟩ (fun hHeld => ?_)
  clear hK K
  refine eX (some 19) ?_
  refine gF 8 (some 22) HT_ (fun K hK => ?_)
  refine fe Tryd.func102 #[.slice qo jX.length c0_3, .func (.func 103) #[] #[]] ?_
  with_reducible refine (dP.calls k _ _ jX kR gU _ ?bI ?bJ A6.out ?gt).mono ?_
  (case gt => exact Go.Proofs.YthfphdbebnkdpaaDoorV.GT.below HGT (qw HB))
  (case bI => exact qs ((Kd.eY yC.out HB.out)))
  (case bJ => exact yD.out)
  rintro e w16 ⟨v113, rfl, ho0, hb⟩
  refine ⟨_, rfl, ?_⟩
  have n0_ := af.mk (Kd.fV (qr eG) (Kd.iC ho0) hb)
  have n1_ := af.mk (Kd.fV (qr gW) (Kd.iC ho0) hb)
  have n2_ := af.mk (Kd.fV (qr l8) (Kd.iC ho0) hb)
  have n3_ := af.mk (Kd.dI (Kd.iE (Kd.iE (Kd.iE ho0 (Kd.kL (qr eG))) (Kd.kL (qr gW))) (Kd.kL (qr l8))) (bg (qw HB)))
  have n4_ := qbb ag hb
  replace HBB := af.mk (ai (qw HBB) hb)
  have n5_ := af.mk (ai (qw HB) hb)
  clear eG gW l8 ag HB
  have eG := n0_
  have gW := n1_
  have l8 := n2_
  have kF := n3_
  have ag := n4_
  have HB := n5_
  clear n0_ n1_ n2_ n3_ n4_ n5_
  (try clear hb)
  (try clear hb2)
  (try clear hk)
  (try clear hi)
  (try clear ho0)
  obtain ⟨vv, rF, qh⟩ := Kd.dW gW.out
  (first | subst qh | (injection qh with f1_ f2_ f3_; have f4_ := f1_.symm; have f5_ := f3_.symm; clear f1_ f2_ f3_; subst f4_; subst f5_))
  obtain ⟨tX, tY, qi⟩ := Kd.dW l8.out
  (first | subst qi | (injection qi with f1_ f2_ f3_; have f4_ := f1_.symm; have f5_ := f3_.symm; clear f1_ f2_ f3_; subst f4_; subst f5_))
  obtain ⟨yE, yF, yG⟩ := Kd.dW kF.out
  (first | subst yG | (injection yG with f1_ f2_ f3_; have f4_ := f1_.symm; have f5_ := f3_.symm; clear f1_ f2_ f3_; subst f4_; subst f5_))
  refine hK.out _ _ ⟨(ae ag.out 0).trans rfl, (ae ag.out 1).trans rfl, (ae ag.out 2).trans rfl, (ae ag.out 3).trans rfl⟩ (fun hHeld => ?_)
  clear hK K
  refine eX (some 22) ?_
  refine gF 9 (some 23) HT_ (fun K hK => ?_)
  refine Kd.pV (Kd.slice 9 Kd.string) _ 72 ?hg (N' := 23) ?hd (xs := ([aX, t109, gU] : List (List ByteArray))) (inner := [.slice vv aX.length rF, .slice tX t109.length tY, .slice yE gU.length yF]) (ok := fun k_ => Go.Proofs.YthfphdbebnkdpaaDoorV.TY w16 k_ ∨ k_ = w16.heap.size) (okp := fun k_ => Go.Proofs.YthfphdbebnkdpaaDoorV.TY w16 k_) ?hr ?hp (fun _ hk => Or.inl hk) (Or.inr rfl) (Below.refl _ _) (Nat.le_refl _) (by simp) ?_; (case hd => rfl); (case hg => rfl); (case hr => first | (go_simp; done) | (go_simp; rfl)); (case hp => exact (bZ.one (show Kd.FK (Kd.slice 9 Kd.string) _ _ aX [.slice vv aX.length rF] from (Kd.j3 (Kd.aZ (Kd.fG (ok' := fun k_ => Go.Proofs.YthfphdbebnkdpaaDoorV.TY w16 k_) (Kd.gL gW.out) (fun k_ hk => Go.Proofs.YthfphdbebnkdpaaDoorV.nO hk (by decide)))).2.1 (Kd.R_F (Kd.fG (ok' := fun k_ => Go.Proofs.YthfphdbebnkdpaaDoorV.TY w16 k_) (Kd.gL gW.out) (fun k_ hk => Go.Proofs.YthfphdbebnkdpaaDoorV.nO hk (by decide)))))) (bZ.one (show Kd.FK (Kd.slice 9 Kd.string) _ _ t109 [.slice tX t109.length tY] from (Kd.j3 (Kd.aZ (Kd.fG (ok' := fun k_ => Go.Proofs.YthfphdbebnkdpaaDoorV.TY w16 k_) (Kd.gL l8.out) (fun k_ hk => Go.Proofs.YthfphdbebnkdpaaDoorV.nO hk (by decide)))).2.1 (Kd.R_F (Kd.fG (ok' := fun k_ => Go.Proofs.YthfphdbebnkdpaaDoorV.TY w16 k_) (Kd.gL l8.out) (fun k_ hk => Go.Proofs.YthfphdbebnkdpaaDoorV.nO hk (by decide)))))) (bZ.one (show Kd.FK (Kd.slice 9 Kd.string) _ _ gU [.slice yE gU.length yF] from (Kd.j3 (Kd.aZ (Kd.fG (ok' := fun k_ => Go.Proofs.YthfphdbebnkdpaaDoorV.TY w16 k_) (Kd.gL kF.out) (fun k_ hk => Go.Proofs.YthfphdbebnkdpaaDoorV.nO hk (by decide)))).2.1 (Kd.R_F (Kd.fG (ok' := fun k_ => Go.Proofs.YthfphdbebnkdpaaDoorV.TY w16 k_) (Kd.gL kF.out) (fun k_ hk => Go.Proofs.YthfphdbebnkdpaaDoorV.nO hk (by decide)))))) (bZ.none _ _)))))
  intro v116 w20 rM hb hg_ hnew_
  clear hg_
  (first | rw [← Ny115.out] at rM | (simp only [Int.reduceToNat] at rM; rw [← Ny115.out] at rM))
  have HN20 := af.mk (Go.Proofs.YthfphdbebnkdpaaDoorV.oZ rM hb hnew_ (by decide))
  clear hnew_
  have n0_ := af.mk (Kd.bH (qr eG) hb)
  have n1_ := af.mk (Kd.nX rM (bg (qw HB)))
  have n2_ := qbb ag hb
  replace HBB := af.mk (ai (qw HBB) hb)
  have n3_ := af.mk (ai (qw HB) hb)
  clear eG ag HB gW l8 kF
  have eG := n0_
  have ni := n1_
  have ag := n2_
  have HB := n3_
  clear n0_ n1_ n2_ n3_ hb rM
  obtain ⟨Br, Bt, yH⟩ := Kd.nY ni.out
  (first | subst yH | (injection yH with f1_ f2_ f3_; have f4_ := f1_.symm; have f5_ := f3_.symm; clear f1_ f2_ f3_; subst f4_; subst f5_))
  refine hK.out _ _ ⟨(ae ag.out 0).trans rfl, (ae ag.out 1).trans rfl, (ae ag.out 2).trans rfl, (ae ag.out 3).trans rfl⟩ (fun hHeld => ?_)
  clear hK K
  refine eX (some 23) ?_
  refine aY 10 (some 24) HT_ ?_
  refine iq HT_ ?_
  replace HBI := af.mk (Go.Proofs.YthfphdbebnkdpaaDoorV.lQ HBI.out (show Below wS.heap.size wS w20 from qw HBB))
  have HFB := af.mk (show gbB ≤ w20.heap.size from Nat.le_of_lt (Nat.lt_of_lt_of_le GSB.out (bg (show Below wS.heap.size wS w20 from qw HBB))))
  try go_wp2
  go_loopw [25] (fun v25 w' => ∃ i : Nat, i ≤ y115.length ∧ v25 = .int .i64 i ∧ af (Lib.IsBuilderF 105 5 gbB gbB (Lib.byteCells (jK t105 ((y115.take i).flatten))) w') ∧ af (Go.Proofs.YthfphdbebnkdpaaDoorV.KEEP w20 w') ∧ af (Below w.heap.size w w') ∧ af (gbB ≤ w'.heap.size)) (fun v25 _ => y115.length - (intOf v25).toNat)
  case atStart => exact ⟨0, Nat.zero_le _, rfl, ⟨by simpa using HBI.out⟩, ⟨Go.Proofs.YthfphdbebnkdpaaDoorV.KEEP.refl _⟩, ⟨HB.out⟩, ⟨HFB.out⟩⟩
  case round =>
   clear HB HBI HBB HFB
   obtain ⟨i, hi, rfl, HBI, HKP, HB, HGS⟩ := hrel
   have hylen : y115.length = 3 := by rw [Ny115.out]; rfl
   by_cases hlt : i < y115.length
   ·obtain ⟨x, hx⟩ : ∃ x, y115[i]? = some x := ⟨_, List.getElem?_eq_getElem hlt⟩
    obtain ⟨ad, A', c', hA, hle, hel⟩ := Go.Proofs.YthfphdbebnkdpaaDoorV.vU HN20.out hx
    subst hA
    have hcell := (hel _ HKP.out).1
    have HEL := Lib.hid hel
    have HX := Lib.hid hx
    have HLE := Lib.hid hle
    have hmx := (hel _ HKP.out).2.2.1
    have HMX := Lib.hid hmx
    have p0 : (0 ≤ (i : Int)) = True := eq_true (by omega)
    have p1 : ((i : Int) < (y115.length : Int)) = True := eq_true (by omega)
    have d0 : decide ((i : Int) < (y115.length : Int)) = true := decide_eq_true (by omega)
    have d2 : decide (i < y115.length) = true := decide_eq_true hlt
    have HYL := Lib.hid hylen
    have HLT := Lib.hid hlt
    clear hel hx hle hmx hylen hlt hi
    go_wp2
    go_loopw [31] (fun v31 w' => ∃ j : Nat, j ≤ x.length ∧ v31 = .int .i64 j ∧ af (Lib.IsBuilderF 105 5 gbB gbB (Lib.byteCells (jK t105 ((y115.take i).flatten ++ x.take j))) w') ∧ af (Go.Proofs.YthfphdbebnkdpaaDoorV.KEEP w20 w') ∧ af (Below w.heap.size w w') ∧ af (gbB ≤ w'.heap.size)) (fun v31 _ => x.length - (intOf v31).toNat)
    case atStart => exact ⟨0, Nat.zero_le _, rfl, ⟨by simpa using HBI.out⟩, HKP, HB, HGS⟩
    case round =>
     clear HBI HKP HB HGS
     obtain ⟨j, hj, rfl, HBI, HKP, HB, HGS⟩ := hrel
     by_cases hlj : j < x.length
     ·obtain ⟨y, hy⟩ : ∃ y, x[j]? = some y := ⟨_, List.getElem?_eq_getElem hlj⟩
      obtain ⟨ad2, e2, hc2⟩ := Kd.nK (HEL.out _ HKP.out).2 (j : Int) (by omega) (by omega)
      subst e2
      have hy' : l9 ByteArray.empty x (j : Int) = y := by simp [l9, hy]
      rw [hy', Int.toNat_natCast] at hc2
      have HXS := HX.out
      obtain ⟨ms, hms⟩ := qm y115 i x HXS j y hy
      have hsome := rJ t105 ((y115.take i).flatten ++ x.take j) ms y
      rw [← hms] at hsome
      have hall : (jK t105 y115.flatten).length + 2 ≤ 140737488355328 := by
       have h1 := HBND.out
       rw [← Ny115.out] at h1
       simpa [nI] using h1
      have HLN := af.mk (show (Lib.byteCells (jK t105 ((y115.take i).flatten ++ x.take j))).length + ((⟨#[32, 32]⟩ : ByteArray) ++ y ++ (⟨#[10]⟩ : ByteArray)).size ≤ 140737488355328 by
       rw [Lib.byteCells_length, nJ]; omega)
      have s1 : (9223372036854775807 < 2 + y.size) = False := eq_false (by omega)
      have s2 : (9223372036854775807 < ((⟨#[32, 32]⟩ : ByteArray) ++ y).size + 1) = False := eq_false (by rw [ByteArray.size_append]; show ¬ (9223372036854775807 < 2 + y.size + 1); omega)
      have s3 : (9223372036854775807 < 2 + y.size + 1) = False := eq_false (by omega)
      have p2 : (0 ≤ (j : Int)) = True := eq_true (by omega)
      have p3 : ((j : Int) < (x.length : Int)) = True := eq_true (by omega)
      have d3 : decide ((j : Int) < (x.length : Int)) = true := decide_eq_true (by omega)
      have d4 : decide (j < x.length) = true := decide_eq_true hlj
      have hmx := HMX.out
      have hwi : wrap64 ((j : Int) + 1) = (j : Int) + 1 := by unfold wrap64; omega
      have hwiw : IntKind.i64.wrap ((j : Int) + 1) = (j : Int) + 1 := (iP _).trans hwi
      have HY := Lib.hid hy
      have HLJ := Lib.hid hlj
      clear hy hy' hms hsome hall hmx hlj hj HXS
      go_wp2_with ((with_reducible refine aN (f := 65) rfl ?_); refine cu (some 38) rfl rfl Tryd.func65 (by kernel_rfl) rfl #[.pointer (some ⟨gbB, 0, none⟩), .string ((⟨#[32, 32]⟩ : ByteArray) ++ y ++ (⟨#[10]⟩ : ByteArray))] rfl (by (try simp only [List.map_toArray, List.map_cons, List.map_nil]); first | done | rfl) ?_; (with_reducible refine (Tryd.Builder_WriteString_k gbB gbB _ ((⟨#[32, 32]⟩ : ByteArray) ++ y ++ (⟨#[10]⟩ : ByteArray)) _ HBI.out HLN.out HGS.out).mono ?_); rintro e wX ⟨rfl, hat, hb, hk⟩; refine ⟨_, rfl, ?_⟩; have HAT := af.mk hat; have HBX := af.mk hb; have HKX := af.mk hk; clear hat hb hk)
      go_roundw
      case rel =>
       have hlj := HLJ.out
       obtain ⟨cs_, hc_⟩ := Go.Proofs.YthfphdbebnkdpaaDoorV.ky HBI.out
       refine ⟨j + 1, by omega, by go_num, ⟨?_⟩, ⟨Go.Proofs.YthfphdbebnkdpaaDoorV.KEEP.others HKP.out HKX.out hc_⟩, ⟨Below.trans HB.out (HBX.out.mono GEB.out)⟩, ⟨Nat.le_trans HGS.out HBX.out.size⟩⟩
       have h := HAT.out
       rw [uk, ← lH, ← nR] at h
       rw [show (y115.take i).flatten ++ x.take (j + 1) = (y115.take i).flatten ++ x.take j ++ [y] from by
        rw [List.take_add_one, HY.out, Option.toList_some, List.append_assoc]]
       exact .inr h
      case measure => have hlj := HLJ.out; have hmx := HMX.out; simp [intOf]; omega
     ·obtain rfl : j = x.length := by omega
      have d3 : decide (((x.length : Nat) : Int) < (x.length : Int)) = false := decide_eq_false (by omega)
      have d4 : decide (x.length < x.length) = false := decide_eq_false (by omega)
      have hwi : wrap64 ((i : Int) + 1) = (i : Int) + 1 := by have := HLT.out; have := HYL.out; unfold wrap64; omega
      have hwiw : IntKind.i64.wrap ((i : Int) + 1) = (i : Int) + 1 := (iP _).trans hwi
      clear hj hlj
      go_wp2
      go_roundw
      case rel =>
       have hlt := HLT.out
       refine ⟨i + 1, by omega, by go_num, ⟨?_⟩, HKP, HB, HGS⟩
       have h := HBI.out
       rw [List.take_length, show (y115.take i).flatten ++ x = (y115.take (i + 1)).flatten from by rw [List.take_add_one, HX.out]; simp] at h
       exact h
      case measure => have hlt := HLT.out; have hyl := HYL.out; simp [intOf]; omega
   ·obtain rfl : i = y115.length := by omega
    have d0 : decide (((y115.length : Nat) : Int) < (y115.length : Int)) = false := decide_eq_false (by omega)
    have d2 : decide (y115.length < y115.length) = false := decide_eq_false (by omega)
    have hbi := HBI.out
    rw [List.take_length] at hbi
    have HBI4 := af.mk hbi
    have hall : (jK t105 y115.flatten).length + 2 ≤ 140737488355328 := by
     have h1 := HBND.out
     rw [← Ny115.out] at h1
     simpa [nI] using h1
    have HLN := af.mk (show (Lib.byteCells (jK t105 y115.flatten)).length + (⟨#[125, 10]⟩ : ByteArray).size ≤ 140737488355328 by rw [Lib.byteCells_length]; exact hall)
    clear hi hlt hylen hbi hall HBI
    go_wp2_with (first
     | ((with_reducible refine aN (f := 65) rfl ?_); refine cu (some 41) rfl rfl Tryd.func65 (by kernel_rfl) rfl #[.pointer (some ⟨gbB, 0, none⟩), .string (⟨#[125, 10]⟩ : ByteArray)] rfl (by (try simp only [List.map_toArray, List.map_cons, List.map_nil]); first | done | rfl) ?_; (with_reducible refine (Tryd.Builder_WriteString_k gbB gbB _ (⟨#[125, 10]⟩ : ByteArray) _ HBI4.out HLN.out HGS.out).mono ?_); rintro e wX ⟨rfl, hat, hb, hk⟩; refine ⟨_, rfl, ?_⟩; have HAT := af.mk (show Lib.IsBuilderF 105 5 gbB gbB (Lib.byteCells (nI t105 y115.flatten)) wX from Or.inr (by have h_ := hat; rw [show Lib.strCells (⟨#[125, 10]⟩ : ByteArray) = Lib.byteCells [125, 10] from rfl, ← lH] at h_; exact h_)); have HBX := af.mk hb; clear hat hb hk)
     | ((with_reducible refine aN (f := 66) rfl ?_); refine cu (some 42) rfl rfl Tryd.func66 (by kernel_rfl) rfl #[.pointer (some ⟨gbB, 0, none⟩)] rfl (by (try simp only [List.map_toArray, List.map_cons, List.map_nil]); first | done | rfl) ?_; (with_reducible refine (Tryd.Builder_String_any_k gbB gbB (nI t105 y115.flatten) _ HAT.out (Nat.le_trans HGS.out HBX.out.size)).mono ?_); rintro e wY ⟨rfl, _, hb, _⟩; refine ⟨_, rfl, ?_⟩; have HBY := af.mk hb; clear hb))
    go_ret
    exact ⟨by rw [← HRES.out, ← Ny115.out]; rfl, Below.trans (Below.trans HB.out (HBX.out.mono GEB.out)) (HBY.out.mono GEB.out)⟩
 ·rw [if_neg c3] at H
  exact absurd H (by simp)
end Go.Proofs.YthfphdbebnkdpaaDoor.P
end
section
namespace Go.Proofs.YthfphdbebnkdpaaDoor.P
open Go.RowKit Go.Proofs.YthfphdbebnkdpaaDoorW.aH Go.Proofs.YthfphdbebnkdpaaDoorW.aV Go.Proofs.YthfphdbebnkdpaaDoorW.bn
attribute [local go_sem] bR bS dn dw bB bC bU bV
set_option linter.unusedVariables false
set_option linter.unusedSimpArgs false
def eU.l0 : Nat → List ByteArray → List (S82) → Int → Int → Option (List ByteArray)
 | 0, _, _, _, _ => none
 | k + 1, x5, x11, x12, x13 => if x13 < x12 then (if 0 ≤ x13 then (if x13 < (x11.length : Int) then ((dJ.f k ((ed x11 x13).f0) ((ed x11 x13).f1) ((ed x11 x13).f2) ((ed x11 x13).f3)).bind fun aX => (if x13 < (x5.length : Int) then (eU.l0 k (x5.set (x13 : Int).toNat aX) x11 x12 (wrap64 (x13 + 1))) else (none))) else (none)) else (none)) else (some x5)
def eU.f (k : Nat) (l0 : List (S82)) (a1 : Bool) : Option (List ByteArray) := if 0 ≤ (l0.length : Int) then (if ((l0.length : Int) : Int).toNat ≤ 17592186044416 then (eU.l0 k (List.replicate ((l0.length : Int) : Int).toNat (⟨#[]⟩ : ByteArray)) l0 (l0.length : Int) 0) else (none)) else (none)
theorem eU.dZ : ∀ k, (∀ y0 y1 y2 y3, LeO (eU.l0 k y0 y1 y2 y3) (eU.l0 (k + 1) y0 y1 y2 y3))
 | 0 => fun _ _ _ _ r h => by simp [eU.l0] at h
 | k + 1 => by
  have ih0 := eU.dZ k
  ·intro y0 y1 y2 y3
   unfold eU.l0
   repeat' first
   | (with_reducible exact ih0 _ _ _ _)
   | (with_reducible exact dJ.mono _ _ _ _ _)
   | (with_reducible exact LeO.refl _)
   | (with_reducible exact LeO.none _)
   | (with_reducible refine LeO.ite ?_ ?_)
   | (with_reducible refine LeO.bind ?_ (fun _ => ?_))
   | exact ih0 _ _ _ _
   | exact dJ.mono _ _ _ _ _
   | exact LeO.none _
   | refine LeO.ite ?_ ?_
   | refine LeO.bind ?_ (fun _ => ?_)
theorem eU.mono : ∀ a0 a1 k, LeO (eU.f k a0 a1) (eU.f (k + 1) a0 a1) := by
 intro a0 a1 k
 have ih0 := eU.dZ k
 unfold eU.f
 repeat' first
   | (with_reducible exact ih0 _ _ _ _)
   | (with_reducible exact dJ.mono _ _ _ _ _)
   | (with_reducible exact LeO.refl _)
   | (with_reducible exact LeO.none _)
   | (with_reducible refine LeO.ite ?_ ?_)
   | (with_reducible refine LeO.bind ?_ (fun _ => ?_))
   | exact ih0 _ _ _ _
   | exact dJ.mono _ _ _ _ _
   | exact LeO.none _
   | refine LeO.ite ?_ ?_
   | refine LeO.bind ?_ (fun _ => ?_)
set_option maxHeartbeats 8000000 in
set_option maxRecDepth 100000 in
theorem eU.calls (k : Nat) (A0 : Option Addr) (c0 : Nat) (l0 : List (S82)) (a1 : Bool) (r : List ByteArray) (w : World) (hr0 : Kd.C k82 w A0 l0.length l0) (hc0 : l0.length ≤ c0) (h : eU.f k l0 a1 = some r) (HGT : af (Go.Proofs.YthfphdbebnkdpaaDoorV.GT w)) :
  Calls Tryd.prog 67 #[.slice A0 l0.length c0, .func (.func 68) #[] #[]] w fun e w' => ∃ v0_ : Value, e = .returned (v0_) ∧ Kd.R Kd.string 9 w' w.heap.size (fun _ => True) v0_ r ∧ Below w.heap.size w w' := by
 have hu82 := Tryd.underlying82
 have HR0 := af.mk hr0
 have HC0 := af.mk hc0
 clear hr0 hc0
 have HB := af.mk (Below.refl w.heap.size w)
 have H : (if 0 ≤ (l0.length : Int) then (if ((l0.length : Int) : Int).toNat ≤ 17592186044416 then (eU.l0 k (List.replicate ((l0.length : Int) : Int).toNat (⟨#[]⟩ : ByteArray)) l0 (l0.length : Int) 0) else (none)) else (none)) = some r := h
 clear h
 by_cases c3 : 0 ≤ (l0.length : Int)
 ·rw [if_pos c3] at H
  have gG := eq_true c3
  have gY : decide (0 ≤ (l0.length : Int)) = true := decide_eq_true c3
  clear c3
  by_cases c4 : ((l0.length : Int) : Int).toNat ≤ 17592186044416
  ·rw [if_pos c4] at H
   have ic := eq_true c4
   have iA : decide (((l0.length : Int) : Int).toNat ≤ 17592186044416) = true := decide_eq_true c4
   clear c4
   obtain ⟨y101, hy101⟩ : ∃ y_ : List ByteArray, y_ = (List.replicate ((l0.length : Int) : Int).toNat (⟨#[]⟩ : ByteArray)) := ⟨_, rfl⟩
   replace H : (eU.l0 k y101 l0 (l0.length : Int) 0) = some r := by first | (rw [hy101]; with_reducible exact H) | (have H2_ := (Option.bind_some _ _).symm.trans H; rw [hy101]; with_reducible exact H2_) | (have H2_ := (Option.bind_some _ _).symm.trans H; with_reducible exact H2_) | with_reducible exact H | (rw [hy101]; exact H) | exact H
   have Ny101 := af.mk hy101
   clear hy101
   have H' := af.mk H
   clear H
   go_enter Tryd.func67, Tryd.ntmps67
   go_wp2_with (first | ((with_reducible refine aU (N := 10) rfl ?_); refine Kd.jh Kd.string _ 9 rfl (N := 10) rfl 72 _ _ rfl (l0.length : Int) rfl rfl Tryd.underlying72 (.string ⟨#[]⟩) 16 lq rfl (by decide) (by omega) (⟨#[]⟩ : ByteArray) (ok := fun _ => True) (okp := fun _ => True) rfl (fun _ hk => hk) trivial (of_decide_eq_true qa) (Nat.le_trans (Nat.mul_le_mul_right _ (of_decide_eq_true qa : (l0.length : Int).toNat ≤ 17592186044416)) (by omega)) (Below.refl _ _) (Nat.le_refl _) ?_; intro v102 w5 ho6 hb hg_ hnew_; clear hg_ hnew_; (first | rw [← Ny101.out] at ho6 | (simp only [Int.reduceToNat] at ho6; rw [← Ny101.out] at ho6)); have eD := af.mk (Kd.dI ho6 (bg (qw HB))); replace HB := af.mk (ai (qw HB) hb); clear hb ho6))
   go_loopg [13] k (fun kq v13 w' => ∃ (bO : List ByteArray) (au : Int), v13 = .int .i64 au ∧ af (eU.l0 kq bO l0 (l0.length : Int) au = some r) ∧ af (kq ≤ k) ∧ af (Kd.R Kd.string 9 w' w.heap.size (fun _ => True) v102 bO) ∧ af (Below w.heap.size w w'))
   case atStart => exact ⟨(y101), (0), (by first | rfl | (simp; done) | (simp [*]; done)), H', ⟨Nat.le_refl _⟩, ⟨by (with_reducible repeat (first | apply Kd.cB | apply Kd.cK | apply Kd.dD)); exact eD.out⟩, ⟨by repeat (first | (with_reducible first | exact HB.out | apply aA | apply aj | apply av) | exact HB.out)⟩⟩
   case round =>
    clear H'
    try clear p2
    try clear c3
    try clear gG
    try clear gY
    try clear c4
    try clear ic
    try clear iA
    try clear c6
    obtain ⟨bO, au, rfl, HA, HK1, dN, HB⟩ := hrel
    cases gk with
    | zero => exact absurd HA.out (by simp [eU.l0])
    | succ k1 =>
     have H := HA.out
     clear HA
     simp only [eU.l0] at H
     by_cases c7 : au < (l0.length : Int)
     ·rw [if_pos c7] at H
      have iZ : decide (au < (l0.length : Int)) = true := decide_eq_true c7
      clear c7
      by_cases c8 : 0 ≤ au
      ·rw [if_pos c8] at H
       have jM : decide (0 ≤ au) = true := decide_eq_true c8
       clear c8
       by_cases c9 : au < (l0.length : Int)
       ·rw [if_pos c9] at H
        have kT : decide (au < (l0.length : Int)) = true := decide_eq_true c9
        clear c9
        replace H := Option.bind_eq_some_iff.mp H
        obtain ⟨aX, A100, H⟩ := H
        replace H : (if au < (bO.length : Int) then (eU.l0 k1 (bO.set (au : Int).toNat aX) l0 (l0.length : Int) (wrap64 (au + 1))) else (none)) = some r := H
        have A10 := af.mk A100
        clear A100
        by_cases c11 : au < (bO.length : Int)
        ·rw [if_pos c11] at H
         have jC : decide (au < (bO.length : Int)) = true := decide_eq_true c11
         clear c11
         obtain ⟨y107, hy107⟩ : ∃ y_ : List ByteArray, y_ = (bO.set (au : Int).toNat aX) := ⟨_, rfl⟩
         replace H : (eU.l0 k1 y107 l0 (l0.length : Int) (wrap64 (au + 1))) = some r := by first | (rw [hy107]; with_reducible exact H) | (have H2_ := (Option.bind_some _ _).symm.trans H; rw [hy107]; with_reducible exact H2_) | (have H2_ := (Option.bind_some _ _).symm.trans H; with_reducible exact H2_) | with_reducible exact H | (rw [hy107]; exact H) | exact H
         have Ny107 := af.mk hy107
         clear hy107
         have H' := af.mk H
         clear H
         have p104 : 0 ≤ (au : Int) := of_decide_eq_true qa
         have q104 : au < (l0.length : Int) := of_decide_eq_true qa
         obtain ⟨ad104, jm, c104_1, nk, c104_2, oK, c104_3, e104, hx104_0, hx104_1, hx104_2, hx104_3, hl104_1, hi104_1, hl104_2, hi104_2, hl104_3, hi104_3⟩ := wu HR0.out au p104 q104
         cases e104
         replace hx104_0 := (HB.out.cell (World.block_lt_of_cell? w _ hx104_0)).trans hx104_0
         replace hx104_1 := (HB.out.cell (World.block_lt_of_cell? w _ hx104_1)).trans hx104_1
         replace hx104_2 := (HB.out.cell (World.block_lt_of_cell? w _ hx104_2)).trans hx104_2
         replace hx104_3 := (HB.out.cell (World.block_lt_of_cell? w _ hx104_3)).trans hx104_3
         have oI := af.mk hi104_1
         have oJ := af.mk hl104_1
         clear hi104_1 hl104_1
         have vw := af.mk hi104_2
         have vz := af.mk hl104_2
         clear hi104_2 hl104_2
         have vB := af.mk hi104_3
         have vC := af.mk hl104_3
         clear hi104_3 hl104_3
         replace p104 := eq_true p104
         replace q104 := eq_true q104
         go_wp2_with (first | ((with_reducible refine aU (N := 7) rfl ?_); refine bz ?hg (N := 7) ?hd (cs := #[.string (⟨#[]⟩ : ByteArray), .slice none 0 0, .slice none 0 0, .slice none 0 0]) (t := 82) ?hr ?_; (case hd => rfl); (case hg => rfl); (case hr => first | (go_simp; done) | (go_simp; rfl)); intro dB hg w13 hbox hb; replace dN := af.mk (Kd.bH (qr dN) hb); have bD := af.mk (hbox); have GW105 := qge HB hg; have jN := qge HB hg; replace HB := af.mk (ai (qw HB) hb); clear hb hbox hg; have hcz14_0 : w13.cell? ⟨dB, 0, none⟩ = some (.string (⟨#[]⟩ : ByteArray)) := (ae bD.out 0).trans rfl; have hcz14_1 : w13.cell? ⟨dB, 1, none⟩ = some (.slice none 0 0) := (ae bD.out 1).trans rfl; have hcz14_2 : w13.cell? ⟨dB, 2, none⟩ = some (.slice none 0 0) := (ae bD.out 2).trans rfl; have hcz14_3 : w13.cell? ⟨dB, 3, none⟩ = some (.slice none 0 0) := (ae bD.out 3).trans rfl; have hfz14_0 := ah bD.out 0; have hfz14_1 := ah bD.out 1; have hfz14_2 := ah bD.out 2; have hfz14_3 := ah bD.out 3) | ((with_reducible refine Go.Proofs.YthfphdbebnkdpaaDoorV.gz (s := 20) rfl ?_); refine Go.Proofs.YthfphdbebnkdpaaDoorV.jB (some 22) rfl rfl Tryd.func68 (by kernel_rfl) rfl #[.agg #[.string ((ed l0 au).f0), .slice jm ((ed l0 au).f1).length c104_1, .slice nk ((ed l0 au).f2).length c104_2, .slice oK ((ed l0 au).f3).length c104_3]] rfl qt ?_; (with_reducible refine (dJ.calls k1 ((ed l0 au).f0) _ _ ((ed l0 au).f1) _ _ ((ed l0 au).f2) _ _ ((ed l0 au).f3) aX _ ?bI ?bJ ?lF ?lG ?yI ?yJ A10.out ?gt).mono ?_); (case gt => exact Go.Proofs.YthfphdbebnkdpaaDoorV.GT.below HGT (qw HB)); (case bI => exact Kd.eY oI.out (qw HB)); (case bJ => exact oJ.out); (case lF => exact Kd.eY vw.out (qw HB)); (case lG => exact vz.out); (case yI => exact Kd.eY vB.out (qw HB)); (case yJ => exact vC.out); rintro e w15 ⟨rfl, hb⟩; refine ⟨_, rfl, ?_⟩; replace dN := af.mk (Kd.bH (by (with_reducible repeat (first | apply Kd.cB | apply Kd.cK | apply Kd.dD)); exact (Kd.fG (Kd.gy (p := ⟨dB, 3, none⟩) (Kd.gy (p := ⟨dB, 2, none⟩) (Kd.gy (p := ⟨dB, 1, none⟩) (Kd.gy (p := ⟨dB, 0, none⟩) (Kd.jR dN.out bD.out (by decide)) (fun _ hk => hk.2) (.string ((ed l0 au).f0))) (fun _ hk => hk.2) (.slice jm ((ed l0 au).f1).length c104_1)) (fun _ hk => hk.2) (.slice nk ((ed l0 au).f2).length c104_2)) (fun _ hk => hk.2) (.slice oK ((ed l0 au).f3).length c104_3)) (fun _ h_ => h_.1))) hb); replace bD := af.mk (gX (g := dB) (o := .cells #[.string ((ed l0 au).f0), .slice jm ((ed l0 au).f1).length c104_1, .slice nk ((ed l0 au).f2).length c104_2, .slice oK ((ed l0 au).f3).length c104_3] 82 (0, 0)) (by refine cO (cs := #[.string ((ed l0 au).f0), .slice jm ((ed l0 au).f1).length c104_1, .slice nk ((ed l0 au).f2).length c104_2, .slice none 0 0]) ?_ 3 _ rfl; refine cO (cs := #[.string ((ed l0 au).f0), .slice jm ((ed l0 au).f1).length c104_1, .slice none 0 0, .slice none 0 0]) ?_ 2 _ rfl; refine cO (cs := #[.string ((ed l0 au).f0), .slice none 0 0, .slice none 0 0, .slice none 0 0]) ?_ 1 _ rfl; refine cO (cs := #[.string (⟨#[]⟩ : ByteArray), .slice none 0 0, .slice none 0 0, .slice none 0 0]) ?_ 0 _ rfl; (with_reducible repeat (first | refine fK ?_ _ | refine dC ?_ | refine fJ ?_ _)); exact bD.out) hb); replace HB := af.mk (ai (qw HB) hb); (try clear hb); (try clear hb2); (try clear hk); (try clear hi); have p12 : 0 ≤ (au : Int) := of_decide_eq_true qa; have q12 : (au : Int) < ((bO.length : Int) : Int) := of_decide_eq_true qa; obtain ⟨go12, jk, iy, jl, gl12, cl12, HG12⟩ := Kd.jg dN.out (by omega); (first | cases iy | (injection iy with ea_ en_ ec_; (first | subst ea_ | (injection ea_ with ea_; subst ea_)); subst ec_; clear en_)); have kV := af.mk jl; have GG12 := af.mk HG12; clear jl gl12 HG12; obtain ⟨hx12_0, hf12_0⟩ := Kd.fD (⟨#[]⟩ : ByteArray) dN.out (au : Int) p12 q12; replace p12 := eq_true p12; replace q12 := eq_true q12; obtain ⟨hy16_, hz16_⟩ := Kd.fD (⟨#[]⟩ : ByteArray) dN.out (au : Int) (of_decide_eq_true qa) (of_decide_eq_true qa); have HP16 := Kd.ji dN.out (au : Int) aX) | ((with_reducible refine fZ (t := 9) (p := 23) rfl ?_); refine fH (t := 9) (p := 23) (v := ?vo_w17) (w1 := (w15.setCell ⟨go12, (au : Int).toNat, none⟩ (.string aX))) ?hg ?ho ?hn ?hr ?_; (case ho => rfl); (case hg => rfl); (case hn => rfl); (case hr => first | (go_simp; done) | (go_simp; rfl)); intro w17 hw; have hg : w15.grownBy w17 (some go12) := (by rw [hw]; exact HP16.2); have hp_ : Kd.R Kd.string 9 w17 w.heap.size (fun _ => True) (.slice (some ⟨go12, 0, none⟩) bO.length jk) y107 := (by rw [hw, Ny107.out]; exact HP16.1); clear HP16; replace bD := af.mk (iQ (g := dB) (o := .cells #[.string ((ed l0 au).f0), .slice jm ((ed l0 au).f1).length c104_1, .slice nk ((ed l0 au).f2).length c104_2, .slice oK ((ed l0 au).f3).length c104_3] 82 (0, 0)) (qb bD) hg (Kd.pO dN.out bD.out (by decide))); replace dN := af.mk (hp_); replace HB := af.mk ((by rw [hw]; exact bi (HB.out) kV.out : Below w.heap.size w w17)); clear hg hw hp_))
         go_roundg k1
         case measure => have := HK1.out; omega
         case rel => exact ⟨(y107), (wrap64 (au + 1)), (by first | rfl | (simp; done) | (simp [*]; done)), H', ⟨by have := HK1.out; omega⟩, ⟨by (with_reducible repeat (first | apply Kd.cB | apply Kd.cK | apply Kd.dD)); exact dN.out⟩, ⟨by repeat (first | (with_reducible first | exact HB.out | apply aA | apply aj | apply av | refine bi ?_ jN.out) | exact HB.out)⟩⟩
        ·rw [if_neg c11] at H
         exact absurd H (by simp)
       ·rw [if_neg c9] at H
        exact absurd H (by simp)
      ·rw [if_neg c8] at H
       exact absurd H (by simp)
     ·rw [if_neg c7] at H
      have iZ : decide (au < (l0.length : Int)) = false := decide_eq_false c7
      clear c7
      obtain rfl := Option.some.inj H
      go_wp2
      go_ret
      exact ⟨_, by first | rfl | (simp [errW_none, errW_some] <;> rfl) | (simp [*, errW_none, errW_some] <;> rfl), by (with_reducible repeat (first | apply Kd.cB | apply Kd.cK | apply Kd.dD)); exact dN.out, by repeat (first | (with_reducible first | exact HB.out | apply aA | apply aj | apply av) | exact HB.out)⟩
  ·rw [if_neg c4] at H
   exact absurd H (by simp)
 ·rw [if_neg c3] at H
  exact absurd H (by simp)
end Go.Proofs.YthfphdbebnkdpaaDoor.P
end
section
namespace Go.Proofs.YthfphdbebnkdpaaDoor.P
open Go.RowKit Go.Proofs.YthfphdbebnkdpaaDoorW.aH Go.Proofs.YthfphdbebnkdpaaDoorW.aV Go.Proofs.YthfphdbebnkdpaaDoorW.bn
attribute [local go_sem] bR bS dn dw bB bC bU bV
set_option linter.unusedVariables false
set_option linter.unusedSimpArgs false
def fC.f (k : Nat) (l0 : List (S82)) : Option (ByteArray) := (eU.f k l0 sW).bind fun dG => ((strings_Join.f dG (⟨#[]⟩ : ByteArray)).bind fun bf => (some bf))
theorem fC.mono : ∀ a0 k, LeO (fC.f k a0) (fC.f (k + 1) a0) := by
 intro a0 k
 unfold fC.f
 repeat' first
   | (with_reducible exact eU.mono _ _ _)
   | (with_reducible exact LeO.refl _)
   | (with_reducible exact LeO.none _)
   | (with_reducible refine LeO.ite ?_ ?_)
   | (with_reducible refine LeO.bind ?_ (fun _ => ?_))
   | exact eU.mono _ _ _
   | exact LeO.none _
   | refine LeO.ite ?_ ?_
   | refine LeO.bind ?_ (fun _ => ?_)
set_option maxHeartbeats 8000000 in
set_option maxRecDepth 100000 in
theorem fC.calls (k : Nat) (A0 : Option Addr) (c0 : Nat) (l0 : List (S82)) (r : ByteArray) (w : World) (hr0 : Kd.C k82 w A0 l0.length l0) (hc0 : l0.length ≤ c0) (h : fC.f k l0 = some r) (HGT : af (Go.Proofs.YthfphdbebnkdpaaDoorV.GT w)) :
  Calls Tryd.prog 48 #[.slice A0 l0.length c0] w fun e w' => e = .returned (.string r) ∧ Below w.heap.size w w' := by
 have HR0 := af.mk hr0
 have HC0 := af.mk hc0
 clear hr0 hc0
 have HB := af.mk (Below.refl w.heap.size w)
 have H : ((eU.f k l0 sW).bind fun dG => ((strings_Join.f dG (⟨#[]⟩ : ByteArray)).bind fun bf => (some bf))) = some r := h
 clear h
 replace H := Option.bind_eq_some_iff.mp H
 obtain ⟨dG, A20, H⟩ := H
 replace H : ((strings_Join.f dG (⟨#[]⟩ : ByteArray)).bind fun bf => (some bf)) = some r := H
 have A2 := af.mk A20
 clear A20
 replace H := Option.bind_eq_some_iff.mp H
 obtain ⟨bf, A30, H⟩ := H
 replace H : (some bf) = some r := H
 have A3 := af.mk A30
 clear A30
 obtain rfl := Option.some.inj H
 go_enter Tryd.func48, Tryd.ntmps48
 go_wp2_with (first | ((with_reducible refine aN (f := 67) rfl ?_); refine cu (some 4) rfl rfl Tryd.func67 (by kernel_rfl) rfl #[.slice A0 l0.length c0, .func (.func 68) #[] #[]] rfl qt ?_; (with_reducible refine (eU.calls k _ _ l0 sW dG _ ?bI ?bJ A2.out ?gt).mono ?_); (case gt => exact Go.Proofs.YthfphdbebnkdpaaDoorV.GT.below HGT (qw HB)); (case bI => exact qs (HR0.out)); (case bJ => exact HC0.out); rintro e w4 ⟨v102, rfl, ho0, hb⟩; refine ⟨_, rfl, ?_⟩; have eD := af.mk (Kd.dI ho0 (bg (qw HB))); replace HB := af.mk (ai (qw HB) hb); (try clear hb); (try clear hb2); (try clear hk); (try clear hi); (try clear ho0); obtain ⟨Ao5, co5, eo5⟩ := Kd.dW eD.out; subst eo5) | ((with_reducible refine aN (f := 45) rfl ?_); refine cu (some 5) rfl rfl Tryd.func45 (by kernel_rfl) rfl #[.slice Ao5 dG.length co5, .string (⟨#[]⟩ : ByteArray)] rfl qt ?_; (with_reducible refine (strings_Join.calls _ _ dG (⟨#[]⟩ : ByteArray) bf _ ?bI ?bJ A3.out).mono ?_); (case bI => exact qs ((Kd.aZ eD.out).2.2)); (case bJ => exact (Kd.aZ eD.out).2.1); rintro e w6 ⟨rfl, hb⟩; refine ⟨_, rfl, ?_⟩; replace eD := af.mk (Kd.bH (qr eD) hb); replace HB := af.mk (ai (qw HB) hb); (try clear hb); (try clear hb2); (try clear hk); (try clear hi)))
 go_ret
 exact ⟨by first | rfl | (simp [errW_none, errW_some] <;> rfl) | (simp [*, errW_none, errW_some] <;> rfl), by repeat (first | (with_reducible first | exact HB.out | apply aA | apply aj | apply av) | exact HB.out)⟩
end Go.Proofs.YthfphdbebnkdpaaDoor.P
end
section
namespace Go.Proofs.YthfphdbebnkdpaaDoor.P
open Go.RowKit Go.Proofs.YthfphdbebnkdpaaDoorW.aH Go.Proofs.YthfphdbebnkdpaaDoorW.aV Go.Proofs.YthfphdbebnkdpaaDoorW.bn
attribute [local go_sem] bR bS dn dw bB bC bU bV
set_option linter.unusedVariables false
set_option linter.unusedSimpArgs false
def eu.f (k : Nat)  : Option (Bool) := (fC.f k (([(⟨(⟨#[97]⟩ : ByteArray), (([(⟨(⟨#[114]⟩ : ByteArray), ([] : List (S40))⟩ : S77)] : List (S77))), ([] : List (jo)), ([] : List (jq))⟩ : S82)] : List (S82)))).bind fun t107 => (some (t107.toList == ([110, 101, 116, 119, 111, 114, 107, 32, 97, 32, 123, 10, 32, 32, 110, 111, 100, 101, 32, 114, 59, 10, 125, 10] : List UInt8)))
set_option maxHeartbeats 8000000 in
set_option maxRecDepth 100000 in
theorem eu.calls (k : Nat)  (r : Bool) (w : World) (h : eu.f k  = some r) (HGT : af (Go.Proofs.YthfphdbebnkdpaaDoorV.GT w)) :
  Calls Tryd.prog 21 #[] w fun e w' => e = .returned (.bool r) ∧ Below w.heap.size w w' := by
 have hu77 := Tryd.underlying77
 have hu82 := Tryd.underlying82
 have HB := af.mk (Below.refl w.heap.size w)
 have H : ((fC.f k (([(⟨(⟨#[97]⟩ : ByteArray), (([(⟨(⟨#[114]⟩ : ByteArray), ([] : List (S40))⟩ : S77)] : List (S77))), ([] : List (jo)), ([] : List (jq))⟩ : S82)] : List (S82)))).bind fun t107 => (some (t107.toList == ([110, 101, 116, 119, 111, 114, 107, 32, 97, 32, 123, 10, 32, 32, 110, 111, 100, 101, 32, 114, 59, 10, 125, 10] : List UInt8)))) = some r := h
 clear h
 obtain ⟨y101, hy101⟩ : ∃ y_ : List (S77), y_ = (([(⟨(⟨#[114]⟩ : ByteArray), ([] : List (S40))⟩ : S77)] : List (S77))) := ⟨_, rfl⟩
 replace H : ((fC.f k (([(⟨(⟨#[97]⟩ : ByteArray), y101, ([] : List (jo)), ([] : List (jq))⟩ : S82)] : List (S82)))).bind fun t107 => (some (t107.toList == ([110, 101, 116, 119, 111, 114, 107, 32, 97, 32, 123, 10, 32, 32, 110, 111, 100, 101, 32, 114, 59, 10, 125, 10] : List UInt8)))) = some r := by first | (rw [hy101]; with_reducible exact H) | (have H2_ := (Option.bind_some _ _).symm.trans H; rw [hy101]; with_reducible exact H2_) | (have H2_ := (Option.bind_some _ _).symm.trans H; with_reducible exact H2_) | with_reducible exact H | (rw [hy101]; exact H) | exact H
 have Ny101 := af.mk hy101
 clear hy101
 obtain ⟨y104, hy104⟩ : ∃ y_ : List (S82), y_ = (([(⟨(⟨#[97]⟩ : ByteArray), y101, ([] : List (jo)), ([] : List (jq))⟩ : S82)] : List (S82))) := ⟨_, rfl⟩
 replace H : ((fC.f k y104).bind fun t107 => (some (t107.toList == ([110, 101, 116, 119, 111, 114, 107, 32, 97, 32, 123, 10, 32, 32, 110, 111, 100, 101, 32, 114, 59, 10, 125, 10] : List UInt8)))) = some r := by first | (rw [hy104]; with_reducible exact H) | (have H2_ := (Option.bind_some _ _).symm.trans H; rw [hy104]; with_reducible exact H2_) | (have H2_ := (Option.bind_some _ _).symm.trans H; with_reducible exact H2_) | with_reducible exact H | (rw [hy104]; exact H) | exact H
 have Ny104 := af.mk hy104
 clear hy104
 replace H := Option.bind_eq_some_iff.mp H
 obtain ⟨t107, A10, H⟩ := H
 replace H : (some (t107.toList == ([110, 101, 116, 119, 111, 114, 107, 32, 97, 32, 123, 10, 32, 32, 110, 111, 100, 101, 32, 114, 59, 10, 125, 10] : List UInt8))) = some r := H
 have A1 := af.mk A10
 clear A10
 obtain rfl := Option.some.inj H
 go_enter Tryd.func21, Tryd.ntmps21
 go_wp2_with (first | ((with_reducible refine aU (N := 2) rfl ?_); refine Kd.vF k77 _ 77 ?hg (N' := 2) ?hd (xs := ([(⟨(⟨#[114]⟩ : ByteArray), ([] : List (S40))⟩ : S77)] : List (S77))) (inner := [.string (⟨#[114]⟩ : ByteArray), .slice none 0 0]) (ok := (fun _ => True)) (okp := (fun _ => True)) ?hr ?hp (fun _ hk => hk) ((show ∀ k_, w.heap.size ≤ k_ → (fun _ => True) k_ from fun k_ hk => trivial) _ (Nat.le_refl _)) (Below.refl _ _) (Nat.le_refl _) (by simp) ?_; (case hd => rfl); (case hg => rfl); (case hr => first | (go_simp; done) | (go_simp; rfl)); (case hp => exact (bZ.c2 (show Kd.FK k77 _ _ (⟨(⟨#[114]⟩ : ByteArray), ([] : List (S40))⟩ : S77) [.string (⟨#[114]⟩ : ByteArray), .slice none 0 0] from (uK _ _ (⟨(⟨#[114]⟩ : ByteArray), ([] : List (S40))⟩ : S77) (Nat.le_refl _) (Kd.sw _ _ _))) (bZ.none _ _))); intro v102 w2 ho3 hb hg_ hnew_; clear hg_ hnew_; (first | rw [← Ny101.out] at ho3 | (simp only [Int.reduceToNat] at ho3; rw [← Ny101.out] at ho3)); have eD := af.mk (Kd.nX ho3 (bg (qw HB))); replace HB := af.mk (ai (qw HB) hb); clear hb ho3; obtain ⟨Ao4, co4, eo4⟩ := Kd.nY eD.out; subst eo4) | ((with_reducible refine aU (N := 4) rfl ?_); refine Kd.vF k82 _ 82 ?hg (N' := 4) ?hd (xs := ([(⟨(⟨#[97]⟩ : ByteArray), y101, ([] : List (jo)), ([] : List (jq))⟩ : S82)] : List (S82))) (inner := [.string (⟨#[97]⟩ : ByteArray), .slice Ao4 y101.length co4, .slice none 0 0, .slice none 0 0]) (ok := (fun _ => True)) (okp := (fun _ => True)) ?hr ?hp (fun _ hk => hk) ((show ∀ k_, w2.heap.size ≤ k_ → (fun _ => True) k_ from fun k_ hk => trivial) _ (Nat.le_refl _)) (Below.refl _ _) (Nat.le_refl _) (by simp) ?_; (case hd => rfl); (case hg => rfl); (case hr => first | (go_simp; done) | (go_simp; rfl)); (case hp => exact (bZ.c4 (show Kd.FK k82 _ _ (⟨(⟨#[97]⟩ : ByteArray), y101, ([] : List (jo)), ([] : List (jq))⟩ : S82) [.string (⟨#[97]⟩ : ByteArray), .slice Ao4 y101.length co4, .slice none 0 0, .slice none 0 0] from (uO _ _ (⟨(⟨#[97]⟩ : ByteArray), y101, ([] : List (jo)), ([] : List (jq))⟩ : S82) (Kd.lm (Kd.pU (ok' := (fun _ => True)) (eD.out) (fun k_ hk => trivial))).2.1 (Kd.N_F (Kd.pU (ok' := (fun _ => True)) (eD.out) (fun k_ hk => trivial))) (Nat.le_refl _) (Kd.sw _ _ _) (Nat.le_refl _) (Kd.sw _ _ _))) (bZ.none _ _))); intro v105 w5 ho6 hb hg_ hnew_; clear hg_ hnew_; (first | rw [← Ny104.out] at ho6 | (simp only [Int.reduceToNat] at ho6; rw [← Ny104.out] at ho6)); have lv := af.mk (Kd.nX ho6 (bg (qw HB))); replace HB := af.mk (ai (qw HB) hb); clear eD; clear hb ho6; obtain ⟨Ao7, co7, eo7⟩ := Kd.nY lv.out; subst eo7) | ((with_reducible refine aN (f := 48) rfl ?_); refine cu (some 5) rfl rfl Tryd.func48 (by kernel_rfl) rfl #[.slice Ao7 y104.length co7] rfl qt ?_; (with_reducible refine (fC.calls k _ _ y104 t107 _ ?bI ?bJ A1.out ?gt).mono ?_); (case gt => exact Go.Proofs.YthfphdbebnkdpaaDoorV.GT.below HGT (qw HB)); (case bI => exact qs ((Kd.lm lv.out).2.2)); (case bJ => exact (Kd.lm lv.out).2.1); rintro e w8 ⟨rfl, hb⟩; refine ⟨_, rfl, ?_⟩; replace lv := af.mk (Kd.uC (by (with_reducible repeat (first | apply Kd.N_alloc | apply Kd.N_drewN | apply Kd.N_drew)); exact lv.out) hb); replace HB := af.mk (ai (qw HB) hb); (try clear hb); (try clear hb2); (try clear hk); (try clear hi)))
 go_ret
 exact ⟨by first | rfl | (simp [errW_none, errW_some] <;> rfl) | (simp [*, errW_none, errW_some] <;> rfl), by repeat (first | (with_reducible first | exact HB.out | apply aA | apply aj | apply av) | exact HB.out)⟩
end Go.Proofs.YthfphdbebnkdpaaDoor.P
end
section
namespace Go.Proofs.YthfphdbebnkdpaaDoor.P
open Go.RowKit Go.Proofs.YthfphdbebnkdpaaDoorW.aH Go.Proofs.YthfphdbebnkdpaaDoorW.aV Go.Proofs.YthfphdbebnkdpaaDoorW.bn
attribute [local go_sem] bR bS dn dw bB bC bU bV
set_option linter.unusedVariables false
set_option linter.unusedSimpArgs false
def bA.f (a0 : ByteArray) : Option (ByteArray) := if 0 ≤ (mn (a0.size : Int) 20) then (if (mn (a0.size : Int) 20) ≤ (a0.size : Int) then (some (a0.extract 0 ((mn (a0.size : Int) 20) : Int).toNat)) else (none)) else (none)
set_option maxHeartbeats 8000000 in
set_option maxRecDepth 100000 in
theorem bA.calls (a0 : ByteArray) (r : ByteArray) (w : World) (h : bA.f a0 = some r) :
  Calls Tryd.prog 37 #[.string a0] w fun e w' => e = .returned (.string r) ∧ Below w.heap.size w w' := by
 have HB := af.mk (Below.refl w.heap.size w)
 have H : (if 0 ≤ (mn (a0.size : Int) 20) then (if (mn (a0.size : Int) 20) ≤ (a0.size : Int) then (some (a0.extract 0 ((mn (a0.size : Int) 20) : Int).toNat)) else (none)) else (none)) = some r := h
 clear h
 obtain ⟨ji2, hji2⟩ : ∃ j_ : Int, (mn (a0.size : Int) 20) = j_ := ⟨_, rfl⟩
 replace H : (if 0 ≤ (ji2) then (if (ji2) ≤ (a0.size : Int) then (some (a0.extract 0 ((ji2) : Int).toNat)) else (none)) else (none)) = some r := by first | (rw [hji2] at H; exact H) | (simp only [hji2] at H ⊢; exact H)
 (try (have hji2h : ji2 ≤ 20 := by (rw [← hji2]; unfold mn; (repeat' split) <;> omega)))
 (try (have hji2g : ji2 ≤ 64 := by omega))
 (try (have hji2l : 0 ≤ ji2 := by (rw [← hji2]; unfold mn; (repeat' split) <;> omega)))
 (try (have hji2m : 0 ≤ ji2 := by omega))
 have hji2_ : (if 20 < (a0.size : Int) then 20 else (a0.size : Int)) = ji2 := hji2
 by_cases c3 : 0 ≤ (ji2)
 ·rw [if_pos c3] at H
  have gG := eq_true c3
  have gY : decide (0 ≤ (ji2)) = true := decide_eq_true c3
  clear c3
  by_cases c4 : (ji2) ≤ (a0.size : Int)
  ·rw [if_pos c4] at H
   have ic := eq_true c4
   have iA : decide ((ji2) ≤ (a0.size : Int)) = true := decide_eq_true c4
   clear c4
   obtain rfl := Option.some.inj H
   go_enter Tryd.func37, Tryd.ntmps37
   go_wp2
   go_ret
   exact ⟨by first | rfl | (simp [errW_none, errW_some] <;> rfl) | (simp only [← hji2]; first | rfl | (simp [errW_none, errW_some] <;> rfl)) | (simp [*, errW_none, errW_some] <;> rfl), by repeat (first | (with_reducible first | exact HB.out | apply aA | apply aj | apply av) | exact HB.out)⟩
  ·rw [if_neg c4] at H
   exact absurd H (by simp)
 ·rw [if_neg c3] at H
  exact absurd H (by simp)
end Go.Proofs.YthfphdbebnkdpaaDoor.P
end
section
namespace Go.Proofs.YthfphdbebnkdpaaDoor.P
open Go.RowKit Go.Proofs.YthfphdbebnkdpaaDoorW.aH Go.Proofs.YthfphdbebnkdpaaDoorW.aV Go.Proofs.YthfphdbebnkdpaaDoorW.bn
attribute [local go_sem] bR bS dn dw bB bC bU bV
set_option linter.unusedVariables false
set_option linter.unusedSimpArgs false
def aW.f (aJ : Int) (aD : ByteArray) (bL : ByteArray) (aR : ByteArray) (dH : Int) (dS : Int) (dX : Int) (dU : Int) : Option (Int × ByteArray × ByteArray × ByteArray × Int × Int × Int × Int) := (bA.f aD).bind fun bu => ((bA.f bL).bind fun bf => ((bA.f aR).bind fun t105 => (if dU < (-1000000) then (some (aJ, bu, bf, t105, dH, dS, dX, 3)) else (if dU > 2147483648 then (some (aJ, bu, bf, t105, dH, dS, dX, 3)) else (some (aJ, bu, bf, t105, dH, dS, dX, dU))))))
def aW.T1 : Bool × List (List Nat × List Nat) := (true, [([], []), ([0], [0]), ([1], [1]), ([], []), ([3], [3]), ([4, 2], [4]), ([], []), ([6], [6]), ([7, 5], [7]), ([0, 1, 2, 3, 4, 6, 7], []), ([9, 2, 8, 0, 1, 2, 3, 4, 6, 7], [2, 9]), ([0, 1, 2, 3, 4, 5, 6, 7, 9, 10], []), ([11, 5, 10, 0, 1, 2, 3, 4, 5, 6, 7, 9, 10], [5, 11]), ([0, 1, 2, 3, 4, 5, 6, 7, 8, 9, 10, 11, 12], []), ([13, 8, 12, 0, 1, 2, 3, 4, 5, 6, 7, 8, 9, 10, 11, 12], [8, 13])])
def aW.B1 : List Nat := [0, 1, 3, 0, 8, 31, 0, 64, 255, 223, 1023, 2047, 4095, 8191, 16383]
theorem aW.mg : gK .any (opsOf Tryd.f16 1) = aW.T1 := by kernel_rfl
theorem aW.jV : fM aW.T1.2 aW.B1 = true := by kernel_rfl
set_option maxHeartbeats 8000000 in
set_option maxRecDepth 100000 in
theorem aW.calls (aJ : Int) (aD : ByteArray) (bL : ByteArray) (aR : ByteArray) (dH : Int) (dS : Int) (dX : Int) (dU : Int) (r1 : Int) (r2 : ByteArray) (r3 : ByteArray) (r4 : ByteArray) (r5 : Int) (r6 : Int) (r7 : Int) (r8 : Int) (w : World) (h : aW.f aJ aD bL aR dH dS dX dU = some (r1, r2, r3, r4, r5, r6, r7, r8)) :
  Calls Tryd.prog 16 #[.agg #[.int .i64 aJ, .string aD, .string bL, .string aR, .int .u32 dH, .int .u32 dS, .int .i64 dX, .int .i64 dU]] w fun e w' => e = .returned (.agg #[.int .i64 r1, .string r2, .string r3, .string r4, .int .u32 r5, .int .u32 r6, .int .i64 r7, .int .i64 r8]) ∧ Below w.heap.size w w' := by
 have hu42 := Tryd.underlying42
 have HB := af.mk (Below.refl w.heap.size w)
 have H : ((bA.f aD).bind fun bu => ((bA.f bL).bind fun bf => ((bA.f aR).bind fun t105 => (if dU < (-1000000) then (some (aJ, bu, bf, t105, dH, dS, dX, 3)) else (if dU > 2147483648 then (some (aJ, bu, bf, t105, dH, dS, dX, 3)) else (some (aJ, bu, bf, t105, dH, dS, dX, dU))))))) = some (r1, r2, r3, r4, r5, r6, r7, r8) := h
 clear h
 replace H := Option.bind_eq_some_iff.mp H
 obtain ⟨bu, A20, H⟩ := H
 replace H : ((bA.f bL).bind fun bf => ((bA.f aR).bind fun t105 => (if dU < (-1000000) then (some (aJ, bu, bf, t105, dH, dS, dX, 3)) else (if dU > 2147483648 then (some (aJ, bu, bf, t105, dH, dS, dX, 3)) else (some (aJ, bu, bf, t105, dH, dS, dX, dU)))))) = some (r1, r2, r3, r4, r5, r6, r7, r8) := H
 have A2 := af.mk A20
 clear A20
 replace H := Option.bind_eq_some_iff.mp H
 obtain ⟨bf, A30, H⟩ := H
 replace H : ((bA.f aR).bind fun t105 => (if dU < (-1000000) then (some (aJ, bu, bf, t105, dH, dS, dX, 3)) else (if dU > 2147483648 then (some (aJ, bu, bf, t105, dH, dS, dX, 3)) else (some (aJ, bu, bf, t105, dH, dS, dX, dU))))) = some (r1, r2, r3, r4, r5, r6, r7, r8) := H
 have A3 := af.mk A30
 clear A30
 replace H := Option.bind_eq_some_iff.mp H
 obtain ⟨t105, A40, H⟩ := H
 replace H : (if dU < (-1000000) then (some (aJ, bu, bf, t105, dH, dS, dX, 3)) else (if dU > 2147483648 then (some (aJ, bu, bf, t105, dH, dS, dX, 3)) else (some (aJ, bu, bf, t105, dH, dS, dX, dU)))) = some (r1, r2, r3, r4, r5, r6, r7, r8) := H
 have A4 := af.mk A40
 clear A40
 by_cases c5 : dU < (-1000000)
 ·rw [if_pos c5] at H
  have iL : decide (dU < (-1000000)) = true := decide_eq_true c5
  clear c5
  simp only [Option.some.injEq, Prod.mk.injEq] at H
  obtain ⟨rfl, rfl, rfl, rfl, rfl, rfl, rfl, rfl⟩ := H
  go_enter Tryd.func16, Tryd.ntmps16
  try go_wp2_with (first | ((with_reducible refine aU (N := 1) rfl ?_); refine bz ?hg (N := 1) ?hd (cs := #[.int .i64 aJ, .string aD, .string bL, .string aR, .int .u32 dH, .int .u32 dS, .int .i64 dX, .int .i64 dU]) (t := 42) ?hr ?_; (case hd => rfl); (case hg => rfl); (case hr => first | (go_simp; done) | (go_simp; rfl)); intro ax hg w6 hbox hb; have ag := af.mk (hbox); have GW101 := qge HB hg; have dE := qge HB hg; replace HB := af.mk (ai (qw HB) hb); clear hb hbox hg) | ((with_reducible refine aU (N := 2) rfl ?_); refine bz ?hg (N := 2) ?hd (cs := #[.int .i64 0, .string (⟨#[]⟩ : ByteArray), .string (⟨#[]⟩ : ByteArray), .string (⟨#[]⟩ : ByteArray), .int .u32 0, .int .u32 0, .int .i64 0, .int .i64 0]) (t := 42) ?hr ?_; (case hd => rfl); (case hg => rfl); (case hr => first | (go_simp; done) | (go_simp; rfl)); intro gD hg w7 hbox hb; have dz := af.mk (hbox); have GW102 := qge HB hg; have pI := qge HB hg; replace HB := af.mk (ai (qw HB) hb); have fO := qnl ag hg; have dY := qng ag hg; replace ag := qbb ag hb; clear hb hbox hg))
  replace ag := af.mk (dC ag.out)
  replace dz := af.mk (dC dz.out)
  replace HB := af.mk (av HB.out)
  refine gm (n := 15) (S := fun w' => w'.cell? ⟨ax, 0, none⟩ = some (.int .i64 aJ) ∧ w'.cell? ⟨ax, 1, none⟩ = some (.string aD) ∧ w'.cell? ⟨ax, 2, none⟩ = some (.string bL) ∧ w'.cell? ⟨ax, 3, none⟩ = some (.string aR) ∧ w'.cell? ⟨ax, 4, none⟩ = some (.int .u32 dH) ∧ w'.cell? ⟨ax, 5, none⟩ = some (.int .u32 dS) ∧ w'.cell? ⟨ax, 6, none⟩ = some (.int .i64 dX) ∧ w'.cell? ⟨ax, 7, none⟩ = some (.int .i64 dU)) (ds := [10, 12, 14]) #[bF,bF,bF,bF,bF,bF,bF,bF,bF,bF,bF,bF,bF,bF,bF] (by kernel_rfl) rfl rfl ⟨(ae ag.out 0).trans rfl, (ae ag.out 1).trans rfl, (ae ag.out 2).trans rfl, (ae ag.out 3).trans rfl, (ae ag.out 4).trans rfl, (ae ag.out 5).trans rfl, (ae ag.out 6).trans rfl, (ae ag.out 7).trans rfl⟩ (fun hHeld => ?_); refine eH aW.mg aW.jV (fun HT_ HW_ => ?_)
  generalize w7.drew = w8 at ag dz HB hHeld ⊢
  refine aY 0 (some 3) HT_ ?_
  refine aY 3 (some 6) HT_ ?_
  refine aY 6 (some 9) HT_ ?_
  refine d9 1 (some 4) HT_ HW_ hHeld ?_
  refine d9 4 (some 7) HT_ HW_ hHeld ?_
  refine d9 7 (some 10) HT_ HW_ hHeld ?_
  refine gF 2 (some 5) HT_ (fun K hK => ?_)
  refine fe Tryd.func37 #[.string aD] ?_
  with_reducible refine (bA.calls aD bu _ A2.out).mono ?_
  rintro e w9 ⟨rfl, hb⟩
  refine ⟨_, rfl, ?_⟩
  replace ag := qbb ag hb
  replace dz := qbb dz hb
  replace HB := af.mk (ai (qw HB) hb)
  (try clear hb)
  (try clear hb2)
  (try clear hk)
  (try clear hi)
  refine hK.out _ _ ⟨(ae ag.out 0).trans rfl, (ae ag.out 1).trans rfl, (ae ag.out 2).trans rfl, (ae ag.out 3).trans rfl, (ae ag.out 4).trans rfl, (ae ag.out 5).trans rfl, (ae ag.out 6).trans rfl, (ae ag.out 7).trans rfl⟩ (fun hHeld => ?_)
  clear hK K
  refine eX (some 5) ?_
  refine aY 9 (some 12) HT_ ?_
  refine gF 5 (some 8) HT_ (fun K hK => ?_)
  refine fe Tryd.func37 #[.string bL] ?_
  with_reducible refine (bA.calls bL bf _ A3.out).mono ?_
  rintro e w10 ⟨rfl, hb⟩
  refine ⟨_, rfl, ?_⟩
  replace ag := qbb ag hb
  replace dz := qbb dz hb
  replace HB := af.mk (ai (qw HB) hb)
  (try clear hb)
  (try clear hb2)
  (try clear hk)
  (try clear hi)
  refine hK.out _ _ ⟨(ae ag.out 0).trans rfl, (ae ag.out 1).trans rfl, (ae ag.out 2).trans rfl, (ae ag.out 3).trans rfl, (ae ag.out 4).trans rfl, (ae ag.out 5).trans rfl, (ae ag.out 6).trans rfl, (ae ag.out 7).trans rfl⟩ (fun hHeld => ?_)
  clear hK K
  refine eX (some 8) ?_
  refine gF 8 (some 11) HT_ (fun K hK => ?_)
  refine fe Tryd.func37 #[.string aR] ?_
  with_reducible refine (bA.calls aR t105 _ A4.out).mono ?_
  rintro e w11 ⟨rfl, hb⟩
  refine ⟨_, rfl, ?_⟩
  replace ag := qbb ag hb
  replace dz := qbb dz hb
  replace HB := af.mk (ai (qw HB) hb)
  (try clear hb)
  (try clear hb2)
  (try clear hk)
  (try clear hi)
  refine hK.out _ _ ⟨(ae ag.out 0).trans rfl, (ae ag.out 1).trans rfl, (ae ag.out 2).trans rfl, (ae ag.out 3).trans rfl, (ae ag.out 4).trans rfl, (ae ag.out 5).trans rfl, (ae ag.out 6).trans rfl, (ae ag.out 7).trans rfl⟩ (fun hHeld => ?_)
  clear hK K
  refine eX (some 11) ?_
  refine lh (i := 10) (N := none) #[bT,bT,bT,bT,bT,bT,bT,bT,bT,bT,bT,bF,bF,bF,bF] rfl rfl (jG HT_.out (by kernel_rfl)) (by decide) (fun K hK => ?_)
  have hs12 : w11.cell? ⟨ax, 1, none⟩ = some (.string aD) := (ae ag.out 1).trans rfl
  have hfs12 := ah ag.out 1
  have hns12_1 := dY.out
  have hms12_1 := fO.out
  refine ll (w1 := ?_) (by rfl) rfl ?_ ?_
  rotate_left
  ·go_simp
   rfl
  refine hK.out _ _ ?_
  clear hK K
  refine aY 11 (some 13) HT_ ?_
  refine lh (i := 12) (N := none) #[bT,bT,bT,bT,bT,bT,bT,bT,bT,bT,bT,bT,bT,bF,bF] rfl rfl (jG HT_.out (by kernel_rfl)) (by decide) (fun K hK => ?_)
  have hs13 : w11.cell? ⟨ax, 2, none⟩ = some (.string bL) := (ae ag.out 2).trans rfl
  have hfs13 := ah ag.out 2
  have hns13_1 := dY.out
  have hms13_1 := fO.out
  refine ll (w1 := ?_) (by rfl) rfl ?_ ?_
  rotate_left
  ·go_simp
   rfl
  refine hK.out _ _ ?_
  clear hK K
  refine aY 13 (some 14) HT_ ?_
  refine lh (i := 14) (N := none) #[bT,bT,bT,bT,bT,bT,bT,bT,bT,bT,bT,bT,bT,bT,bT] rfl rfl (jG HT_.out (by kernel_rfl)) (by decide) (fun K hK => ?_)
  have hs14 : w11.cell? ⟨ax, 3, none⟩ = some (.string aR) := (ae ag.out 3).trans rfl
  have hfs14 := ah ag.out 3
  have hns14_1 := dY.out
  have hms14_1 := fO.out
  refine ll (w1 := ?_) (by rfl) rfl ?_ ?_
  rotate_left
  ·go_simp
   rfl
  refine hK.out _ _ ?_
  clear hK K
  refine iq HT_ ?_
  have hnb15 := fO.out
  have hnc15 := dY.out
  have hcz16_0 : w11.cell? ⟨ax, 0, none⟩ = some (.int .i64 aJ) := (ae ag.out 0).trans rfl
  have hcz16_1 : w11.cell? ⟨ax, 1, none⟩ = some (.string aD) := (ae ag.out 1).trans rfl
  have hcz16_2 : w11.cell? ⟨ax, 2, none⟩ = some (.string bL) := (ae ag.out 2).trans rfl
  have hcz16_3 : w11.cell? ⟨ax, 3, none⟩ = some (.string aR) := (ae ag.out 3).trans rfl
  have hcz16_4 : w11.cell? ⟨ax, 4, none⟩ = some (.int .u32 dH) := (ae ag.out 4).trans rfl
  have hcz16_5 : w11.cell? ⟨ax, 5, none⟩ = some (.int .u32 dS) := (ae ag.out 5).trans rfl
  have hcz16_6 : w11.cell? ⟨ax, 6, none⟩ = some (.int .i64 dX) := (ae ag.out 6).trans rfl
  have hcz16_7 : w11.cell? ⟨ax, 7, none⟩ = some (.int .i64 dU) := (ae ag.out 7).trans rfl
  have hfz16_0 := ah ag.out 0
  have hfz16_1 := ah ag.out 1
  have hfz16_2 := ah ag.out 2
  have hfz16_3 := ah ag.out 3
  have hfz16_4 := ah ag.out 4
  have hfz16_5 := ah ag.out 5
  have hfz16_6 := ah ag.out 6
  have hfz16_7 := ah ag.out 7
  have hcz17_0 : w11.cell? ⟨gD, 0, none⟩ = some (.int .i64 0) := (ae dz.out 0).trans rfl
  have hcz17_1 : w11.cell? ⟨gD, 1, none⟩ = some (.string (⟨#[]⟩ : ByteArray)) := (ae dz.out 1).trans rfl
  have hcz17_2 : w11.cell? ⟨gD, 2, none⟩ = some (.string (⟨#[]⟩ : ByteArray)) := (ae dz.out 2).trans rfl
  have hcz17_3 : w11.cell? ⟨gD, 3, none⟩ = some (.string (⟨#[]⟩ : ByteArray)) := (ae dz.out 3).trans rfl
  have hcz17_4 : w11.cell? ⟨gD, 4, none⟩ = some (.int .u32 0) := (ae dz.out 4).trans rfl
  have hcz17_5 : w11.cell? ⟨gD, 5, none⟩ = some (.int .u32 0) := (ae dz.out 5).trans rfl
  have hcz17_6 : w11.cell? ⟨gD, 6, none⟩ = some (.int .i64 0) := (ae dz.out 6).trans rfl
  have hcz17_7 : w11.cell? ⟨gD, 7, none⟩ = some (.int .i64 0) := (ae dz.out 7).trans rfl
  have hfz17_0 := ah dz.out 0
  have hfz17_1 := ah dz.out 1
  have hfz17_2 := ah dz.out 2
  have hfz17_3 := ah dz.out 3
  have hfz17_4 := ah dz.out 4
  have hfz17_5 := ah dz.out 5
  have hfz17_6 := ah dz.out 6
  have hfz17_7 := ah dz.out 7
  try go_wp2
  refine bodyPost_ret (results_cell_row rfl _ _ gD 42 #[.int .i64 aJ, .string bu, .string bf, .string t105, .int .u32 dH, .int .u32 dS, .int .i64 dX, .int .i64 3] (0, 0) _ rfl (by refine cO (cs := #[.int .i64 aJ, .string bu, .string bf, .string t105, .int .u32 dH, .int .u32 dS, .int .i64 dX, .int .i64 0]) ?_ 7 _ rfl; refine cO (cs := #[.int .i64 aJ, .string bu, .string bf, .string t105, .int .u32 dH, .int .u32 dS, .int .i64 0, .int .i64 0]) ?_ 6 _ rfl; refine cO (cs := #[.int .i64 aJ, .string bu, .string bf, .string t105, .int .u32 dH, .int .u32 0, .int .i64 0, .int .i64 0]) ?_ 5 _ rfl; refine cO (cs := #[.int .i64 aJ, .string bu, .string bf, .string t105, .int .u32 0, .int .u32 0, .int .i64 0, .int .i64 0]) ?_ 4 _ rfl; refine cO (cs := #[.int .i64 aJ, .string bu, .string bf, .string (⟨#[]⟩ : ByteArray), .int .u32 0, .int .u32 0, .int .i64 0, .int .i64 0]) ?_ 3 _ rfl; refine cO (cs := #[.int .i64 aJ, .string bu, .string (⟨#[]⟩ : ByteArray), .string (⟨#[]⟩ : ByteArray), .int .u32 0, .int .u32 0, .int .i64 0, .int .i64 0]) ?_ 2 _ rfl; refine cO (cs := #[.int .i64 aJ, .string (⟨#[]⟩ : ByteArray), .string (⟨#[]⟩ : ByteArray), .string (⟨#[]⟩ : ByteArray), .int .u32 0, .int .u32 0, .int .i64 0, .int .i64 0]) ?_ 1 _ rfl; refine cO (cs := #[.int .i64 0, .string (⟨#[]⟩ : ByteArray), .string (⟨#[]⟩ : ByteArray), .string (⟨#[]⟩ : ByteArray), .int .u32 0, .int .u32 0, .int .i64 0, .int .i64 0]) ?_ 0 _ rfl; refine iK ?_ dY.out _; refine iK ?_ dY.out _; refine iK ?_ dY.out _; refine iK ?_ dY.out _; (with_reducible repeat (first | refine fK ?_ _ | refine dC ?_ | refine fJ ?_ _)); exact dz.out) Tryd.underlying42 rfl (by kernel_rfl)) rfl ?_
  exact ⟨by first | rfl | (simp [errW_none, errW_some] <;> rfl) | (simp [*, errW_none, errW_some] <;> rfl), by repeat (first | (with_reducible first | exact HB.out | apply aA | apply aj | apply av | refine bi ?_ dE.out | refine bi ?_ pI.out) | exact HB.out)⟩
 ·rw [if_neg c5] at H
  have iL : decide (dU < (-1000000)) = false := decide_eq_false c5
  clear c5
  by_cases c18 : dU > 2147483648
  ·rw [if_pos c18] at H
   have vM : decide (2147483648 < dU) = true := decide_eq_true c18
   clear c18
   simp only [Option.some.injEq, Prod.mk.injEq] at H
   obtain ⟨rfl, rfl, rfl, rfl, rfl, rfl, rfl, rfl⟩ := H
   go_enter Tryd.func16, Tryd.ntmps16
   try go_wp2_with (first | ((with_reducible refine aU (N := 1) rfl ?_); refine bz ?hg (N := 1) ?hd (cs := #[.int .i64 aJ, .string aD, .string bL, .string aR, .int .u32 dH, .int .u32 dS, .int .i64 dX, .int .i64 dU]) (t := 42) ?hr ?_; (case hd => rfl); (case hg => rfl); (case hr => first | (go_simp; done) | (go_simp; rfl)); intro ax hg w19 hbox hb; have ag := af.mk (hbox); have GW101 := qge HB hg; have dE := qge HB hg; replace HB := af.mk (ai (qw HB) hb); clear hb hbox hg) | ((with_reducible refine aU (N := 2) rfl ?_); refine bz ?hg (N := 2) ?hd (cs := #[.int .i64 0, .string (⟨#[]⟩ : ByteArray), .string (⟨#[]⟩ : ByteArray), .string (⟨#[]⟩ : ByteArray), .int .u32 0, .int .u32 0, .int .i64 0, .int .i64 0]) (t := 42) ?hr ?_; (case hd => rfl); (case hg => rfl); (case hr => first | (go_simp; done) | (go_simp; rfl)); intro gD hg w20 hbox hb; have dz := af.mk (hbox); have GW102 := qge HB hg; have pI := qge HB hg; replace HB := af.mk (ai (qw HB) hb); have fO := qnl ag hg; have dY := qng ag hg; replace ag := qbb ag hb; clear hb hbox hg))
   replace ag := af.mk (dC ag.out)
   replace dz := af.mk (dC dz.out)
   replace HB := af.mk (av HB.out)
   refine gm (n := 15) (S := fun w' => w'.cell? ⟨ax, 0, none⟩ = some (.int .i64 aJ) ∧ w'.cell? ⟨ax, 1, none⟩ = some (.string aD) ∧ w'.cell? ⟨ax, 2, none⟩ = some (.string bL) ∧ w'.cell? ⟨ax, 3, none⟩ = some (.string aR) ∧ w'.cell? ⟨ax, 4, none⟩ = some (.int .u32 dH) ∧ w'.cell? ⟨ax, 5, none⟩ = some (.int .u32 dS) ∧ w'.cell? ⟨ax, 6, none⟩ = some (.int .i64 dX) ∧ w'.cell? ⟨ax, 7, none⟩ = some (.int .i64 dU)) (ds := [10, 12, 14]) #[bF,bF,bF,bF,bF,bF,bF,bF,bF,bF,bF,bF,bF,bF,bF] (by kernel_rfl) rfl rfl ⟨(ae ag.out 0).trans rfl, (ae ag.out 1).trans rfl, (ae ag.out 2).trans rfl, (ae ag.out 3).trans rfl, (ae ag.out 4).trans rfl, (ae ag.out 5).trans rfl, (ae ag.out 6).trans rfl, (ae ag.out 7).trans rfl⟩ (fun hHeld => ?_); refine eH aW.mg aW.jV (fun HT_ HW_ => ?_)
   generalize w20.drew = w21 at ag dz HB hHeld ⊢
   refine aY 0 (some 3) HT_ ?_
   refine aY 3 (some 6) HT_ ?_
   refine aY 6 (some 9) HT_ ?_
   refine d9 1 (some 4) HT_ HW_ hHeld ?_
   refine d9 4 (some 7) HT_ HW_ hHeld ?_
   refine d9 7 (some 10) HT_ HW_ hHeld ?_
   refine gF 2 (some 5) HT_ (fun K hK => ?_)
   refine fe Tryd.func37 #[.string aD] ?_
   with_reducible refine (bA.calls aD bu _ A2.out).mono ?_
   rintro e w22 ⟨rfl, hb⟩
   refine ⟨_, rfl, ?_⟩
   replace ag := qbb ag hb
   replace dz := qbb dz hb
   replace HB := af.mk (ai (qw HB) hb)
   (try clear hb)
   (try clear hb2)
   (try clear hk)
   (try clear hi)
   refine hK.out _ _ ⟨(ae ag.out 0).trans rfl, (ae ag.out 1).trans rfl, (ae ag.out 2).trans rfl, (ae ag.out 3).trans rfl, (ae ag.out 4).trans rfl, (ae ag.out 5).trans rfl, (ae ag.out 6).trans rfl, (ae ag.out 7).trans rfl⟩ (fun hHeld => ?_)
   clear hK K
   refine eX (some 5) ?_
   refine aY 9 (some 12) HT_ ?_
   refine gF 5 (some 8) HT_ (fun K hK => ?_)
   refine fe Tryd.func37 #[.string bL] ?_
   with_reducible refine (bA.calls bL bf _ A3.out).mono ?_
   rintro e w23 ⟨rfl, hb⟩
   refine ⟨_, rfl, ?_⟩
   replace ag := qbb ag hb
   replace dz := qbb dz hb
   replace HB := af.mk (ai (qw HB) hb)
   (try clear hb)
   (try clear hb2)
   (try clear hk)
   (try clear hi)
   refine hK.out _ _ ⟨(ae ag.out 0).trans rfl, (ae ag.out 1).trans rfl, (ae ag.out 2).trans rfl, (ae ag.out 3).trans rfl, (ae ag.out 4).trans rfl, (ae ag.out 5).trans rfl, (ae ag.out 6).trans rfl, (ae ag.out 7).trans rfl⟩ (fun hHeld => ?_)
   clear hK K
   refine eX (some 8) ?_
   refine gF 8 (some 11) HT_ (fun K hK => ?_)
   refine fe Tryd.func37 #[.string aR] ?_
   with_reducible refine (bA.calls aR t105 _ A4.out).mono ?_
   rintro e w24 ⟨rfl, hb⟩
   refine ⟨_, rfl, ?_⟩
   replace ag := qbb ag hb
   replace dz := qbb dz hb
   replace HB := af.mk (ai (qw HB) hb)
   (try clear hb)
   (try clear hb2)
   (try clear hk)
   (try clear hi)
   refine hK.out _ _ ⟨(ae ag.out 0).trans rfl, (ae ag.out 1).trans rfl, (ae ag.out 2).trans rfl, (ae ag.out 3).trans rfl, (ae ag.out 4).trans rfl, (ae ag.out 5).trans rfl, (ae ag.out 6).trans rfl, (ae ag.out 7).trans rfl⟩ (fun hHeld => ?_)
   clear hK K
   refine eX (some 11) ?_
   refine lh (i := 10) (N := none) #[bT,bT,bT,bT,bT,bT,bT,bT,bT,bT,bT,bF,bF,bF,bF] rfl rfl (jG HT_.out (by kernel_rfl)) (by decide) (fun K hK => ?_)
   have hs25 : w24.cell? ⟨ax, 1, none⟩ = some (.string aD) := (ae ag.out 1).trans rfl
   have hfs25 := ah ag.out 1
   have hns25_1 := dY.out
   have hms25_1 := fO.out
   refine ll (w1 := ?_) (by rfl) rfl ?_ ?_
   rotate_left
   ·go_simp
    rfl
   refine hK.out _ _ ?_
   clear hK K
   refine aY 11 (some 13) HT_ ?_
   refine lh (i := 12) (N := none) #[bT,bT,bT,bT,bT,bT,bT,bT,bT,bT,bT,bT,bT,bF,bF] rfl rfl (jG HT_.out (by kernel_rfl)) (by decide) (fun K hK => ?_)
   have hs26 : w24.cell? ⟨ax, 2, none⟩ = some (.string bL) := (ae ag.out 2).trans rfl
   have hfs26 := ah ag.out 2
   have hns26_1 := dY.out
   have hms26_1 := fO.out
   refine ll (w1 := ?_) (by rfl) rfl ?_ ?_
   rotate_left
   ·go_simp
    rfl
   refine hK.out _ _ ?_
   clear hK K
   refine aY 13 (some 14) HT_ ?_
   refine lh (i := 14) (N := none) #[bT,bT,bT,bT,bT,bT,bT,bT,bT,bT,bT,bT,bT,bT,bT] rfl rfl (jG HT_.out (by kernel_rfl)) (by decide) (fun K hK => ?_)
   have hs27 : w24.cell? ⟨ax, 3, none⟩ = some (.string aR) := (ae ag.out 3).trans rfl
   have hfs27 := ah ag.out 3
   have hns27_1 := dY.out
   have hms27_1 := fO.out
   refine ll (w1 := ?_) (by rfl) rfl ?_ ?_
   rotate_left
   ·go_simp
    rfl
   refine hK.out _ _ ?_
   clear hK K
   refine iq HT_ ?_
   have hnb28 := fO.out
   have hnc28 := dY.out
   have hcz29_0 : w24.cell? ⟨ax, 0, none⟩ = some (.int .i64 aJ) := (ae ag.out 0).trans rfl
   have hcz29_1 : w24.cell? ⟨ax, 1, none⟩ = some (.string aD) := (ae ag.out 1).trans rfl
   have hcz29_2 : w24.cell? ⟨ax, 2, none⟩ = some (.string bL) := (ae ag.out 2).trans rfl
   have hcz29_3 : w24.cell? ⟨ax, 3, none⟩ = some (.string aR) := (ae ag.out 3).trans rfl
   have hcz29_4 : w24.cell? ⟨ax, 4, none⟩ = some (.int .u32 dH) := (ae ag.out 4).trans rfl
   have hcz29_5 : w24.cell? ⟨ax, 5, none⟩ = some (.int .u32 dS) := (ae ag.out 5).trans rfl
   have hcz29_6 : w24.cell? ⟨ax, 6, none⟩ = some (.int .i64 dX) := (ae ag.out 6).trans rfl
   have hcz29_7 : w24.cell? ⟨ax, 7, none⟩ = some (.int .i64 dU) := (ae ag.out 7).trans rfl
   have hfz29_0 := ah ag.out 0
   have hfz29_1 := ah ag.out 1
   have hfz29_2 := ah ag.out 2
   have hfz29_3 := ah ag.out 3
   have hfz29_4 := ah ag.out 4
   have hfz29_5 := ah ag.out 5
   have hfz29_6 := ah ag.out 6
   have hfz29_7 := ah ag.out 7
   have hcz30_0 : w24.cell? ⟨gD, 0, none⟩ = some (.int .i64 0) := (ae dz.out 0).trans rfl
   have hcz30_1 : w24.cell? ⟨gD, 1, none⟩ = some (.string (⟨#[]⟩ : ByteArray)) := (ae dz.out 1).trans rfl
   have hcz30_2 : w24.cell? ⟨gD, 2, none⟩ = some (.string (⟨#[]⟩ : ByteArray)) := (ae dz.out 2).trans rfl
   have hcz30_3 : w24.cell? ⟨gD, 3, none⟩ = some (.string (⟨#[]⟩ : ByteArray)) := (ae dz.out 3).trans rfl
   have hcz30_4 : w24.cell? ⟨gD, 4, none⟩ = some (.int .u32 0) := (ae dz.out 4).trans rfl
   have hcz30_5 : w24.cell? ⟨gD, 5, none⟩ = some (.int .u32 0) := (ae dz.out 5).trans rfl
   have hcz30_6 : w24.cell? ⟨gD, 6, none⟩ = some (.int .i64 0) := (ae dz.out 6).trans rfl
   have hcz30_7 : w24.cell? ⟨gD, 7, none⟩ = some (.int .i64 0) := (ae dz.out 7).trans rfl
   have hfz30_0 := ah dz.out 0
   have hfz30_1 := ah dz.out 1
   have hfz30_2 := ah dz.out 2
   have hfz30_3 := ah dz.out 3
   have hfz30_4 := ah dz.out 4
   have hfz30_5 := ah dz.out 5
   have hfz30_6 := ah dz.out 6
   have hfz30_7 := ah dz.out 7
   try go_wp2
   refine bodyPost_ret (results_cell_row rfl _ _ gD 42 #[.int .i64 aJ, .string bu, .string bf, .string t105, .int .u32 dH, .int .u32 dS, .int .i64 dX, .int .i64 3] (0, 0) _ rfl (by refine cO (cs := #[.int .i64 aJ, .string bu, .string bf, .string t105, .int .u32 dH, .int .u32 dS, .int .i64 dX, .int .i64 0]) ?_ 7 _ rfl; refine cO (cs := #[.int .i64 aJ, .string bu, .string bf, .string t105, .int .u32 dH, .int .u32 dS, .int .i64 0, .int .i64 0]) ?_ 6 _ rfl; refine cO (cs := #[.int .i64 aJ, .string bu, .string bf, .string t105, .int .u32 dH, .int .u32 0, .int .i64 0, .int .i64 0]) ?_ 5 _ rfl; refine cO (cs := #[.int .i64 aJ, .string bu, .string bf, .string t105, .int .u32 0, .int .u32 0, .int .i64 0, .int .i64 0]) ?_ 4 _ rfl; refine cO (cs := #[.int .i64 aJ, .string bu, .string bf, .string (⟨#[]⟩ : ByteArray), .int .u32 0, .int .u32 0, .int .i64 0, .int .i64 0]) ?_ 3 _ rfl; refine cO (cs := #[.int .i64 aJ, .string bu, .string (⟨#[]⟩ : ByteArray), .string (⟨#[]⟩ : ByteArray), .int .u32 0, .int .u32 0, .int .i64 0, .int .i64 0]) ?_ 2 _ rfl; refine cO (cs := #[.int .i64 aJ, .string (⟨#[]⟩ : ByteArray), .string (⟨#[]⟩ : ByteArray), .string (⟨#[]⟩ : ByteArray), .int .u32 0, .int .u32 0, .int .i64 0, .int .i64 0]) ?_ 1 _ rfl; refine cO (cs := #[.int .i64 0, .string (⟨#[]⟩ : ByteArray), .string (⟨#[]⟩ : ByteArray), .string (⟨#[]⟩ : ByteArray), .int .u32 0, .int .u32 0, .int .i64 0, .int .i64 0]) ?_ 0 _ rfl; refine iK ?_ dY.out _; refine iK ?_ dY.out _; refine iK ?_ dY.out _; refine iK ?_ dY.out _; (with_reducible repeat (first | refine fK ?_ _ | refine dC ?_ | refine fJ ?_ _)); exact dz.out) Tryd.underlying42 rfl (by kernel_rfl)) rfl ?_
   exact ⟨by first | rfl | (simp [errW_none, errW_some] <;> rfl) | (simp [*, errW_none, errW_some] <;> rfl), by repeat (first | (with_reducible first | exact HB.out | apply aA | apply aj | apply av | refine bi ?_ dE.out | refine bi ?_ pI.out) | exact HB.out)⟩
  ·rw [if_neg c18] at H
   have vM : decide (2147483648 < dU) = false := decide_eq_false c18
   clear c18
   simp only [Option.some.injEq, Prod.mk.injEq] at H
   obtain ⟨rfl, rfl, rfl, rfl, rfl, rfl, rfl, rfl⟩ := H
   go_enter Tryd.func16, Tryd.ntmps16
   try go_wp2_with (first | ((with_reducible refine aU (N := 1) rfl ?_); refine bz ?hg (N := 1) ?hd (cs := #[.int .i64 aJ, .string aD, .string bL, .string aR, .int .u32 dH, .int .u32 dS, .int .i64 dX, .int .i64 dU]) (t := 42) ?hr ?_; (case hd => rfl); (case hg => rfl); (case hr => first | (go_simp; done) | (go_simp; rfl)); intro ax hg w31 hbox hb; have ag := af.mk (hbox); have GW101 := qge HB hg; have dE := qge HB hg; replace HB := af.mk (ai (qw HB) hb); clear hb hbox hg) | ((with_reducible refine aU (N := 2) rfl ?_); refine bz ?hg (N := 2) ?hd (cs := #[.int .i64 0, .string (⟨#[]⟩ : ByteArray), .string (⟨#[]⟩ : ByteArray), .string (⟨#[]⟩ : ByteArray), .int .u32 0, .int .u32 0, .int .i64 0, .int .i64 0]) (t := 42) ?hr ?_; (case hd => rfl); (case hg => rfl); (case hr => first | (go_simp; done) | (go_simp; rfl)); intro gD hg w32 hbox hb; have dz := af.mk (hbox); have GW102 := qge HB hg; have pI := qge HB hg; replace HB := af.mk (ai (qw HB) hb); have fO := qnl ag hg; have dY := qng ag hg; replace ag := qbb ag hb; clear hb hbox hg))
   replace ag := af.mk (dC ag.out)
   replace dz := af.mk (dC dz.out)
   replace HB := af.mk (av HB.out)
   refine gm (n := 15) (S := fun w' => w'.cell? ⟨ax, 0, none⟩ = some (.int .i64 aJ) ∧ w'.cell? ⟨ax, 1, none⟩ = some (.string aD) ∧ w'.cell? ⟨ax, 2, none⟩ = some (.string bL) ∧ w'.cell? ⟨ax, 3, none⟩ = some (.string aR) ∧ w'.cell? ⟨ax, 4, none⟩ = some (.int .u32 dH) ∧ w'.cell? ⟨ax, 5, none⟩ = some (.int .u32 dS) ∧ w'.cell? ⟨ax, 6, none⟩ = some (.int .i64 dX) ∧ w'.cell? ⟨ax, 7, none⟩ = some (.int .i64 dU)) (ds := [10, 12, 14]) #[bF,bF,bF,bF,bF,bF,bF,bF,bF,bF,bF,bF,bF,bF,bF] (by kernel_rfl) rfl rfl ⟨(ae ag.out 0).trans rfl, (ae ag.out 1).trans rfl, (ae ag.out 2).trans rfl, (ae ag.out 3).trans rfl, (ae ag.out 4).trans rfl, (ae ag.out 5).trans rfl, (ae ag.out 6).trans rfl, (ae ag.out 7).trans rfl⟩ (fun hHeld => ?_); refine eH aW.mg aW.jV (fun HT_ HW_ => ?_)
   generalize w32.drew = w33 at ag dz HB hHeld ⊢
   refine aY 0 (some 3) HT_ ?_
   refine aY 3 (some 6) HT_ ?_
   refine aY 6 (some 9) HT_ ?_
   refine d9 1 (some 4) HT_ HW_ hHeld ?_
   refine d9 4 (some 7) HT_ HW_ hHeld ?_
   refine d9 7 (some 10) HT_ HW_ hHeld ?_
   refine gF 2 (some 5) HT_ (fun K hK => ?_)
   refine fe Tryd.func37 #[.string aD] ?_
   with_reducible refine (bA.calls aD bu _ A2.out).mono ?_
   rintro e w34 ⟨rfl, hb⟩
   refine ⟨_, rfl, ?_⟩
   replace ag := qbb ag hb
   replace dz := qbb dz hb
   replace HB := af.mk (ai (qw HB) hb)
   (try clear hb)
   (try clear hb2)
   (try clear hk)
   (try clear hi)
   refine hK.out _ _ ⟨(ae ag.out 0).trans rfl, (ae ag.out 1).trans rfl, (ae ag.out 2).trans rfl, (ae ag.out 3).trans rfl, (ae ag.out 4).trans rfl, (ae ag.out 5).trans rfl, (ae ag.out 6).trans rfl, (ae ag.out 7).trans rfl⟩ (fun hHeld => ?_)
   clear hK K
   refine eX (some 5) ?_
   refine aY 9 (some 12) HT_ ?_
   refine gF 5 (some 8) HT_ (fun K hK => ?_)
   refine fe Tryd.func37 #[.string bL] ?_
   with_reducible refine (bA.calls bL bf _ A3.out).mono ?_
   rintro e w35 ⟨rfl, hb⟩
   refine ⟨_, rfl, ?_⟩
   replace ag := qbb ag hb
   replace dz := qbb dz hb
   replace HB := af.mk (ai (qw HB) hb)
   (try clear hb)
   (try clear hb2)
   (try clear hk)
   (try clear hi)
   refine hK.out _ _ ⟨(ae ag.out 0).trans rfl, (ae ag.out 1).trans rfl, (ae ag.out 2).trans rfl, (ae ag.out 3).trans rfl, (ae ag.out 4).trans rfl, (ae ag.out 5).trans rfl, (ae ag.out 6).trans rfl, (ae ag.out 7).trans rfl⟩ (fun hHeld => ?_)
   clear hK K
   refine eX (some 8) ?_
   refine gF 8 (some 11) HT_ (fun K hK => ?_)
   refine fe Tryd.func37 #[.string aR] ?_
   with_reducible refine (bA.calls aR t105 _ A4.out).mono ?_
   rintro e w36 ⟨rfl, hb⟩
   refine ⟨_, rfl, ?_⟩
   replace ag := qbb ag hb
   replace dz := qbb dz hb
   replace HB := af.mk (ai (qw HB) hb)
   (try clear hb)
   (try clear hb2)
   (try clear hk)
   (try clear hi)
   refine hK.out _ _ ⟨(ae ag.out 0).trans rfl, (ae ag.out 1).trans rfl, (ae ag.out 2).trans rfl, (ae ag.out 3).trans rfl, (ae ag.out 4).trans rfl, (ae ag.out 5).trans rfl, (ae ag.out 6).trans rfl, (ae ag.out 7).trans rfl⟩ (fun hHeld => ?_)
   clear hK K
   refine eX (some 11) ?_
   refine lh (i := 10) (N := none) #[bT,bT,bT,bT,bT,bT,bT,bT,bT,bT,bT,bF,bF,bF,bF] rfl rfl (jG HT_.out (by kernel_rfl)) (by decide) (fun K hK => ?_)
   have hs37 : w36.cell? ⟨ax, 1, none⟩ = some (.string aD) := (ae ag.out 1).trans rfl
   have hfs37 := ah ag.out 1
   have hns37_1 := dY.out
   have hms37_1 := fO.out
   refine ll (w1 := ?_) (by rfl) rfl ?_ ?_
   rotate_left
   ·go_simp
    rfl
   refine hK.out _ _ ?_
   clear hK K
   refine aY 11 (some 13) HT_ ?_
   refine lh (i := 12) (N := none) #[bT,bT,bT,bT,bT,bT,bT,bT,bT,bT,bT,bT,bT,bF,bF] rfl rfl (jG HT_.out (by kernel_rfl)) (by decide) (fun K hK => ?_)
   have hs38 : w36.cell? ⟨ax, 2, none⟩ = some (.string bL) := (ae ag.out 2).trans rfl
   have hfs38 := ah ag.out 2
   have hns38_1 := dY.out
   have hms38_1 := fO.out
   refine ll (w1 := ?_) (by rfl) rfl ?_ ?_
   rotate_left
   ·go_simp
    rfl
   refine hK.out _ _ ?_
   clear hK K
   refine aY 13 (some 14) HT_ ?_
   refine lh (i := 14) (N := none) #[bT,bT,bT,bT,bT,bT,bT,bT,bT,bT,bT,bT,bT,bT,bT] rfl rfl (jG HT_.out (by kernel_rfl)) (by decide) (fun K hK => ?_)
   have hs39 : w36.cell? ⟨ax, 3, none⟩ = some (.string aR) := (ae ag.out 3).trans rfl
   have hfs39 := ah ag.out 3
   have hns39_1 := dY.out
   have hms39_1 := fO.out
   refine ll (w1 := ?_) (by rfl) rfl ?_ ?_
   rotate_left
   ·go_simp
    rfl
   refine hK.out _ _ ?_
   clear hK K
   refine iq HT_ ?_
   have hnb40 := fO.out
   have hnc40 := dY.out
   have hcz41_0 : w36.cell? ⟨ax, 0, none⟩ = some (.int .i64 aJ) := (ae ag.out 0).trans rfl
   have hcz41_1 : w36.cell? ⟨ax, 1, none⟩ = some (.string aD) := (ae ag.out 1).trans rfl
   have hcz41_2 : w36.cell? ⟨ax, 2, none⟩ = some (.string bL) := (ae ag.out 2).trans rfl
   have hcz41_3 : w36.cell? ⟨ax, 3, none⟩ = some (.string aR) := (ae ag.out 3).trans rfl
   have hcz41_4 : w36.cell? ⟨ax, 4, none⟩ = some (.int .u32 dH) := (ae ag.out 4).trans rfl
   have hcz41_5 : w36.cell? ⟨ax, 5, none⟩ = some (.int .u32 dS) := (ae ag.out 5).trans rfl
   have hcz41_6 : w36.cell? ⟨ax, 6, none⟩ = some (.int .i64 dX) := (ae ag.out 6).trans rfl
   have hcz41_7 : w36.cell? ⟨ax, 7, none⟩ = some (.int .i64 dU) := (ae ag.out 7).trans rfl
   have hfz41_0 := ah ag.out 0
   have hfz41_1 := ah ag.out 1
   have hfz41_2 := ah ag.out 2
   have hfz41_3 := ah ag.out 3
   have hfz41_4 := ah ag.out 4
   have hfz41_5 := ah ag.out 5
   have hfz41_6 := ah ag.out 6
   have hfz41_7 := ah ag.out 7
   have hcz42_0 : w36.cell? ⟨gD, 0, none⟩ = some (.int .i64 0) := (ae dz.out 0).trans rfl
   have hcz42_1 : w36.cell? ⟨gD, 1, none⟩ = some (.string (⟨#[]⟩ : ByteArray)) := (ae dz.out 1).trans rfl
   have hcz42_2 : w36.cell? ⟨gD, 2, none⟩ = some (.string (⟨#[]⟩ : ByteArray)) := (ae dz.out 2).trans rfl
   have hcz42_3 : w36.cell? ⟨gD, 3, none⟩ = some (.string (⟨#[]⟩ : ByteArray)) := (ae dz.out 3).trans rfl
   have hcz42_4 : w36.cell? ⟨gD, 4, none⟩ = some (.int .u32 0) := (ae dz.out 4).trans rfl
   have hcz42_5 : w36.cell? ⟨gD, 5, none⟩ = some (.int .u32 0) := (ae dz.out 5).trans rfl
   have hcz42_6 : w36.cell? ⟨gD, 6, none⟩ = some (.int .i64 0) := (ae dz.out 6).trans rfl
   have hcz42_7 : w36.cell? ⟨gD, 7, none⟩ = some (.int .i64 0) := (ae dz.out 7).trans rfl
   have hfz42_0 := ah dz.out 0
   have hfz42_1 := ah dz.out 1
   have hfz42_2 := ah dz.out 2
   have hfz42_3 := ah dz.out 3
   have hfz42_4 := ah dz.out 4
   have hfz42_5 := ah dz.out 5
   have hfz42_6 := ah dz.out 6
   have hfz42_7 := ah dz.out 7
   try go_wp2
   refine bodyPost_ret (results_cell_row rfl _ _ gD 42 #[.int .i64 aJ, .string bu, .string bf, .string t105, .int .u32 dH, .int .u32 dS, .int .i64 dX, .int .i64 dU] (0, 0) _ rfl (by refine cO (cs := #[.int .i64 aJ, .string bu, .string bf, .string t105, .int .u32 dH, .int .u32 dS, .int .i64 dX, .int .i64 0]) ?_ 7 _ rfl; refine cO (cs := #[.int .i64 aJ, .string bu, .string bf, .string t105, .int .u32 dH, .int .u32 dS, .int .i64 0, .int .i64 0]) ?_ 6 _ rfl; refine cO (cs := #[.int .i64 aJ, .string bu, .string bf, .string t105, .int .u32 dH, .int .u32 0, .int .i64 0, .int .i64 0]) ?_ 5 _ rfl; refine cO (cs := #[.int .i64 aJ, .string bu, .string bf, .string t105, .int .u32 0, .int .u32 0, .int .i64 0, .int .i64 0]) ?_ 4 _ rfl; refine cO (cs := #[.int .i64 aJ, .string bu, .string bf, .string (⟨#[]⟩ : ByteArray), .int .u32 0, .int .u32 0, .int .i64 0, .int .i64 0]) ?_ 3 _ rfl; refine cO (cs := #[.int .i64 aJ, .string bu, .string (⟨#[]⟩ : ByteArray), .string (⟨#[]⟩ : ByteArray), .int .u32 0, .int .u32 0, .int .i64 0, .int .i64 0]) ?_ 2 _ rfl; refine cO (cs := #[.int .i64 aJ, .string (⟨#[]⟩ : ByteArray), .string (⟨#[]⟩ : ByteArray), .string (⟨#[]⟩ : ByteArray), .int .u32 0, .int .u32 0, .int .i64 0, .int .i64 0]) ?_ 1 _ rfl; refine cO (cs := #[.int .i64 0, .string (⟨#[]⟩ : ByteArray), .string (⟨#[]⟩ : ByteArray), .string (⟨#[]⟩ : ByteArray), .int .u32 0, .int .u32 0, .int .i64 0, .int .i64 0]) ?_ 0 _ rfl; refine iK ?_ dY.out _; refine iK ?_ dY.out _; refine iK ?_ dY.out _; (with_reducible repeat (first | refine fK ?_ _ | refine dC ?_ | refine fJ ?_ _)); exact dz.out) Tryd.underlying42 rfl (by kernel_rfl)) rfl ?_
   exact ⟨by first | rfl | (simp [errW_none, errW_some] <;> rfl) | (simp [*, errW_none, errW_some] <;> rfl), by repeat (first | (with_reducible first | exact HB.out | apply aA | apply aj | apply av | refine bi ?_ dE.out | refine bi ?_ pI.out) | exact HB.out)⟩
end Go.Proofs.YthfphdbebnkdpaaDoor.P
end
section
namespace Go.Proofs.YthfphdbebnkdpaaDoor.P
open Go.RowKit Go.Proofs.YthfphdbebnkdpaaDoorW.aH Go.Proofs.YthfphdbebnkdpaaDoorW.aV Go.Proofs.YthfphdbebnkdpaaDoorW.bn
attribute [local go_sem] bR bS dn dw bB bC bU bV
set_option linter.unusedVariables false
set_option linter.unusedSimpArgs false
def bq.l0 : Nat → List (S42) → ByteArray → Int → Option (ByteArray)
 | 0, _, _, _ => none
 | k + 1, x0, x3, x4 => if x4 < (x0.length : Int) then (if 0 ≤ x4 then ((aG.f k ((ak x0 x4).f0) ((ak x0 x4).f1) ((ak x0 x4).f2) ((ak x0 x4).f3) ((ak x0 x4).f4) ((ak x0 x4).f5.f0) ((ak x0 x4).f5.f1) ((ak x0 x4).f6)).bind fun aQ => (if aQ.size + 1 ≤ 9223372036854775807 then (if x3.size + (aQ ++ (⟨#[10]⟩ : ByteArray)).size ≤ 9223372036854775807 then (bq.l0 k x0 (x3 ++ (aQ ++ (⟨#[10]⟩ : ByteArray))) (wrap64 (x4 + 1))) else (none)) else (none))) else (none)) else (some x3)
def bq.f (k : Nat) (l0 : List (S42)) : Option (ByteArray) := bq.l0 k l0 (⟨#[]⟩ : ByteArray) 0
set_option maxHeartbeats 8000000 in
set_option maxRecDepth 100000 in
theorem bq.calls (k : Nat) (A0 : Option Addr) (c0 : Nat) (l0 : List (S42)) (r : ByteArray) (w : World) (hr0 : Kd.C k42 w A0 l0.length l0) (hc0 : l0.length ≤ c0) (h : bq.f k l0 = some r) :
  Calls Tryd.prog 20 #[.slice A0 l0.length c0] w fun e w' => e = .returned (.string r) ∧ Below w.heap.size w w' := by
 have hu42 := Tryd.underlying42
 have HR0 := af.mk hr0
 have HC0 := af.mk hc0
 clear hr0 hc0
 have HB := af.mk (Below.refl w.heap.size w)
 have H : (bq.l0 k l0 (⟨#[]⟩ : ByteArray) 0) = some r := h
 clear h
 have H' := af.mk H
 clear H
 go_enter Tryd.func20, Tryd.ntmps20
 go_wp2
 go_loopg [3, 4] k (fun kq v3 v4 w' => ∃ (dK : ByteArray) (aI : Int), v3 = .string dK ∧ v4 = .int .i64 aI ∧ af (bq.l0 kq l0 dK aI = some r) ∧ af (kq ≤ k) ∧ af (Below w.heap.size w w'))
 case atStart => exact ⟨((⟨#[]⟩ : ByteArray)), (0), (by first | rfl | (simp; done) | (simp [*]; done)), (by first | rfl | (simp; done) | (simp [*]; done)), H', ⟨Nat.le_refl _⟩, ⟨by repeat (first | (with_reducible first | exact HB.out | apply aA | apply aj | apply av) | exact HB.out)⟩⟩
 case round =>
  clear H'
  obtain ⟨dK, aI, rfl, rfl, HA, HK1, HB⟩ := hrel
  cases gk with
  | zero => exact absurd HA.out (by simp [bq.l0])
  | succ k1 =>
   have H := HA.out
   clear HA
   simp only [bq.l0] at H
   by_cases c2 : aI < (l0.length : Int)
   ·rw [if_pos c2] at H
    have jr : decide (aI < (l0.length : Int)) = true := decide_eq_true c2
    clear c2
    by_cases c3 : 0 ≤ aI
    ·rw [if_pos c3] at H
     have gG : decide (0 ≤ aI) = true := decide_eq_true c3
     clear c3
     replace H := Option.bind_eq_some_iff.mp H
     obtain ⟨aQ, A40, H⟩ := H
     replace H : (if aQ.size + 1 ≤ 9223372036854775807 then (if dK.size + (aQ ++ (⟨#[10]⟩ : ByteArray)).size ≤ 9223372036854775807 then (bq.l0 k1 l0 (dK ++ (aQ ++ (⟨#[10]⟩ : ByteArray))) (wrap64 (aI + 1))) else (none)) else (none)) = some r := H
     have A4 := af.mk A40
     clear A40
     by_cases c5 : aQ.size + 1 ≤ 9223372036854775807
     ·rw [if_pos c5] at H
      have iL := eq_true c5
      have kC : decide (aQ.size + 1 ≤ 9223372036854775807) = true := decide_eq_true c5
      try have p9 : (9223372036854775807 < aQ.size + 1) = False := eq_false (Nat.not_lt.2 c5)
      by_cases c6 : dK.size + (aQ ++ (⟨#[10]⟩ : ByteArray)).size ≤ 9223372036854775807
      ·rw [if_pos c6] at H
       have lT := eq_true c6
       have tu : decide (dK.size + (aQ ++ (⟨#[10]⟩ : ByteArray)).size ≤ 9223372036854775807) = true := decide_eq_true c6
       try have wy : (9223372036854775807 < dK.size + (aQ ++ (⟨#[10]⟩ : ByteArray)).size) = False := eq_false (Nat.not_lt.2 c6)
       have H' := af.mk H
       clear H
       have p101 : 0 ≤ (aI : Int) := of_decide_eq_true qa
       have q101 : aI < (l0.length : Int) := of_decide_eq_true qa
       obtain ⟨ad101, e101, hx101_0, hx101_1, hx101_2, hx101_3, hx101_4, hx101_5, hx101_6, hx101_7⟩ := j4 HR0.out aI p101 q101
       cases e101
       replace hx101_0 := (HB.out.cell (World.block_lt_of_cell? w _ hx101_0)).trans hx101_0
       replace hx101_1 := (HB.out.cell (World.block_lt_of_cell? w _ hx101_1)).trans hx101_1
       replace hx101_2 := (HB.out.cell (World.block_lt_of_cell? w _ hx101_2)).trans hx101_2
       replace hx101_3 := (HB.out.cell (World.block_lt_of_cell? w _ hx101_3)).trans hx101_3
       replace hx101_4 := (HB.out.cell (World.block_lt_of_cell? w _ hx101_4)).trans hx101_4
       replace hx101_5 := (HB.out.cell (World.block_lt_of_cell? w _ hx101_5)).trans hx101_5
       replace hx101_6 := (HB.out.cell (World.block_lt_of_cell? w _ hx101_6)).trans hx101_6
       replace hx101_7 := (HB.out.cell (World.block_lt_of_cell? w _ hx101_7)).trans hx101_7
       replace p101 := eq_true p101
       replace q101 := eq_true q101
       go_wp2_with (first | ((with_reducible refine aN (f := 18) rfl ?_); refine cu (some 16) rfl rfl Tryd.func18 (by kernel_rfl) rfl #[.agg #[.int .i64 ((ak l0 aI).f0), .string ((ak l0 aI).f1), .string ((ak l0 aI).f2), .string ((ak l0 aI).f3), .int .u32 ((ak l0 aI).f4), .int .u32 ((ak l0 aI).f5.f0), .int .i64 ((ak l0 aI).f5.f1), .int .i64 ((ak l0 aI).f6)]] rfl qt ?_; (with_reducible refine (aG.calls k1 ((ak l0 aI).f0) ((ak l0 aI).f1) ((ak l0 aI).f2) ((ak l0 aI).f3) ((ak l0 aI).f4) ((ak l0 aI).f5.f0) ((ak l0 aI).f5.f1) ((ak l0 aI).f6) aQ _ A4.out).mono ?_); rintro e w7 ⟨rfl, hb⟩; refine ⟨_, rfl, ?_⟩; replace HB := af.mk (ai (qw HB) hb); (try clear hb); (try clear hb2); (try clear hk); (try clear hi)))
       go_roundg k1
       case measure => have := HK1.out; omega
       case rel => exact ⟨(dK ++ (aQ ++ (⟨#[10]⟩ : ByteArray))), (wrap64 (aI + 1)), (by first | rfl | (simp; done) | (simp [*]; done)), (by first | rfl | (simp; done) | (simp [*]; done)), H', ⟨by have := HK1.out; omega⟩, ⟨by repeat (first | (with_reducible first | exact HB.out | apply aA | apply aj | apply av) | exact HB.out)⟩⟩
      ·rw [if_neg c6] at H
       exact absurd H (by simp)
     ·rw [if_neg c5] at H
      exact absurd H (by simp)
    ·rw [if_neg c3] at H
     exact absurd H (by simp)
   ·rw [if_neg c2] at H
    have jr : decide (aI < (l0.length : Int)) = false := decide_eq_false c2
    clear c2
    obtain rfl := Option.some.inj H
    go_wp2
    go_ret
    exact ⟨by first | rfl | (simp [errW_none, errW_some] <;> rfl) | (simp [*, errW_none, errW_some] <;> rfl), by repeat (first | (with_reducible first | exact HB.out | apply aA | apply aj | apply av) | exact HB.out)⟩
end Go.Proofs.YthfphdbebnkdpaaDoor.P
end
section
namespace Go.Proofs.YthfphdbebnkdpaaDoor.P
open Go.RowKit Go.Proofs.YthfphdbebnkdpaaDoorW.aH Go.Proofs.YthfphdbebnkdpaaDoorW.aV Go.Proofs.YthfphdbebnkdpaaDoorW.bn
attribute [local go_sem] bR bS dn dw bB bC bU bV
set_option linter.unusedVariables false
set_option linter.unusedSimpArgs false
mutual
def ay.l0 : Nat → List (S42) → List (S42) → Int → Option (Bool)
 | 0, _, _, _ => none
 | k + 1, x0, x3, x4 => if x4 < (x0.length : Int) then (ay.j1 k x0 x3 x4 (decide (x4 < 8))) else (ay.j1 k x0 x3 x4 false)
def ay.j1 : Nat → List (S42) → List (S42) → Int → Bool → Option (Bool)
 | 0, _, _, _, _ => none
 | k + 1, x0, x3, x4, x13 => if x13 = true then (if 0 ≤ x4 then (if x4 < (x0.length : Int) then ((aW.f ((ak x0 x4).f0) ((ak x0 x4).f1) ((ak x0 x4).f2) ((ak x0 x4).f3) ((ak x0 x4).f4) ((ak x0 x4).f5.f0) ((ak x0 x4).f5.f1) ((ak x0 x4).f6)).bind fun iJ => (if x3.length < 1599289640401 then ((some (x3 ++ [(⟨iJ.1, iJ.2.1, iJ.2.2.1, iJ.2.2.2.1, iJ.2.2.2.2.1, (⟨iJ.2.2.2.2.2.1, iJ.2.2.2.2.2.2.1⟩ : S40), iJ.2.2.2.2.2.2.2⟩ : S42)] : List (S42))).bind fun y116 => (if x4 < (y116.length : Int) then ((bM.f k ((ak y116 x4).f0) ((ak y116 x4).f1) ((ak y116 x4).f2) ((ak y116 x4).f3) ((ak y116 x4).f4) ((ak y116 x4).f5.f0) ((ak y116 x4).f5.f1) ((ak y116 x4).f6)).bind fun gJ => ((aG.f k ((ak y116 x4).f0) ((ak y116 x4).f1) ((ak y116 x4).f2) ((ak y116 x4).f3) ((ak y116 x4).f4) ((ak y116 x4).f5.f0) ((ak y116 x4).f5.f1) ((ak y116 x4).f6)).bind fun jQ => (if gJ.toList = jQ.toList then (ay.l0 k x0 y116 (wrap64 (x4 + 1))) else (some false)))) else (none))) else (none))) else (none)) else (none)) else ((fF.f k x3).bind fun bf => ((bq.f k x3).bind fun t105 => (if bf.toList = t105.toList then ((eu.f k).bind fun aX => (some aX)) else (some false))))
end
def ay.f (k : Nat) (l0 : List (S42)) : Option (Bool) := ay.l0 k l0 (([] : List (S42))) 0
def ay.T6 : Bool × List (List Nat × List Nat) := (true, [([], []), ([], []), ([0, 1], [0, 1]), ([2], [2]), ([3], [3]), ([], []), ([], []), ([5, 6], [5, 6]), ([7], [7]), ([8, 4], [8]), ([4, 9], [4, 9])])
def ay.B6 : List Nat := [0, 0, 3, 7, 15, 0, 0, 96, 224, 511, 1023]
theorem ay.uV : gK .any (opsOf Tryd.f4 6) = ay.T6 := by kernel_rfl
theorem ay.qL : fM ay.T6.2 ay.B6 = true := by kernel_rfl
set_option maxHeartbeats 8000000 in
set_option maxRecDepth 100000 in
theorem ay.calls (k : Nat) (A0 : Option Addr) (c0 : Nat) (l0 : List (S42)) (r : Bool) (w : World) (hr0 : Kd.C k42 w A0 l0.length l0) (hc0 : l0.length ≤ c0) (h : ay.f k l0 = some r) (HGT : af (Go.Proofs.YthfphdbebnkdpaaDoorV.GT w)) :
  Calls Tryd.prog 4 #[.slice A0 l0.length c0] w fun e w' => e = .returned (.bool r) ∧ Below w.heap.size w w' := by
 have hu42 := Tryd.underlying42
 have HR0 := af.mk hr0
 have HC0 := af.mk hc0
 clear hr0 hc0
 have HB := af.mk (Below.refl w.heap.size w)
 have H : (ay.l0 k l0 (([] : List (S42))) 0) = some r := h
 clear h
 obtain ⟨y101, hy101⟩ : ∃ y_ : List (S42), y_ = (([] : List (S42))) := ⟨_, rfl⟩
 replace H : (ay.l0 k l0 y101 0) = some r := by first | (rw [hy101]; with_reducible exact H) | (have H2_ := (Option.bind_some _ _).symm.trans H; rw [hy101]; with_reducible exact H2_) | (have H2_ := (Option.bind_some _ _).symm.trans H; with_reducible exact H2_) | with_reducible exact H | (rw [hy101]; exact H) | exact H
 have Ny101 := af.mk hy101
 clear hy101
 have H' := af.mk H
 clear H
 go_enter Tryd.func4, Tryd.ntmps4
 go_wp2_with (first | ((with_reducible refine aU (N := 5) rfl ?_); refine Kd.jw k42 _ 42 ?hg (N := 5) ?hd (xs := ([] : List (S42))) (inner := []) (ok := fun _ => True) (okp := fun _ => True) ?hr ?hp (fun _ hk => hk) trivial (Below.refl _ _) (Nat.le_refl _) (by simp) ?_; (case hd => rfl); (case hg => rfl); (case hr => first | (go_simp; done) | (go_simp; rfl)); (case hp => exact (bZ.none _ _)); intro v102 w2 ho3 hb hg_ hnew_; clear hg_ hnew_; (first | rw [← Ny101.out] at ho3 | (simp only [Int.reduceToNat] at ho3; rw [← Ny101.out] at ho3)); have eD := af.mk (Kd.dI ho3 (bg (qw HB))); replace HB := af.mk (ai (qw HB) hb); clear hb ho3))
 go_loopg [3, 4] k (fun kq v3 v4 w' => ∃ (dK : List (S42)) (aI : Int), v4 = .int .i64 aI ∧ af (ay.l0 kq l0 dK aI = some r) ∧ af (kq ≤ k) ∧ af (Kd.R k42 42 w' w.heap.size (fun _ => True) v3 dK) ∧ af (Below w.heap.size w w'))
 case atStart => exact ⟨(y101), (0), (by first | rfl | (simp; done) | (simp [*]; done)), H', ⟨Nat.le_refl _⟩, ⟨by (with_reducible repeat (first | apply Kd.cB | apply Kd.cK | apply Kd.dD)); exact eD.out⟩, ⟨by repeat (first | (with_reducible first | exact HB.out | apply aA | apply aj | apply av) | exact HB.out)⟩⟩
 case round =>
  clear H'
  try clear p2
  obtain ⟨dK, aI, rfl, HA, HK1, gp, HB⟩ := hrel
  cases gk with
  | zero => exact absurd HA.out (by simp [ay.l0])
  | succ k1 =>
   have H := HA.out
   clear HA
   simp only [ay.l0] at H
   have HC4 := af.mk H
   clear H
   go_upto_region 3 with (fail)
   go_cut [13] (fun v13 wc => ∃ (kq : Nat) (qN : Bool), v13 = .bool qN ∧ af (ay.j1 kq l0 dK aI qN = some r) ∧ af (kq ≤ k1) ∧ af (Kd.R k42 42 wc w.heap.size (fun _ => True) u3 dK) ∧ af (Below w.heap.size w wc))
   case first =>
    have H := HC4.out
    clear HC4
    by_cases c5 : aI < (l0.length : Int)
    ·rw [if_pos c5] at H
     have iL : decide (aI < (l0.length : Int)) = true := decide_eq_true c5
     clear c5
     (first | rw [iL] | (simp only [iP, mK]; rw [iL]) | skip)
     have H' := af.mk H
     clear H
     go_wp2
     go_meet
     case rel => exact ⟨_, (decide (aI < 8)), (by first | rfl | (simp; done) | (simp [*]; done)), H', ⟨by have := HK1.out; first | omega | exact Nat.le_refl _⟩, ⟨by (with_reducible repeat (first | apply Kd.cB | apply Kd.cK | apply Kd.dD)); exact gp.out⟩, ⟨by repeat (first | (with_reducible first | exact HB.out | apply aA | apply aj | apply av) | exact HB.out)⟩⟩
    ·rw [if_neg c5] at H
     have iL : decide (aI < (l0.length : Int)) = false := decide_eq_false c5
     clear c5
     (first | rw [iL] | (simp only [iP, mK]; rw [iL]) | skip)
     have H' := af.mk H
     clear H
     go_wp2
     go_meet
     case rel => exact ⟨_, (false), (by first | rfl | (simp; done) | (simp [*]; done)), H', ⟨by have := HK1.out; first | omega | exact Nat.le_refl _⟩, ⟨by (with_reducible repeat (first | apply Kd.cB | apply Kd.cK | apply Kd.dD)); exact gp.out⟩, ⟨by repeat (first | (with_reducible first | exact HB.out | apply aA | apply aj | apply av) | exact HB.out)⟩⟩
   case rest =>
    clear HC4
    try clear p2
    try clear c4
    try clear c5
    try clear iL
    try clear p2
    obtain ⟨kq, qN, rfl, HA, HJ3, gp, HB⟩ := hcut
    cases kq with
    | zero => exact absurd HA.out (by simp [ay.j1])
    | succ kj3 =>
     have H := HA.out
     clear HA
     simp only [ay.j1] at H
     by_cases c6 : qN = true
     ·subst c6
      have H1 : (if 0 ≤ aI then (if aI < (l0.length : Int) then ((aW.f ((ak l0 aI).f0) ((ak l0 aI).f1) ((ak l0 aI).f2) ((ak l0 aI).f3) ((ak l0 aI).f4) ((ak l0 aI).f5.f0) ((ak l0 aI).f5.f1) ((ak l0 aI).f6)).bind fun iJ => (if dK.length < 1599289640401 then ((some (dK ++ [(⟨iJ.1, iJ.2.1, iJ.2.2.1, iJ.2.2.2.1, iJ.2.2.2.2.1, (⟨iJ.2.2.2.2.2.1, iJ.2.2.2.2.2.2.1⟩ : S40), iJ.2.2.2.2.2.2.2⟩ : S42)] : List (S42))).bind fun y116 => (if aI < (y116.length : Int) then ((bM.f kj3 ((ak y116 aI).f0) ((ak y116 aI).f1) ((ak y116 aI).f2) ((ak y116 aI).f3) ((ak y116 aI).f4) ((ak y116 aI).f5.f0) ((ak y116 aI).f5.f1) ((ak y116 aI).f6)).bind fun gJ => ((aG.f kj3 ((ak y116 aI).f0) ((ak y116 aI).f1) ((ak y116 aI).f2) ((ak y116 aI).f3) ((ak y116 aI).f4) ((ak y116 aI).f5.f0) ((ak y116 aI).f5.f1) ((ak y116 aI).f6)).bind fun jQ => (if gJ.toList = jQ.toList then (ay.l0 kj3 l0 y116 (wrap64 (aI + 1))) else (some false)))) else (none))) else (none))) else (none)) else (none)) = some r := by rw [if_pos rfl] at H; exact H
      clear H
      have H := H1
      clear H1
      by_cases c7 : 0 ≤ aI
      ·rw [if_pos c7] at H
       have iZ : decide (0 ≤ aI) = true := decide_eq_true c7
       clear c7
       by_cases c8 : aI < (l0.length : Int)
       ·rw [if_pos c8] at H
        have jM : decide (aI < (l0.length : Int)) = true := decide_eq_true c8
        clear c8
        replace H := Option.bind_eq_some_iff.mp H
        obtain ⟨⟨jI, t109, fq, gI, gU, fT, iB, iw⟩, A90, H⟩ := H
        replace H : (if dK.length < 1599289640401 then ((some (dK ++ [(⟨jI, t109, fq, gI, gU, (⟨fT, iB⟩ : S40), iw⟩ : S42)] : List (S42))).bind fun y116 => (if aI < (y116.length : Int) then ((bM.f kj3 ((ak y116 aI).f0) ((ak y116 aI).f1) ((ak y116 aI).f2) ((ak y116 aI).f3) ((ak y116 aI).f4) ((ak y116 aI).f5.f0) ((ak y116 aI).f5.f1) ((ak y116 aI).f6)).bind fun gJ => ((aG.f kj3 ((ak y116 aI).f0) ((ak y116 aI).f1) ((ak y116 aI).f2) ((ak y116 aI).f3) ((ak y116 aI).f4) ((ak y116 aI).f5.f0) ((ak y116 aI).f5.f1) ((ak y116 aI).f6)).bind fun jQ => (if gJ.toList = jQ.toList then (ay.l0 kj3 l0 y116 (wrap64 (aI + 1))) else (some false)))) else (none))) else (none)) = some r := H
        have A9 := af.mk A90
        clear A90
        by_cases c10 : dK.length < 1599289640401
        ·rw [if_pos c10] at H
         have LMc10 := af.mk c10
         clear c10
         obtain ⟨y116, hy116⟩ : ∃ y_ : List (S42), y_ = (dK ++ [(⟨jI, t109, fq, gI, gU, (⟨fT, iB⟩ : S40), iw⟩ : S42)]) := ⟨_, rfl⟩
         replace H : (if aI < (y116.length : Int) then ((bM.f kj3 ((ak y116 aI).f0) ((ak y116 aI).f1) ((ak y116 aI).f2) ((ak y116 aI).f3) ((ak y116 aI).f4) ((ak y116 aI).f5.f0) ((ak y116 aI).f5.f1) ((ak y116 aI).f6)).bind fun gJ => ((aG.f kj3 ((ak y116 aI).f0) ((ak y116 aI).f1) ((ak y116 aI).f2) ((ak y116 aI).f3) ((ak y116 aI).f4) ((ak y116 aI).f5.f0) ((ak y116 aI).f5.f1) ((ak y116 aI).f6)).bind fun jQ => (if gJ.toList = jQ.toList then (ay.l0 kj3 l0 y116 (wrap64 (aI + 1))) else (some false)))) else (none)) = some r := by first | (rw [hy116]; with_reducible exact H) | (have H2_ := (Option.bind_some _ _).symm.trans H; rw [hy116]; with_reducible exact H2_) | (have H2_ := (Option.bind_some _ _).symm.trans H; with_reducible exact H2_) | with_reducible exact H | (rw [hy116]; exact H) | exact H
         have Ny116 := af.mk hy116
         clear hy116
         by_cases c11 : aI < (y116.length : Int)
         ·rw [if_pos c11] at H
          have jC : decide (aI < (y116.length : Int)) = true := decide_eq_true c11
          clear c11
          replace H := Option.bind_eq_some_iff.mp H
          obtain ⟨gJ, A120, H⟩ := H
          replace H : ((aG.f kj3 ((ak y116 aI).f0) ((ak y116 aI).f1) ((ak y116 aI).f2) ((ak y116 aI).f3) ((ak y116 aI).f4) ((ak y116 aI).f5.f0) ((ak y116 aI).f5.f1) ((ak y116 aI).f6)).bind fun jQ => (if gJ.toList = jQ.toList then (ay.l0 kj3 l0 y116 (wrap64 (aI + 1))) else (some false))) = some r := H
          have A12 := af.mk A120
          clear A120
          replace H := Option.bind_eq_some_iff.mp H
          obtain ⟨jQ, A130, H⟩ := H
          replace H : (if gJ.toList = jQ.toList then (ay.l0 kj3 l0 y116 (wrap64 (aI + 1))) else (some false)) = some r := H
          have A13 := af.mk A130
          clear A130
          by_cases c14 : gJ.toList = jQ.toList
          ·rw [if_pos c14] at H
           have nP : (gJ.toList == jQ.toList) = true := beq_iff_eq.mpr c14
           have mY : (gJ.toList != jQ.toList) = false := bne_eq_false_iff_eq.mpr c14
           clear c14
           have H' := af.mk H
           clear H
           have p107 : 0 ≤ (aI : Int) := of_decide_eq_true qa
           have q107 : aI < (l0.length : Int) := of_decide_eq_true qa
           obtain ⟨ad107, e107, hx107_0, hx107_1, hx107_2, hx107_3, hx107_4, hx107_5, hx107_6, hx107_7⟩ := j4 HR0.out aI p107 q107
           cases e107
           replace hx107_0 := (HB.out.cell (World.block_lt_of_cell? w _ hx107_0)).trans hx107_0
           replace hx107_1 := (HB.out.cell (World.block_lt_of_cell? w _ hx107_1)).trans hx107_1
           replace hx107_2 := (HB.out.cell (World.block_lt_of_cell? w _ hx107_2)).trans hx107_2
           replace hx107_3 := (HB.out.cell (World.block_lt_of_cell? w _ hx107_3)).trans hx107_3
           replace hx107_4 := (HB.out.cell (World.block_lt_of_cell? w _ hx107_4)).trans hx107_4
           replace hx107_5 := (HB.out.cell (World.block_lt_of_cell? w _ hx107_5)).trans hx107_5
           replace hx107_6 := (HB.out.cell (World.block_lt_of_cell? w _ hx107_6)).trans hx107_6
           replace hx107_7 := (HB.out.cell (World.block_lt_of_cell? w _ hx107_7)).trans hx107_7
           replace p107 := eq_true p107
           replace q107 := eq_true q107
           try go_wp2_with (first | ((with_reducible refine aN (f := 16) rfl ?_); refine cu (some 21) rfl rfl Tryd.func16 (by kernel_rfl) rfl #[.agg #[.int .i64 ((ak l0 aI).f0), .string ((ak l0 aI).f1), .string ((ak l0 aI).f2), .string ((ak l0 aI).f3), .int .u32 ((ak l0 aI).f4), .int .u32 ((ak l0 aI).f5.f0), .int .i64 ((ak l0 aI).f5.f1), .int .i64 ((ak l0 aI).f6)]] rfl qt ?_; (with_reducible refine (aW.calls ((ak l0 aI).f0) ((ak l0 aI).f1) ((ak l0 aI).f2) ((ak l0 aI).f3) ((ak l0 aI).f4) ((ak l0 aI).f5.f0) ((ak l0 aI).f5.f1) ((ak l0 aI).f6) jI t109 fq gI gU fT iB iw _ A9.out).mono ?_); rintro e w15 ⟨rfl, hb⟩; refine ⟨_, rfl, ?_⟩; replace gp := af.mk (Kd.bH (qr gp) hb); replace HB := af.mk (ai (qw HB) hb); (try clear hb); (try clear hb2); (try clear hk); (try clear hi)) | ((with_reducible refine jc (b := .append) (xs := #[.tmp 16, .tmp 22]) rfl ?_); at_builtin; refine Kd.kZ k42 (w0 := w) w.heap.size rfl (.tmp 16) (.tmp 22) 37 42 (.agg #[(.int .i64 0), (.string ⟨#[]⟩), (.string ⟨#[]⟩), (.string ⟨#[]⟩), (.int .u32 0), (.int .u32 0), (.int .i64 0), (.int .i64 0)]) 88 rfl Tryd.underlying37 sN rfl (by decide) (by omega) u3 dK (⟨jI, t109, fq, gI, gU, (⟨fT, iB⟩ : S40), iw⟩ : S42) [.int .i64 jI, .string t109, .string fq, .string gI, .int .u32 gU, .int .u32 fT, .int .i64 iB, .int .i64 iw] (fun _ => True) (fun _ => False) rfl rfl ?aP (fun _ hk => hk.elim) ?aF ?aO ?aB ?aS ?aL ?_; (case aP => exact qG _ _ _ (⟨jI, t109, fq, gI, gU, (⟨fT, iB⟩ : S40), iw⟩ : S42)); (case aB => exact (qw HB)); (case aF => exact (fun _ _ => trivial)); (case aO => exact (qr gp)); (case aS => exact (bg (qw HB))); (case aL => have := LMc10.out; omega); intro v117 w16 ho hb hg hat; rw [← Ny116.out] at ho; replace HB := af.mk (hb); have ib := af.mk (ho); clear gp; clear ho hb hg hat))
           replace ib := af.mk (Kd.dD ib.out)
           replace HB := af.mk (av HB.out)
           obtain ⟨tX, tY, qi⟩ := Kd.dW ib.out
           (first | subst qi | (injection qi with f1_ f2_ f3_; have f4_ := f1_.symm; have f5_ := f3_.symm; clear f1_ f2_ f3_; subst f4_; subst f5_))
           have p119 : 0 ≤ (aI : Int) := of_decide_eq_true qa
           have q119 : aI < (y116.length : Int) := of_decide_eq_true qa
           obtain ⟨ad119, e119, hx119_0, hx119_1, hx119_2, hx119_3, hx119_4, hx119_5, hx119_6, hx119_7⟩ := j4 (Kd.aZ ib.out).2.2 aI p119 q119
           cases e119
           replace p119 := eq_true p119
           replace q119 := eq_true q119
           have p121 : 0 ≤ (aI : Int) := of_decide_eq_true qa
           have q121 : aI < (y116.length : Int) := of_decide_eq_true qa
           obtain ⟨ad121, e121, hx121_0, hx121_1, hx121_2, hx121_3, hx121_4, hx121_5, hx121_6, hx121_7⟩ := j4 (Kd.aZ ib.out).2.2 aI p121 q121
           obtain rfl : ad119 = ad121 := (by injection e121)
           replace p121 := eq_true p121
           replace q121 := eq_true q121
           refine gm (n := 11) (S := fun w' => w'.cell? (ad119.add ((aI).toNat * 8)) = some (.int .i64 ((ak y116 aI).f0)) ∧ w'.cell? ⟨(ad119.add ((aI).toNat * 8)).block, (ad119.add ((aI).toNat * 8)).off + 1, none⟩ = some (.string ((ak y116 aI).f1)) ∧ w'.cell? ⟨(ad119.add ((aI).toNat * 8)).block, (ad119.add ((aI).toNat * 8)).off + 2, none⟩ = some (.string ((ak y116 aI).f2)) ∧ w'.cell? ⟨(ad119.add ((aI).toNat * 8)).block, (ad119.add ((aI).toNat * 8)).off + 3, none⟩ = some (.string ((ak y116 aI).f3)) ∧ w'.cell? ⟨(ad119.add ((aI).toNat * 8)).block, (ad119.add ((aI).toNat * 8)).off + 4, none⟩ = some (.int .u32 ((ak y116 aI).f4)) ∧ w'.cell? ⟨(ad119.add ((aI).toNat * 8)).block, (ad119.add ((aI).toNat * 8)).off + 5, none⟩ = some (.int .u32 ((ak y116 aI).f5.f0)) ∧ w'.cell? ⟨(ad119.add ((aI).toNat * 8)).block, (ad119.add ((aI).toNat * 8)).off + 6, none⟩ = some (.int .i64 ((ak y116 aI).f5.f1)) ∧ w'.cell? ⟨(ad119.add ((aI).toNat * 8)).block, (ad119.add ((aI).toNat * 8)).off + 7, none⟩ = some (.int .i64 ((ak y116 aI).f6)) ∧ w'.cell? (ad119.add ((aI).toNat * 8)) = some (.int .i64 ((ak y116 aI).f0)) ∧ w'.cell? ⟨(ad119.add ((aI).toNat * 8)).block, (ad119.add ((aI).toNat * 8)).off + 1, none⟩ = some (.string ((ak y116 aI).f1)) ∧ w'.cell? ⟨(ad119.add ((aI).toNat * 8)).block, (ad119.add ((aI).toNat * 8)).off + 2, none⟩ = some (.string ((ak y116 aI).f2)) ∧ w'.cell? ⟨(ad119.add ((aI).toNat * 8)).block, (ad119.add ((aI).toNat * 8)).off + 3, none⟩ = some (.string ((ak y116 aI).f3)) ∧ w'.cell? ⟨(ad119.add ((aI).toNat * 8)).block, (ad119.add ((aI).toNat * 8)).off + 4, none⟩ = some (.int .u32 ((ak y116 aI).f4)) ∧ w'.cell? ⟨(ad119.add ((aI).toNat * 8)).block, (ad119.add ((aI).toNat * 8)).off + 5, none⟩ = some (.int .u32 ((ak y116 aI).f5.f0)) ∧ w'.cell? ⟨(ad119.add ((aI).toNat * 8)).block, (ad119.add ((aI).toNat * 8)).off + 6, none⟩ = some (.int .i64 ((ak y116 aI).f5.f1)) ∧ w'.cell? ⟨(ad119.add ((aI).toNat * 8)).block, (ad119.add ((aI).toNat * 8)).off + 7, none⟩ = some (.int .i64 ((ak y116 aI).f6))) (ds := []) #[bF,bF,bF,bF,bF,bF,bF,bF,bF,bF,bF] (by kernel_rfl) rfl rfl ⟨hx119_0, hx119_1, hx119_2, hx119_3, hx119_4, hx119_5, hx119_6, hx119_7, hx121_0, hx121_1, hx121_2, hx121_3, hx121_4, hx121_5, hx121_6, hx121_7⟩ (fun hHeld => ?_); refine eH ay.uV ay.qL (fun HT_ HW_ => ?_)
           generalize w16.drew = w17 at ib HB hx119_0 hx119_1 hx119_2 hx119_3 hx119_4 hx119_5 hx119_6 hx119_7 hx121_0 hx121_1 hx121_2 hx121_3 hx121_4 hx121_5 hx121_6 hx121_7 hHeld ⊢
           refine aY 0 (some 24) HT_ ?_
           refine aY 1 (some 25) HT_ ?_
           refine aY 2 (some 26) HT_ ?_
           refine aY 5 (some 29) HT_ ?_
           refine aY 6 (some 30) HT_ ?_
           refine aY 7 (some 31) HT_ ?_
           refine d9 3 (some 27) HT_ HW_ hHeld ?_
           refine d9 8 (some 32) HT_ HW_ hHeld ?_
           refine gF 4 (some 28) HT_ (fun K hK => ?_)
           refine fe Tryd.func17 #[.agg #[.int .i64 ((ak y116 aI).f0), .string ((ak y116 aI).f1), .string ((ak y116 aI).f2), .string ((ak y116 aI).f3), .int .u32 ((ak y116 aI).f4), .int .u32 ((ak y116 aI).f5.f0), .int .i64 ((ak y116 aI).f5.f1), .int .i64 ((ak y116 aI).f6)]] ?_
           with_reducible refine (bM.calls kj3 ((ak y116 aI).f0) ((ak y116 aI).f1) ((ak y116 aI).f2) ((ak y116 aI).f3) ((ak y116 aI).f4) ((ak y116 aI).f5.f0) ((ak y116 aI).f5.f1) ((ak y116 aI).f6) gJ _ A12.out ?gt).mono ?_
           (case gt => exact Go.Proofs.YthfphdbebnkdpaaDoorV.GT.below HGT (qw HB))
           rintro e w19 ⟨rfl, hb⟩
           have HS0_ := (hb.cell (World.block_lt_of_cell? _ _ (hHeld.1))).trans (hHeld.1)
           have HS1_ := (hb.cell (World.block_lt_of_cell? _ _ (hHeld.2.1))).trans (hHeld.2.1)
           have HS2_ := (hb.cell (World.block_lt_of_cell? _ _ (hHeld.2.2.1))).trans (hHeld.2.2.1)
           have HS3_ := (hb.cell (World.block_lt_of_cell? _ _ (hHeld.2.2.2.1))).trans (hHeld.2.2.2.1)
           have HS4_ := (hb.cell (World.block_lt_of_cell? _ _ (hHeld.2.2.2.2.1))).trans (hHeld.2.2.2.2.1)
           have HS5_ := (hb.cell (World.block_lt_of_cell? _ _ (hHeld.2.2.2.2.2.1))).trans (hHeld.2.2.2.2.2.1)
           have HS6_ := (hb.cell (World.block_lt_of_cell? _ _ (hHeld.2.2.2.2.2.2.1))).trans (hHeld.2.2.2.2.2.2.1)
           have HS7_ := (hb.cell (World.block_lt_of_cell? _ _ (hHeld.2.2.2.2.2.2.2.1))).trans (hHeld.2.2.2.2.2.2.2.1)
           have HS8_ := (hb.cell (World.block_lt_of_cell? _ _ (hHeld.2.2.2.2.2.2.2.2.1))).trans (hHeld.2.2.2.2.2.2.2.2.1)
           have HS9_ := (hb.cell (World.block_lt_of_cell? _ _ (hHeld.2.2.2.2.2.2.2.2.2.1))).trans (hHeld.2.2.2.2.2.2.2.2.2.1)
           have HS10_ := (hb.cell (World.block_lt_of_cell? _ _ (hHeld.2.2.2.2.2.2.2.2.2.2.1))).trans (hHeld.2.2.2.2.2.2.2.2.2.2.1)
           have HS11_ := (hb.cell (World.block_lt_of_cell? _ _ (hHeld.2.2.2.2.2.2.2.2.2.2.2.1))).trans (hHeld.2.2.2.2.2.2.2.2.2.2.2.1)
           have HS12_ := (hb.cell (World.block_lt_of_cell? _ _ (hHeld.2.2.2.2.2.2.2.2.2.2.2.2.1))).trans (hHeld.2.2.2.2.2.2.2.2.2.2.2.2.1)
           have HS13_ := (hb.cell (World.block_lt_of_cell? _ _ (hHeld.2.2.2.2.2.2.2.2.2.2.2.2.2.1))).trans (hHeld.2.2.2.2.2.2.2.2.2.2.2.2.2.1)
           have HS14_ := (hb.cell (World.block_lt_of_cell? _ _ (hHeld.2.2.2.2.2.2.2.2.2.2.2.2.2.2.1))).trans (hHeld.2.2.2.2.2.2.2.2.2.2.2.2.2.2.1)
           have HS15_ := (hb.cell (World.block_lt_of_cell? _ _ (hHeld.2.2.2.2.2.2.2.2.2.2.2.2.2.2.2))).trans (hHeld.2.2.2.2.2.2.2.2.2.2.2.2.2.2.2)
           refine ⟨_, rfl, ?_⟩
           replace ib := af.mk (Kd.bH (qr ib) hb)
           replace HB := af.mk (ai (qw HB) hb)
           (try clear hb)
           (try clear hb2)
           (try clear hk)
           (try clear hi)
           refine hK.out _ _ ⟨HS0_, HS1_, HS2_, HS3_, HS4_, HS5_, HS6_, HS7_, HS8_, HS9_, HS10_, HS11_, HS12_, HS13_, HS14_, HS15_⟩ (fun hHeld => ?_)
           clear hK K
           refine eX (some 28) ?_
           refine gF 9 (some 33) HT_ (fun K hK => ?_)
           refine fe Tryd.func18 #[.agg #[.int .i64 ((ak y116 aI).f0), .string ((ak y116 aI).f1), .string ((ak y116 aI).f2), .string ((ak y116 aI).f3), .int .u32 ((ak y116 aI).f4), .int .u32 ((ak y116 aI).f5.f0), .int .i64 ((ak y116 aI).f5.f1), .int .i64 ((ak y116 aI).f6)]] ?_
           with_reducible refine (aG.calls kj3 ((ak y116 aI).f0) ((ak y116 aI).f1) ((ak y116 aI).f2) ((ak y116 aI).f3) ((ak y116 aI).f4) ((ak y116 aI).f5.f0) ((ak y116 aI).f5.f1) ((ak y116 aI).f6) jQ _ A13.out).mono ?_
           rintro e w20 ⟨rfl, hb⟩
           have HS0_ := (hb.cell (World.block_lt_of_cell? _ _ (hHeld.1))).trans (hHeld.1)
           have HS1_ := (hb.cell (World.block_lt_of_cell? _ _ (hHeld.2.1))).trans (hHeld.2.1)
           have HS2_ := (hb.cell (World.block_lt_of_cell? _ _ (hHeld.2.2.1))).trans (hHeld.2.2.1)
           have HS3_ := (hb.cell (World.block_lt_of_cell? _ _ (hHeld.2.2.2.1))).trans (hHeld.2.2.2.1)
           have HS4_ := (hb.cell (World.block_lt_of_cell? _ _ (hHeld.2.2.2.2.1))).trans (hHeld.2.2.2.2.1)
           have HS5_ := (hb.cell (World.block_lt_of_cell? _ _ (hHeld.2.2.2.2.2.1))).trans (hHeld.2.2.2.2.2.1)
           have HS6_ := (hb.cell (World.block_lt_of_cell? _ _ (hHeld.2.2.2.2.2.2.1))).trans (hHeld.2.2.2.2.2.2.1)
           have HS7_ := (hb.cell (World.block_lt_of_cell? _ _ (hHeld.2.2.2.2.2.2.2.1))).trans (hHeld.2.2.2.2.2.2.2.1)
           have HS8_ := (hb.cell (World.block_lt_of_cell? _ _ (hHeld.2.2.2.2.2.2.2.2.1))).trans (hHeld.2.2.2.2.2.2.2.2.1)
           have HS9_ := (hb.cell (World.block_lt_of_cell? _ _ (hHeld.2.2.2.2.2.2.2.2.2.1))).trans (hHeld.2.2.2.2.2.2.2.2.2.1)
           have HS10_ := (hb.cell (World.block_lt_of_cell? _ _ (hHeld.2.2.2.2.2.2.2.2.2.2.1))).trans (hHeld.2.2.2.2.2.2.2.2.2.2.1)
           have HS11_ := (hb.cell (World.block_lt_of_cell? _ _ (hHeld.2.2.2.2.2.2.2.2.2.2.2.1))).trans (hHeld.2.2.2.2.2.2.2.2.2.2.2.1)
           have HS12_ := (hb.cell (World.block_lt_of_cell? _ _ (hHeld.2.2.2.2.2.2.2.2.2.2.2.2.1))).trans (hHeld.2.2.2.2.2.2.2.2.2.2.2.2.1)
           have HS13_ := (hb.cell (World.block_lt_of_cell? _ _ (hHeld.2.2.2.2.2.2.2.2.2.2.2.2.2.1))).trans (hHeld.2.2.2.2.2.2.2.2.2.2.2.2.2.1)
           have HS14_ := (hb.cell (World.block_lt_of_cell? _ _ (hHeld.2.2.2.2.2.2.2.2.2.2.2.2.2.2.1))).trans (hHeld.2.2.2.2.2.2.2.2.2.2.2.2.2.2.1)
           have HS15_ := (hb.cell (World.block_lt_of_cell? _ _ (hHeld.2.2.2.2.2.2.2.2.2.2.2.2.2.2.2))).trans (hHeld.2.2.2.2.2.2.2.2.2.2.2.2.2.2.2)
           refine ⟨_, rfl, ?_⟩
           replace ib := af.mk (Kd.bH (qr ib) hb)
           replace HB := af.mk (ai (qw HB) hb)
           (try clear hb)
           (try clear hb2)
           (try clear hk)
           (try clear hi)
           refine hK.out _ _ ⟨HS0_, HS1_, HS2_, HS3_, HS4_, HS5_, HS6_, HS7_, HS8_, HS9_, HS10_, HS11_, HS12_, HS13_, HS14_, HS15_⟩ (fun hHeld => ?_)
           clear hK K
           refine eX (some 33) ?_
           refine aY 10 (some 34) HT_ ?_
           refine iq HT_ ?_
           try go_wp2
           go_roundg kj3
           case measure => have := HK1.out; have := HJ3.out; omega
           case rel => exact ⟨(y116), (wrap64 (aI + 1)), (by first | rfl | (simp; done) | (simp [*]; done)), H', ⟨by have := HK1.out; have := HJ3.out; omega⟩, ⟨by (with_reducible repeat (first | apply Kd.cB | apply Kd.cK | apply Kd.dD)); exact ib.out⟩, ⟨by repeat (first | (with_reducible first | exact HB.out | apply aA | apply aj | apply av) | exact HB.out)⟩⟩
          ·rw [if_neg c14] at H
           have nP : (gJ.toList == jQ.toList) = false := beq_eq_false_iff_ne.mpr c14
           have mY : (gJ.toList != jQ.toList) = true := bne_iff_ne.mpr c14
           obtain rfl := Option.some.inj H
           have p107 : 0 ≤ (aI : Int) := of_decide_eq_true qa
           have q107 : aI < (l0.length : Int) := of_decide_eq_true qa
           obtain ⟨ad107, e107, hx107_0, hx107_1, hx107_2, hx107_3, hx107_4, hx107_5, hx107_6, hx107_7⟩ := j4 HR0.out aI p107 q107
           cases e107
           replace hx107_0 := (HB.out.cell (World.block_lt_of_cell? w _ hx107_0)).trans hx107_0
           replace hx107_1 := (HB.out.cell (World.block_lt_of_cell? w _ hx107_1)).trans hx107_1
           replace hx107_2 := (HB.out.cell (World.block_lt_of_cell? w _ hx107_2)).trans hx107_2
           replace hx107_3 := (HB.out.cell (World.block_lt_of_cell? w _ hx107_3)).trans hx107_3
           replace hx107_4 := (HB.out.cell (World.block_lt_of_cell? w _ hx107_4)).trans hx107_4
           replace hx107_5 := (HB.out.cell (World.block_lt_of_cell? w _ hx107_5)).trans hx107_5
           replace hx107_6 := (HB.out.cell (World.block_lt_of_cell? w _ hx107_6)).trans hx107_6
           replace hx107_7 := (HB.out.cell (World.block_lt_of_cell? w _ hx107_7)).trans hx107_7
           replace p107 := eq_true p107
           replace q107 := eq_true q107
           try go_wp2_with (first | ((with_reducible refine aN (f := 16) rfl ?_); refine cu (some 21) rfl rfl Tryd.func16 (by kernel_rfl) rfl #[.agg #[.int .i64 ((ak l0 aI).f0), .string ((ak l0 aI).f1), .string ((ak l0 aI).f2), .string ((ak l0 aI).f3), .int .u32 ((ak l0 aI).f4), .int .u32 ((ak l0 aI).f5.f0), .int .i64 ((ak l0 aI).f5.f1), .int .i64 ((ak l0 aI).f6)]] rfl qt ?_; (with_reducible refine (aW.calls ((ak l0 aI).f0) ((ak l0 aI).f1) ((ak l0 aI).f2) ((ak l0 aI).f3) ((ak l0 aI).f4) ((ak l0 aI).f5.f0) ((ak l0 aI).f5.f1) ((ak l0 aI).f6) jI t109 fq gI gU fT iB iw _ A9.out).mono ?_); rintro e w21 ⟨rfl, hb⟩; refine ⟨_, rfl, ?_⟩; replace gp := af.mk (Kd.bH (qr gp) hb); replace HB := af.mk (ai (qw HB) hb); (try clear hb); (try clear hb2); (try clear hk); (try clear hi)) | ((with_reducible refine jc (b := .append) (xs := #[.tmp 16, .tmp 22]) rfl ?_); at_builtin; refine Kd.kZ k42 (w0 := w) w.heap.size rfl (.tmp 16) (.tmp 22) 37 42 (.agg #[(.int .i64 0), (.string ⟨#[]⟩), (.string ⟨#[]⟩), (.string ⟨#[]⟩), (.int .u32 0), (.int .u32 0), (.int .i64 0), (.int .i64 0)]) 88 rfl Tryd.underlying37 sN rfl (by decide) (by omega) u3 dK (⟨jI, t109, fq, gI, gU, (⟨fT, iB⟩ : S40), iw⟩ : S42) [.int .i64 jI, .string t109, .string fq, .string gI, .int .u32 gU, .int .u32 fT, .int .i64 iB, .int .i64 iw] (fun _ => True) (fun _ => False) rfl rfl ?aP (fun _ hk => hk.elim) ?aF ?aO ?aB ?aS ?aL ?_; (case aP => exact qG _ _ _ (⟨jI, t109, fq, gI, gU, (⟨fT, iB⟩ : S40), iw⟩ : S42)); (case aB => exact (qw HB)); (case aF => exact (fun _ _ => trivial)); (case aO => exact (qr gp)); (case aS => exact (bg (qw HB))); (case aL => have := LMc10.out; omega); intro v117 w22 ho hb hg hat; rw [← Ny116.out] at ho; replace HB := af.mk (hb); have ib := af.mk (ho); clear gp; clear ho hb hg hat))
           replace ib := af.mk (Kd.dD ib.out)
           replace HB := af.mk (av HB.out)
           obtain ⟨Bu, Bv, yK⟩ := Kd.dW ib.out
           (first | subst yK | (injection yK with f1_ f2_ f3_; have f4_ := f1_.symm; have f5_ := f3_.symm; clear f1_ f2_ f3_; subst f4_; subst f5_))
           have p119 : 0 ≤ (aI : Int) := of_decide_eq_true qa
           have q119 : aI < (y116.length : Int) := of_decide_eq_true qa
           obtain ⟨ad119, e119, hx119_0, hx119_1, hx119_2, hx119_3, hx119_4, hx119_5, hx119_6, hx119_7⟩ := j4 (Kd.aZ ib.out).2.2 aI p119 q119
           cases e119
           replace p119 := eq_true p119
           replace q119 := eq_true q119
           have p121 : 0 ≤ (aI : Int) := of_decide_eq_true qa
           have q121 : aI < (y116.length : Int) := of_decide_eq_true qa
           obtain ⟨ad121, e121, hx121_0, hx121_1, hx121_2, hx121_3, hx121_4, hx121_5, hx121_6, hx121_7⟩ := j4 (Kd.aZ ib.out).2.2 aI p121 q121
           obtain rfl : ad119 = ad121 := (by injection e121)
           replace p121 := eq_true p121
           replace q121 := eq_true q121
           refine gm (n := 11) (S := fun w' => w'.cell? (ad119.add ((aI).toNat * 8)) = some (.int .i64 ((ak y116 aI).f0)) ∧ w'.cell? ⟨(ad119.add ((aI).toNat * 8)).block, (ad119.add ((aI).toNat * 8)).off + 1, none⟩ = some (.string ((ak y116 aI).f1)) ∧ w'.cell? ⟨(ad119.add ((aI).toNat * 8)).block, (ad119.add ((aI).toNat * 8)).off + 2, none⟩ = some (.string ((ak y116 aI).f2)) ∧ w'.cell? ⟨(ad119.add ((aI).toNat * 8)).block, (ad119.add ((aI).toNat * 8)).off + 3, none⟩ = some (.string ((ak y116 aI).f3)) ∧ w'.cell? ⟨(ad119.add ((aI).toNat * 8)).block, (ad119.add ((aI).toNat * 8)).off + 4, none⟩ = some (.int .u32 ((ak y116 aI).f4)) ∧ w'.cell? ⟨(ad119.add ((aI).toNat * 8)).block, (ad119.add ((aI).toNat * 8)).off + 5, none⟩ = some (.int .u32 ((ak y116 aI).f5.f0)) ∧ w'.cell? ⟨(ad119.add ((aI).toNat * 8)).block, (ad119.add ((aI).toNat * 8)).off + 6, none⟩ = some (.int .i64 ((ak y116 aI).f5.f1)) ∧ w'.cell? ⟨(ad119.add ((aI).toNat * 8)).block, (ad119.add ((aI).toNat * 8)).off + 7, none⟩ = some (.int .i64 ((ak y116 aI).f6)) ∧ w'.cell? (ad119.add ((aI).toNat * 8)) = some (.int .i64 ((ak y116 aI).f0)) ∧ w'.cell? ⟨(ad119.add ((aI).toNat * 8)).block, (ad119.add ((aI).toNat * 8)).off + 1, none⟩ = some (.string ((ak y116 aI).f1)) ∧ w'.cell? ⟨(ad119.add ((aI).toNat * 8)).block, (ad119.add ((aI).toNat * 8)).off + 2, none⟩ = some (.string ((ak y116 aI).f2)) ∧ w'.cell? ⟨(ad119.add ((aI).toNat * 8)).block, (ad119.add ((aI).toNat * 8)).off + 3, none⟩ = some (.string ((ak y116 aI).f3)) ∧ w'.cell? ⟨(ad119.add ((aI).toNat * 8)).block, (ad119.add ((aI).toNat * 8)).off + 4, none⟩ = some (.int .u32 ((ak y116 aI).f4)) ∧ w'.cell? ⟨(ad119.add ((aI).toNat * 8)).block, (ad119.add ((aI).toNat * 8)).off + 5, none⟩ = some (.int .u32 ((ak y116 aI).f5.f0)) ∧ w'.cell? ⟨(ad119.add ((aI).toNat * 8)).block, (ad119.add ((aI).toNat * 8)).off + 6, none⟩ = some (.int .i64 ((ak y116 aI).f5.f1)) ∧ w'.cell? ⟨(ad119.add ((aI).toNat * 8)).block, (ad119.add ((aI).toNat * 8)).off + 7, none⟩ = some (.int .i64 ((ak y116 aI).f6))) (ds := []) #[bF,bF,bF,bF,bF,bF,bF,bF,bF,bF,bF] (by kernel_rfl) rfl rfl ⟨hx119_0, hx119_1, hx119_2, hx119_3, hx119_4, hx119_5, hx119_6, hx119_7, hx121_0, hx121_1, hx121_2, hx121_3, hx121_4, hx121_5, hx121_6, hx121_7⟩ (fun hHeld => ?_); refine eH ay.uV ay.qL (fun HT_ HW_ => ?_)
           generalize w22.drew = w23 at ib HB hx119_0 hx119_1 hx119_2 hx119_3 hx119_4 hx119_5 hx119_6 hx119_7 hx121_0 hx121_1 hx121_2 hx121_3 hx121_4 hx121_5 hx121_6 hx121_7 hHeld ⊢
           refine aY 0 (some 24) HT_ ?_
           refine aY 1 (some 25) HT_ ?_
           refine aY 2 (some 26) HT_ ?_
           refine aY 5 (some 29) HT_ ?_
           refine aY 6 (some 30) HT_ ?_
           refine aY 7 (some 31) HT_ ?_
           refine d9 3 (some 27) HT_ HW_ hHeld ?_
           refine d9 8 (some 32) HT_ HW_ hHeld ?_
           refine gF 4 (some 28) HT_ (fun K hK => ?_)
           refine fe Tryd.func17 #[.agg #[.int .i64 ((ak y116 aI).f0), .string ((ak y116 aI).f1), .string ((ak y116 aI).f2), .string ((ak y116 aI).f3), .int .u32 ((ak y116 aI).f4), .int .u32 ((ak y116 aI).f5.f0), .int .i64 ((ak y116 aI).f5.f1), .int .i64 ((ak y116 aI).f6)]] ?_
           with_reducible refine (bM.calls kj3 ((ak y116 aI).f0) ((ak y116 aI).f1) ((ak y116 aI).f2) ((ak y116 aI).f3) ((ak y116 aI).f4) ((ak y116 aI).f5.f0) ((ak y116 aI).f5.f1) ((ak y116 aI).f6) gJ _ A12.out ?gt).mono ?_
           (case gt => exact Go.Proofs.YthfphdbebnkdpaaDoorV.GT.below HGT (qw HB))
           rintro e w25 ⟨rfl, hb⟩
           have HS0_ := (hb.cell (World.block_lt_of_cell? _ _ (hHeld.1))).trans (hHeld.1)
           have HS1_ := (hb.cell (World.block_lt_of_cell? _ _ (hHeld.2.1))).trans (hHeld.2.1)
           have HS2_ := (hb.cell (World.block_lt_of_cell? _ _ (hHeld.2.2.1))).trans (hHeld.2.2.1)
           have HS3_ := (hb.cell (World.block_lt_of_cell? _ _ (hHeld.2.2.2.1))).trans (hHeld.2.2.2.1)
           have HS4_ := (hb.cell (World.block_lt_of_cell? _ _ (hHeld.2.2.2.2.1))).trans (hHeld.2.2.2.2.1)
           have HS5_ := (hb.cell (World.block_lt_of_cell? _ _ (hHeld.2.2.2.2.2.1))).trans (hHeld.2.2.2.2.2.1)
           have HS6_ := (hb.cell (World.block_lt_of_cell? _ _ (hHeld.2.2.2.2.2.2.1))).trans (hHeld.2.2.2.2.2.2.1)
           have HS7_ := (hb.cell (World.block_lt_of_cell? _ _ (hHeld.2.2.2.2.2.2.2.1))).trans (hHeld.2.2.2.2.2.2.2.1)
           have HS8_ := (hb.cell (World.block_lt_of_cell? _ _ (hHeld.2.2.2.2.2.2.2.2.1))).trans (hHeld.2.2.2.2.2.2.2.2.1)
           have HS9_ := (hb.cell (World.block_lt_of_cell? _ _ (hHeld.2.2.2.2.2.2.2.2.2.1))).trans (hHeld.2.2.2.2.2.2.2.2.2.1)
           have HS10_ := (hb.cell (World.block_lt_of_cell? _ _ (hHeld.2.2.2.2.2.2.2.2.2.2.1))).trans (hHeld.2.2.2.2.2.2.2.2.2.2.1)
           have HS11_ := (hb.cell (World.block_lt_of_cell? _ _ (hHeld.2.2.2.2.2.2.2.2.2.2.2.1))).trans (hHeld.2.2.2.2.2.2.2.2.2.2.2.1)
           have HS12_ := (hb.cell (World.block_lt_of_cell? _ _ (hHeld.2.2.2.2.2.2.2.2.2.2.2.2.1))).trans (hHeld.2.2.2.2.2.2.2.2.2.2.2.2.1)
           have HS13_ := (hb.cell (World.block_lt_of_cell? _ _ (hHeld.2.2.2.2.2.2.2.2.2.2.2.2.2.1))).trans (hHeld.2.2.2.2.2.2.2.2.2.2.2.2.2.1)
           have HS14_ := (hb.cell (World.block_lt_of_cell? _ _ (hHeld.2.2.2.2.2.2.2.2.2.2.2.2.2.2.1))).trans (hHeld.2.2.2.2.2.2.2.2.2.2.2.2.2.2.1)
           have HS15_ := (hb.cell (World.block_lt_of_cell? _ _ (hHeld.2.2.2.2.2.2.2.2.2.2.2.2.2.2.2))).trans (hHeld.2.2.2.2.2.2.2.2.2.2.2.2.2.2.2)
           refine ⟨_, rfl, ?_⟩
           replace ib := af.mk (Kd.bH (qr ib) hb)
           replace HB := af.mk (ai (qw HB) hb)
           (try clear hb)
           (try clear hb2)
           (try clear hk)
           (try clear hi)
           refine hK.out _ _ ⟨HS0_, HS1_, HS2_, HS3_, HS4_, HS5_, HS6_, HS7_, HS8_, HS9_, HS10_, HS11_, HS12_, HS13_, HS14_, HS15_⟩ (fun hHeld => ?_)
           clear hK K
           refine eX (some 28) ?_
           refine gF 9 (some 33) HT_ (fun K hK => ?_)
           refine fe Tryd.func18 #[.agg #[.int .i64 ((ak y116 aI).f0), .string ((ak y116 aI).f1), .string ((ak y116 aI).f2), .string ((ak y116 aI).f3), .int .u32 ((ak y116 aI).f4), .int .u32 ((ak y116 aI).f5.f0), .int .i64 ((ak y116 aI).f5.f1), .int .i64 ((ak y116 aI).f6)]] ?_
           with_reducible refine (aG.calls kj3 ((ak y116 aI).f0) ((ak y116 aI).f1) ((ak y116 aI).f2) ((ak y116 aI).f3) ((ak y116 aI).f4) ((ak y116 aI).f5.f0) ((ak y116 aI).f5.f1) ((ak y116 aI).f6) jQ _ A13.out).mono ?_
           rintro e w26 ⟨rfl, hb⟩
           have HS0_ := (hb.cell (World.block_lt_of_cell? _ _ (hHeld.1))).trans (hHeld.1)
           have HS1_ := (hb.cell (World.block_lt_of_cell? _ _ (hHeld.2.1))).trans (hHeld.2.1)
           have HS2_ := (hb.cell (World.block_lt_of_cell? _ _ (hHeld.2.2.1))).trans (hHeld.2.2.1)
           have HS3_ := (hb.cell (World.block_lt_of_cell? _ _ (hHeld.2.2.2.1))).trans (hHeld.2.2.2.1)
           have HS4_ := (hb.cell (World.block_lt_of_cell? _ _ (hHeld.2.2.2.2.1))).trans (hHeld.2.2.2.2.1)
           have HS5_ := (hb.cell (World.block_lt_of_cell? _ _ (hHeld.2.2.2.2.2.1))).trans (hHeld.2.2.2.2.2.1)
           have HS6_ := (hb.cell (World.block_lt_of_cell? _ _ (hHeld.2.2.2.2.2.2.1))).trans (hHeld.2.2.2.2.2.2.1)
           have HS7_ := (hb.cell (World.block_lt_of_cell? _ _ (hHeld.2.2.2.2.2.2.2.1))).trans (hHeld.2.2.2.2.2.2.2.1)
           have HS8_ := (hb.cell (World.block_lt_of_cell? _ _ (hHeld.2.2.2.2.2.2.2.2.1))).trans (hHeld.2.2.2.2.2.2.2.2.1)
           have HS9_ := (hb.cell (World.block_lt_of_cell? _ _ (hHeld.2.2.2.2.2.2.2.2.2.1))).trans (hHeld.2.2.2.2.2.2.2.2.2.1)
           have HS10_ := (hb.cell (World.block_lt_of_cell? _ _ (hHeld.2.2.2.2.2.2.2.2.2.2.1))).trans (hHeld.2.2.2.2.2.2.2.2.2.2.1)
           have HS11_ := (hb.cell (World.block_lt_of_cell? _ _ (hHeld.2.2.2.2.2.2.2.2.2.2.2.1))).trans (hHeld.2.2.2.2.2.2.2.2.2.2.2.1)
           have HS12_ := (hb.cell (World.block_lt_of_cell? _ _ (hHeld.2.2.2.2.2.2.2.2.2.2.2.2.1))).trans (hHeld.2.2.2.2.2.2.2.2.2.2.2.2.1)
           have HS13_ := (hb.cell (World.block_lt_of_cell? _ _ (hHeld.2.2.2.2.2.2.2.2.2.2.2.2.2.1))).trans (hHeld.2.2.2.2.2.2.2.2.2.2.2.2.2.1)
           have HS14_ := (hb.cell (World.block_lt_of_cell? _ _ (hHeld.2.2.2.2.2.2.2.2.2.2.2.2.2.2.1))).trans (hHeld.2.2.2.2.2.2.2.2.2.2.2.2.2.2.1)
           have HS15_ := (hb.cell (World.block_lt_of_cell? _ _ (hHeld.2.2.2.2.2.2.2.2.2.2.2.2.2.2.2))).trans (hHeld.2.2.2.2.2.2.2.2.2.2.2.2.2.2.2)
           refine ⟨_, rfl, ?_⟩
           replace ib := af.mk (Kd.bH (qr ib) hb)
           replace HB := af.mk (ai (qw HB) hb)
           (try clear hb)
           (try clear hb2)
           (try clear hk)
           (try clear hi)
           refine hK.out _ _ ⟨HS0_, HS1_, HS2_, HS3_, HS4_, HS5_, HS6_, HS7_, HS8_, HS9_, HS10_, HS11_, HS12_, HS13_, HS14_, HS15_⟩ (fun hHeld => ?_)
           clear hK K
           refine eX (some 33) ?_
           refine aY 10 (some 34) HT_ ?_
           refine iq HT_ ?_
           try go_wp2
           go_ret
           exact ⟨by first | rfl | (simp [errW_none, errW_some] <;> rfl) | (simp [*, errW_none, errW_some] <;> rfl), by repeat (first | (with_reducible first | exact HB.out | apply aA | apply aj | apply av) | exact HB.out)⟩
         ·rw [if_neg c11] at H
          exact absurd H (by simp)
        ·rw [if_neg c10] at H
         exact absurd H (by simp)
       ·rw [if_neg c8] at H
        exact absurd H (by simp)
      ·rw [if_neg c7] at H
       exact absurd H (by simp)
     ·replace c6 := Bool.eq_false_iff.mpr c6
      subst c6
      have H1 : ((fF.f kj3 dK).bind fun bf => ((bq.f kj3 dK).bind fun t105 => (if bf.toList = t105.toList then ((eu.f kj3).bind fun aX => (some aX)) else (some false)))) = some r := by rw [if_neg (show ¬ (false = true) by decide)] at H; exact H
      clear H
      have H := H1
      clear H1
      replace H := Option.bind_eq_some_iff.mp H
      obtain ⟨bf, A270, H⟩ := H
      replace H : ((bq.f kj3 dK).bind fun t105 => (if bf.toList = t105.toList then ((eu.f kj3).bind fun aX => (some aX)) else (some false))) = some r := H
      have A27 := af.mk A270
      clear A270
      replace H := Option.bind_eq_some_iff.mp H
      obtain ⟨t105, A280, H⟩ := H
      replace H : (if bf.toList = t105.toList then ((eu.f kj3).bind fun aX => (some aX)) else (some false)) = some r := H
      have A28 := af.mk A280
      clear A280
      by_cases c29 : bf.toList = t105.toList
      ·rw [if_pos c29] at H
       have vN : (bf.toList == t105.toList) = true := beq_iff_eq.mpr c29
       have tN : (bf.toList != t105.toList) = false := bne_eq_false_iff_eq.mpr c29
       clear c29
       replace H := Option.bind_eq_some_iff.mp H
       obtain ⟨aX, A300, H⟩ := H
       replace H : (some aX) = some r := H
       have A30 := af.mk A300
       clear A300
       obtain rfl := Option.some.inj H
       obtain ⟨yL, yM, zI⟩ := Kd.dW gp.out
       subst zI
       go_wp2_with (first | ((with_reducible refine aN (f := 19) rfl ?_); refine cu (some 36) rfl rfl Tryd.func19 (by kernel_rfl) rfl #[.slice yL dK.length yM] rfl qt ?_; (with_reducible refine (fF.calls kj3 _ _ dK bf _ ?bI ?bJ A27.out ?gt).mono ?_); (case gt => exact Go.Proofs.YthfphdbebnkdpaaDoorV.GT.below HGT (qw HB)); (case bI => exact qs ((Kd.aZ gp.out).2.2)); (case bJ => exact (Kd.aZ gp.out).2.1); rintro e w32 ⟨rfl, hb⟩; refine ⟨_, rfl, ?_⟩; replace gp := af.mk (Kd.bH (qr gp) hb); replace HB := af.mk (ai (qw HB) hb); (try clear hb); (try clear hb2); (try clear hk); (try clear hi)) | ((with_reducible refine aN (f := 20) rfl ?_); refine cu (some 38) rfl rfl Tryd.func20 (by kernel_rfl) rfl #[.slice yL dK.length yM] rfl qt ?_; (with_reducible refine (bq.calls kj3 _ _ dK t105 _ ?bI ?bJ A28.out).mono ?_); (case bI => exact qs ((Kd.aZ gp.out).2.2)); (case bJ => exact (Kd.aZ gp.out).2.1); rintro e w33 ⟨rfl, hb⟩; refine ⟨_, rfl, ?_⟩; replace gp := af.mk (Kd.bH (qr gp) hb); replace HB := af.mk (ai (qw HB) hb); (try clear hb); (try clear hb2); (try clear hk); (try clear hi)) | (go_at_call 21; (with_reducible refine (eu.calls kj3  aX _ A30.out ?gt).mono ?_); (case gt => exact Go.Proofs.YthfphdbebnkdpaaDoorV.GT.below HGT (qw HB)); rintro e w34 ⟨rfl, hb⟩; replace gp := af.mk (Kd.bH (qr gp) hb); replace HB := af.mk (ai (qw HB) hb); (try clear hb); (try clear hb2); (try clear hk); (try clear hi)))
       go_ret
       exact ⟨by first | rfl | (simp [errW_none, errW_some] <;> rfl) | (simp [*, errW_none, errW_some] <;> rfl), by repeat (first | (with_reducible first | exact HB.out | apply aA | apply aj | apply av) | exact HB.out)⟩
      ·rw [if_neg c29] at H
       have vN : (bf.toList == t105.toList) = false := beq_eq_false_iff_ne.mpr c29
       have tN : (bf.toList != t105.toList) = true := bne_iff_ne.mpr c29
       obtain rfl := Option.some.inj H
       obtain ⟨yN, yO, zJ⟩ := Kd.dW gp.out
       subst zJ
       go_wp2_with (first | ((with_reducible refine aN (f := 19) rfl ?_); refine cu (some 36) rfl rfl Tryd.func19 (by kernel_rfl) rfl #[.slice yN dK.length yO] rfl qt ?_; (with_reducible refine (fF.calls kj3 _ _ dK bf _ ?bI ?bJ A27.out ?gt).mono ?_); (case gt => exact Go.Proofs.YthfphdbebnkdpaaDoorV.GT.below HGT (qw HB)); (case bI => exact qs ((Kd.aZ gp.out).2.2)); (case bJ => exact (Kd.aZ gp.out).2.1); rintro e w36 ⟨rfl, hb⟩; refine ⟨_, rfl, ?_⟩; replace gp := af.mk (Kd.bH (qr gp) hb); replace HB := af.mk (ai (qw HB) hb); (try clear hb); (try clear hb2); (try clear hk); (try clear hi)) | ((with_reducible refine aN (f := 20) rfl ?_); refine cu (some 38) rfl rfl Tryd.func20 (by kernel_rfl) rfl #[.slice yN dK.length yO] rfl qt ?_; (with_reducible refine (bq.calls kj3 _ _ dK t105 _ ?bI ?bJ A28.out).mono ?_); (case bI => exact qs ((Kd.aZ gp.out).2.2)); (case bJ => exact (Kd.aZ gp.out).2.1); rintro e w37 ⟨rfl, hb⟩; refine ⟨_, rfl, ?_⟩; replace gp := af.mk (Kd.bH (qr gp) hb); replace HB := af.mk (ai (qw HB) hb); (try clear hb); (try clear hb2); (try clear hk); (try clear hi)))
       go_ret
       exact ⟨by first | rfl | (simp [errW_none, errW_some] <;> rfl) | (simp [*, errW_none, errW_some] <;> rfl), by repeat (first | (with_reducible first | exact HB.out | apply aA | apply aj | apply av) | exact HB.out)⟩
end Go.Proofs.YthfphdbebnkdpaaDoor.P
end
section
set_option linter.unusedVariables false
set_option linter.unusedSimpArgs false
namespace Go.Proofs.YthfphdbebnkdpaaDoor.Pc
open Go.Proofs.YthfphdbebnkdpaaDoor.P Go.Proofs.YthfphdbebnkdpaaDoorW.aH Go.Proofs.YthfphdbebnkdpaaDoorW.aV Go.Proofs.YthfphdbebnkdpaaDoorW.bn Go.RowKit
abbrev Qy := S42
abbrev lf : ByteArray := ⟨#[10]⟩
def mi (l : List ByteArray) : ByteArray := ⟨(l.map (·.data.toList)).flatten.toArray⟩
theorem uo (l : List ByteArray) : iX l (⟨#[]⟩ : ByteArray) = mi l := by
 refine iH ?_
 unfold iX mi
 simp only
 induction l with
 | nil => rfl
 | cons x l ih =>
  cases l with
  | nil => simp [Lib.join, List.intercalate]
  | cons y r =>
   have e : Lib.join ((x :: y :: r).map (·.data.toList)) ([] : List UInt8) = x.data.toList ++ Lib.join ((y :: r).map (·.data.toList)) [] := by simp [Lib.join, List.intercalate]
   simp at ih e ⊢
   rw [e, ih]
structure kI (q : Qy) : Prop where
 h1 : q.f1.size ≤ 1000
 h2 : q.f2.size ≤ 1000
 h3 : q.f3.size ≤ 1000
 h4 : 0 ≤ q.f4 ∧ q.f4 < 4294967296
 h5 : 0 ≤ q.f5.f0 ∧ q.f5.f0 < 4294967296
 h6 : -4611686018427387904 ≤ q.f6 ∧ q.f6 ≤ 4611686018427387904
def QQ (q : Qy) : ByteArray := QT q.f0 q.f1 q.f2 q.f3 q.f4 q.f5.f0 q.f5.f1 q.f6
def QL (q : Qy) : ByteArray := QQ q ++ lf
theorem uq {q : Qy} (h : kI q) : (QQ q).size ≤ 4000 := xZ _ _ _ _ _ _ _ _ h.h1 h.h2 h.h3 h.h6.1 h.h6.2
theorem vP {q : Qy} (h : kI q) : (QL q).size ≤ 4001 := by
 have := uq h
 unfold QL; rw [gu]; show (QQ q).size + 1 ≤ 4001; omega
theorem yP {q : Qy} (h : kI q) : Ev (fun k => bM.f k q.f0 q.f1 q.f2 q.f3 q.f4 q.f5.f0 q.f5.f1 q.f6) (QQ q) := uW _ _ _ _ _ _ _ _ h.h1 h.h2 h.h3 h.h4.1 h.h4.2 h.h5.1 h.h5.2 h.h6.1 h.h6.2
theorem vQ {q : Qy} (h : kI q) : Ev (fun k => aG.f k q.f0 q.f1 q.f2 q.f3 q.f4 q.f5.f0 q.f5.f1 q.f6) (QQ q) := tT _ _ _ _ _ _ _ _ h.h1 h.h2 h.h3 h.h4.1 h.h4.2 h.h5.1 h.h5.2 h.h6.1 h.h6.2
theorem rdQ (l : List Qy) (i : Nat) (q : Qy) (h : l[i]? = some q) : ak l (i : Int) = q := by simp [ak, h]
theorem ut {α β : Type} (l : List α) (T : α → β) (e : β) (i d : Nat) (x : α) (hx : l[i]? = some x) : ((l.take i).map T ++ List.replicate (d + 1) e).set i (T x) = (l.take (i + 1)).map T ++ List.replicate d e := by
 have hi : i < l.length := (List.getElem?_eq_some_iff.1 hx).1
 have hl : ((l.take i).map T).length = i := by simp; omega
 rw [List.set_append_right _ _ (by omega), hl, Nat.sub_self, List.replicate_succ, List.set_cons_zero, List.take_add_one, hx]
 simp
theorem rO (l : List Qy) (hl : l.length ≤ 1000) (T : Qy → ByteArray) (hT : ∀ q ∈ l, Ev (fun k => fw.f k q.f0 q.f1 q.f2 q.f3 q.f4 q.f5.f0 q.f5.f1 q.f6) (T q)) (d : Nat) : ∀ i : Nat, i + d = l.length →
  Ev (fun k => eO.l0 k ((l.take i).map T ++ List.replicate d (⟨#[]⟩ : ByteArray)) l (l.length : Int) (i : Int)) (l.map T) := by
 induction d with
 | zero =>
  intro i hi
  have hi : i = l.length := by omega
  subst hi
  refine Ev.step (f := fun _ => some (l.map T)) (fun k => ?_) (Ev.now _)
  rw [eO.l0, if_neg (by omega), List.take_length]
  simp
 | succ d ih =>
  intro i hi
  obtain ⟨q, hq⟩ : ∃ q, l[i]? = some q := ⟨_, List.getElem?_eq_getElem (show i < l.length by omega)⟩
  have hlen : ((l.take i).map T ++ List.replicate (d + 1) (⟨#[]⟩ : ByteArray)).length = l.length := by simp; omega
  refine Ev.step (f := fun k => (fw.f k q.f0 q.f1 q.f2 q.f3 q.f4 q.f5.f0 q.f5.f1 q.f6).bind fun aX => (if (i : Int) < (((l.take i).map T ++ List.replicate (d + 1) (⟨#[]⟩ : ByteArray)).length : Int) then (eO.l0 k (((l.take i).map T ++ List.replicate (d + 1) (⟨#[]⟩ : ByteArray)).set (i : Int).toNat aX) l (l.length : Int) (wrap64 ((i : Int) + 1))) else (none))) (fun k => ?_) ?_
  ·rw [eO.l0, if_pos (by omega), if_pos (by omega), if_pos (by omega), rdQ l i q hq]
  ·refine Ev.bind (hT q (List.mem_of_getElem? hq)) (Ev.pos (by rw [hlen]; omega) ?_)
   rw [Int.toNat_natCast, ut l T _ i d q hq, w64 (by omega) (by omega)]
   exact ih (i + 1) (by omega)
theorem rP (l : List Qy) (hl : l.length ≤ 1000) (hg : ∀ q ∈ l, kI q) : Ev (fun k => fF.f k l) (mi (l.map QL)) := by
 have h1 : ∀ q ∈ l, Ev (fun k => fw.f k q.f0 q.f1 q.f2 q.f3 q.f4 q.f5.f0 q.f5.f1 q.f6) (QL q) := fun q hq => by
  have := uq (hg q hq)
  unfold fw.f
  exact Ev.bind (yP (hg q hq)) (Ev.pos (by omega) (Ev.now _))
 have h2 : Ev (fun k => eO.f k l qH) (l.map QL) := by
  have h := rO l hl QL h1 l.length 0 (by omega)
  refine Ev.congr (fun k => ?_) h
  unfold eO.f
  rw [if_pos (by omega), if_pos (by rw [Int.toNat_natCast]; omega), Int.toNat_natCast]
  rfl
 have hs : ∀ ls : List Qy, (∀ q ∈ ls, kI q) → ((ls.map QL).map (·.size)).sum ≤ ls.length * 4001 := by
  intro ls
  induction ls with
  | nil => intro _; simp
  | cons q r ih =>
   intro hg
   have h3 := ih (fun q hq => hg q (List.mem_cons_of_mem _ hq))
   have h4 := vP (hg q List.mem_cons_self)
   simp at h3 ⊢
   omega
 unfold fF.f
 refine Ev.bind h2 (Ev.now' fun k => ?_)
 have := hs l hg
 rw [ou _ _ (by simp; omega) (by show _ + _ * 0 ≤ _; omega), Option.bind_some, uo]
theorem mo (l : List Qy) (hl : l.length ≤ 1000) (hg : ∀ q ∈ l, kI q) (d : Nat) : ∀ (i : Nat) (acc : ByteArray), i + d = l.length → acc.size + d * 5000 ≤ 1000000000 →
  Ev (fun k => bq.l0 k l acc (i : Int)) (acc ++ mi ((l.drop i).map QL)) := by
 induction d with
 | zero =>
  intro i acc hi hs
  refine Ev.step (f := fun _ => some acc) (fun k => ?_) ?_
  ·rw [bq.l0, if_neg (by omega)]
  ·rw [List.drop_eq_nil_of_le (by omega)]
   exact Ev.now' fun k => congrArg some (iH (by simp [mi]))
 | succ d ih =>
  intro i acc hi hs
  have hlt : i < l.length := by omega
  obtain ⟨q, hq⟩ : ∃ q, l[i]? = some q := ⟨_, List.getElem?_eq_getElem hlt⟩
  have hgq := hg q (List.mem_of_getElem? hq)
  have hz := uq hgq
  have hz2 := vP hgq
  have hzl : (QQ q ++ (⟨#[10]⟩ : ByteArray)).size ≤ 4001 := hz2
  have hd : l.drop i = q :: l.drop (i + 1) := by
   obtain ⟨h, rfl⟩ := List.getElem?_eq_some_iff.1 hq
   exact List.drop_eq_getElem_cons h
  have hcat : acc ++ mi ((l.drop i).map QL) = (acc ++ (QQ q ++ (⟨#[10]⟩ : ByteArray))) ++ mi ((l.drop (i + 1)).map QL) := by
   rw [hd]; exact iH (by simp [mi, QL])
  rw [hcat]
  refine Ev.step (f := fun k => (aG.f k q.f0 q.f1 q.f2 q.f3 q.f4 q.f5.f0 q.f5.f1 q.f6).bind fun aQ => (if aQ.size + 1 ≤ 9223372036854775807 then (if acc.size + (aQ ++ (⟨#[10]⟩ : ByteArray)).size ≤ 9223372036854775807 then (bq.l0 k l (acc ++ (aQ ++ (⟨#[10]⟩ : ByteArray))) (wrap64 ((i : Int) + 1))) else (none)) else (none))) (fun k => ?_) ?_
  ·rw [bq.l0, if_pos (by omega), if_pos (by omega), rdQ l i q hq]
  ·refine Ev.bind (vQ hgq) (Ev.pos (by omega) (Ev.pos (by omega) ?_))
   rw [w64 (by omega) (by omega)]
   exact ih (i + 1) _ (by omega) (by rw [gu]; omega)
theorem qp (l : List Qy) (hl : l.length ≤ 1000) (hg : ∀ q ∈ l, kI q) : Ev (fun k => bq.f k l) (mi (l.map QL)) := by
 have h := mo l hl hg l.length 0 (⟨#[]⟩ : ByteArray) (by omega) (by show 0 + _ ≤ _; omega)
 have e : (⟨#[]⟩ : ByteArray) ++ mi ((l.drop 0).map QL) = mi (l.map QL) := iH (by simp [mi])
 rw [e] at h
 exact h
theorem yQ : fC.f 60 (([(⟨(⟨#[97]⟩ : ByteArray), (([(⟨(⟨#[114]⟩ : ByteArray), ([] : List (S40))⟩ : S77)] : List (S77))), ([] : List (jo)), ([] : List (jq))⟩ : S82)] : List (S82))) = some ⟨#[110, 101, 116, 119, 111, 114, 107, 32, 97, 32, 123, 10, 32, 32, 110, 111, 100, 101, 32, 114, 59, 10, 125, 10]⟩ := by kernel_rfl
theorem vD : Ev (fun k => eu.f k) true := by
 unfold eu.f
 refine Ev.bind (Ev.of (fC.mono _) yQ) (Ev.now' fun k => ?_)
 congr 1
 exact beq_iff_eq.2 (by decide +kernel)
def jb (s : ByteArray) : ByteArray := s.extract 0 (mn (s.size : Int) 20).toNat
theorem nu (s : ByteArray) : bA.f s = some (jb s) := by
 unfold bA.f mn
 have h : (if (20 : Int) < (s.size : Int) then (20 : Int) else (s.size : Int)) ≤ (s.size : Int) ∧ 0 ≤ (if (20 : Int) < (s.size : Int) then (20 : Int) else (s.size : Int)) := by split <;> omega
 rw [if_pos h.2, if_pos h.1]
 rfl
theorem ny (s : ByteArray) : (jb s).size ≤ 20 := by
 unfold jb mn
 rw [ByteArray.size_extract]
 split <;> omega
def eP (q : Qy) : Qy := ⟨q.f0, jb q.f1, jb q.f2, jb q.f3, q.f4, ⟨q.f5.f0, q.f5.f1⟩, if q.f6 < -1000000 then 3 else if q.f6 > 2147483648 then 3 else q.f6⟩
theorem uu (q : Qy) : aW.f q.f0 q.f1 q.f2 q.f3 q.f4 q.f5.f0 q.f5.f1 q.f6 = some (q.f0, jb q.f1, jb q.f2, jb q.f3, q.f4, q.f5.f0, q.f5.f1, (eP q).f6) := by
 unfold aW.f eP
 rw [nu, Option.bind_some, nu, Option.bind_some, nu, Option.bind_some]
 simp only
 by_cases h : q.f6 < -1000000
 ·rw [if_pos h, if_pos h]
 ·rw [if_neg h, if_neg h]
  by_cases h2 : q.f6 > 2147483648
  ·rw [if_pos h2, if_pos h2]
  ·rw [if_neg h2, if_neg h2]
def vE (q : Qy) : Prop := (0 ≤ q.f4 ∧ q.f4 < 4294967296) ∧ (0 ≤ q.f5.f0 ∧ q.f5.f0 < 4294967296)
theorem kX {q : Qy} (h : vE q) : kI (eP q) := by
 have h1 := ny q.f1
 have h2 := ny q.f2
 have h3 := ny q.f3
 refine ⟨Nat.le_trans h1 (by decide), Nat.le_trans h2 (by decide), Nat.le_trans h3 (by decide), h.1, h.2, ?_⟩
 unfold eP
 simp only
 repeat' split
 all_goals omega
theorem qO (x : List Qy) (hx : x.length ≤ 8) (hg : ∀ q ∈ x, kI q) : Ev (fun k => (fF.f k x).bind fun bf => ((bq.f k x).bind fun t105 => (if bf.toList = t105.toList then ((eu.f k).bind fun aX => (some aX)) else (some false)))) true :=
 Ev.bind (rP x (by omega) hg) (Ev.bind (qp x (by omega) hg) (Ev.pos rfl (Ev.bind vD (Ev.now _))))
theorem uw (l : List Qy) (hr : ∀ q ∈ l, vE q) (d : Nat) : ∀ i : Nat, i + d = 8 → i ≤ l.length → Ev (fun k => ay.l0 k l ((l.take i).map eP) (i : Int)) true := by
 induction d with
 | zero =>
  intro i hi hle
  have hend := qO ((l.take i).map eP) (by simp; omega) (fun q hq => by
   obtain ⟨q', hq', rfl⟩ := List.mem_map.1 hq
   exact kX (hr q' (List.mem_of_mem_take hq')))
  have j : Ev (fun k => ay.j1 k l ((l.take i).map eP) (i : Int) false) true := Ev.step (fun k => by rw [ay.j1, if_neg (by decide)]) hend
  by_cases h : (i : Int) < (l.length : Int)
  ·exact Ev.step (fun k => by rw [ay.l0, if_pos h, show decide ((i : Int) < 8) = false from decide_eq_false (by omega)]) j
  ·exact Ev.step (fun k => by rw [ay.l0, if_neg h]) j
 | succ d ih =>
  intro i hi hle
  by_cases h : (i : Int) < (l.length : Int)
  ·have hlt : i < l.length := by omega
   obtain ⟨q, hq⟩ : ∃ q, l[i]? = some q := ⟨_, List.getElem?_eq_getElem hlt⟩
   have hgq := kX (hr q (List.mem_of_getElem? hq))
   have hl3 : ((l.take i).map eP).length = i := by simp; omega
   have hy : (l.take i).map eP ++ [eP q] = (l.take (i + 1)).map eP := by rw [List.take_add_one, hq]; simp
   have hyl : ((l.take (i + 1)).map eP).length = i + 1 := by simp; omega
   have hrd : ak ((l.take (i + 1)).map eP) (i : Int) = eP q := rdQ _ i _ (by rw [← hy, List.getElem?_append_right (by omega), hl3, Nat.sub_self]; rfl)
   refine Ev.step (f := fun k => ay.j1 k l ((l.take i).map eP) (i : Int) true) (fun k => by rw [ay.l0, if_pos h, show decide ((i : Int) < 8) = true from decide_eq_true (by omega)]) ?_
   refine Ev.step (f := fun k => (bM.f k (eP q).f0 (eP q).f1 (eP q).f2 (eP q).f3 (eP q).f4 (eP q).f5.f0 (eP q).f5.f1 (eP q).f6).bind fun gJ => ((aG.f k (eP q).f0 (eP q).f1 (eP q).f2 (eP q).f3 (eP q).f4 (eP q).f5.f0 (eP q).f5.f1 (eP q).f6).bind fun jQ => (if gJ.toList = jQ.toList then (ay.l0 k l ((l.take (i + 1)).map eP) (wrap64 ((i : Int) + 1))) else (some false)))) (fun k => ?_) ?_
   ·rw [ay.j1, if_pos rfl, if_pos (by omega), if_pos h, rdQ l i q hq, uu, Option.bind_some, if_pos (by rw [hl3]; omega), Option.bind_some]
    have e : (⟨q.f0, jb q.f1, jb q.f2, jb q.f3, q.f4, ⟨q.f5.f0, q.f5.f1⟩, (eP q).f6⟩ : Qy) = eP q := rfl
    simp only [e, hy, hrd]
    rw [if_pos (by rw [hyl]; omega)]
   ·refine Ev.bind (yP hgq) (Ev.bind (vQ hgq) (Ev.pos rfl ?_))
    rw [w64 (by omega) (by omega)]
    exact ih (i + 1) (by omega) (by omega)
  ·have hend := qO ((l.take i).map eP) (by simp; omega) (fun q hq => by
    obtain ⟨q', hq', rfl⟩ := List.mem_map.1 hq
    exact kX (hr q' (List.mem_of_mem_take hq')))
   have j : Ev (fun k => ay.j1 k l ((l.take i).map eP) (i : Int) false) true := Ev.step (fun k => by rw [ay.j1, if_neg (by decide)]) hend
   exact Ev.step (fun k => by rw [ay.l0, if_neg h]) j
theorem wM (l : List Qy) (hr : ∀ q ∈ l, vE q) : Ev (fun k => ay.f k l) true := uw l hr 8 0 rfl (Nat.zero_le _)
end Go.Proofs.YthfphdbebnkdpaaDoor.Pc
end
section
namespace Go.Proofs.YthfphdbebnkdpaaDoor.canonQueries
open Go.ChangeShapes Go.WideShapes Go.ChangeAt Go.RowKit
open Go.Proofs.YthfphdbebnkdpaaDoor.P Go.Proofs.YthfphdbebnkdpaaDoorW.aH Go.Proofs.YthfphdbebnkdpaaDoor.Open
set_option linter.unusedVariables false
theorem own : ownKnob Tryd.prog.godebug = none := by kernel_rfl
theorem laidOut : laidOutB Tryd.prog = true := by kernel_rfl
theorem seven {α : Type} {l : List α} (h : l.length = 7) : ∃ a b c d e f g, l = [a, b, c, d, e, f, g] := by
  match l, h with
  | [a, b, c, d, e, f, g], _ => exact ⟨a, b, c, d, e, f, g, rfl⟩
theorem eight {α : Type} {l : List α} (h : l.length = 8) : ∃ a b c d e f g i, l = [a, b, c, d, e, f, g, i] := by
  match l, h with
  | [a, b, c, d, e, f, g, i], _ => exact ⟨a, b, c, d, e, f, g, i, rfl⟩
set_option maxRecDepth 100000 in
theorem oL : mR k40 40 (fun p => (0 ≤ p.f0 ∧ p.f0 < 4294967296) ∧ (-9223372036854775808 ≤ p.f1 ∧ p.f1 < 9223372036854775808)) := by
  intro H enc W fuel cs y h
  obtain ⟨xs, n, _, _, hl, hn, hf⟩ := DataW.trod_struct Tryd.underlying40 h
  have c0 : Tryd.prog.cellsOf 40 = 2 := by kernel_rfl
  have c1 : Tryd.prog.cellsOf 38 = 1 := by kernel_rfl
  have c2 : Tryd.prog.cellsOf 3 = 1 := by kernel_rfl
  rw [c0] at hl
  match cs, hl, xs, hn with
  | [a, b], _, [x, z], _ =>
    have f0 := hf 0 _ rfl
    have f1 := hf 1 _ rfl
    simp [c1, c2] at f0 f1
    obtain ⟨n0, e0, w0⟩ := jL Tryd.underlying38 f0
    obtain ⟨n1, e1, w1⟩ := jL Tryd.underlying3 f1
    obtain rfl : a = _ := by simpa [Kd.int, Kd.scalar] using e0
    obtain rfl : b = _ := by simpa [Kd.int, Kd.scalar] using e1
    exact ⟨⟨n0, n1⟩, sO W ⟨n0, n1⟩, wf_u32 w0, wf_i64 w1⟩
set_option maxRecDepth 100000 in
theorem pJ : mR k42 42 Pc.vE := by
  intro H enc W fuel cs y h
  obtain ⟨xs, n, _, _, hl, hn, hf⟩ := DataW.trod_struct Tryd.underlying42 h
  have c0 : Tryd.prog.cellsOf 42 = 8 := by kernel_rfl
  have c1 : Tryd.prog.cellsOf 38 = 1 := by kernel_rfl
  have c2 : Tryd.prog.cellsOf 3 = 1 := by kernel_rfl
  have c3 : Tryd.prog.cellsOf 9 = 1 := by kernel_rfl
  have c4 : Tryd.prog.cellsOf 40 = 2 := by kernel_rfl
  rw [c0] at hl
  obtain ⟨v0, v1, v2, v3, v4, v5, v6, v7, rfl⟩ := eight hl
  obtain ⟨x0, x1, x2, x3, x4, x5, x6, rfl⟩ := seven hn
  have f0 := hf 0 _ rfl
  have f1 := hf 1 _ rfl
  have f2 := hf 2 _ rfl
  have f3 := hf 3 _ rfl
  have f4 := hf 4 _ rfl
  have f5 := hf 5 _ rfl
  have f6 := hf 6 _ rfl
  simp [c1, c2, c3, c4] at f0 f1 f2 f3 f4 f5 f6
  obtain ⟨n0, e0, w0⟩ := jL Tryd.underlying3 f0
  obtain ⟨s1, e1, w1⟩ := jS Tryd.underlying9 f1
  obtain ⟨s2, e2, w2⟩ := jS Tryd.underlying9 f2
  obtain ⟨s3, e3, w3⟩ := jS Tryd.underlying9 f3
  obtain ⟨n4, e4, w4⟩ := jL Tryd.underlying38 f4
  obtain ⟨p5, e5, w5⟩ := oL f5
  obtain ⟨n6, e6, w6⟩ := jL Tryd.underlying3 f6
  have e5 := lu e5
  obtain rfl : v0 = _ := by simpa [Kd.int, Kd.scalar] using e0
  obtain rfl : v1 = _ := by simpa [Kd.string, Kd.scalar] using e1
  obtain rfl : v2 = _ := by simpa [Kd.string, Kd.scalar] using e2
  obtain rfl : v3 = _ := by simpa [Kd.string, Kd.scalar] using e3
  obtain rfl : v4 = _ := by simpa [Kd.int, Kd.scalar] using e4
  obtain rfl : v7 = _ := by simpa [Kd.int, Kd.scalar] using e6
  injection e5 with e5 e7
  injection e7 with e7
  subst e5 e7
  exact ⟨⟨n0, s1, s2, s3, n4, p5, n6⟩, vX W ⟨n0, s1, s2, s3, n4, p5, n6⟩, wf_u32 w4, w5.1⟩
set_option maxRecDepth 100000 in
theorem lifted (os : Os) (started : os.Started) (H : Type) (enc : TypeId × Value → H) :
    ReturnsInHanded {} Tryd.checked os 4 .any (fun w args => (Rows.canonQueriesSpec.pre enc Tryd.prog Tryd.f4 [] false w args ∧ laidMetH Tryd.prog mO.l5 w) ∧ sizedMet enc Tryd.prog Tryd.f4 (OpenSpec.ofChange Rows.canonQueriesSpec) false w args)
      (Rows.canonQueriesSpec.post enc Tryd.prog Tryd.f4 false true false false) := by
  refine returnsInHanded_of_change_and (C := Tryd.checked) (X := fun w _ => laidMetH Tryd.prog mO.l5 w) (fun _ _ _ hh h => h.of_heap hh) own started (by kernel_rfl) Tryd.func4
    (ChangeSpec.witness_shaped (enc := enc) (C := Tryd.checked) (os := os) (X := fun w _ => laidMetH Tryd.prog mO.l5 w) false (mO.world os) #[.slice none 0 0] 8 rfl (World.shaped_of_RefB (by kernel_rfl) (by kernel_rfl)) (by kernel_rfl) (by kernel_rfl) (by kernel_rfl) (mO.yU os _)) ?_
  intro W base args ds gs before hval0 hW _ _ hL _
  have hval : ∀ (j : Nat) t v, Tryd.f4.params[j]? = some t → args[j]? = some v → Value.okWide Tryd.prog W .any base t v := hval0
  have hW' := hW
  obtain ⟨p, q, hA0, hV, rfl, hfz, hnd⟩ := hW
  have hA : DataW.TrodAll enc Tryd.prog W 0 (fun _ => true) true Tryd.f4.params.toList args.toList ds p := hA0
  rw [Tryd.params4] at hA hval
  obtain ⟨v0, vs0, d0, ds0, p0, q0, hargs, rfl, rfl, h0, r0⟩ := trodAll_cons hA
  obtain ⟨rfl, rfl, rfl⟩ := trodAll_nil r0
  obtain rfl : args = #[v0] := by cases args; simp_all
  obtain ⟨rfl, rfl⟩ := trodVars_none hV
  have lt0 : ∀ x ∈ p0, x.block < W.heap.size := by obtain ⟨m, hm⟩ := h0; exact DataW.trod_lt m _ _ _ hm
  obtain ⟨A0, c0, l0, e0, C0, R0, Q0⟩ := rA Tryd.underlying37 (o7 Tryd.underlying37 (by kernel_rfl) pJ) (hval 0 37 v0 rfl rfl) h0
  clear hA0 hval0
  obtain ⟨k, hk⟩ := (Pc.wM l0 Q0).rounds
  have HGT := mO.gt5 hL
  subst e0
  refine (ay.calls k A0 c0 l0 true W R0 C0 hk HGT).mono fun e W' ⟨he, bel⟩ => ?_
  subst he
  exact ⟨_, rfl, _, _, _, [], _, [], hW', trodAll_mk1 (shut_bool Tryd.underlying4 _), trodAll_cons_mk (Below.trod laidOut (by kernel_rfl) (of_decide_eq_true (by kernel_rfl)) h0 bel lt0) trodAll_mk0, rfl, bel.frame _, fun h => by cases h⟩
theorem over : Rows.canonQueriesRow.holds Tryd.pinned (OpenSpec.ofChange Rows.canonQueriesSpec) :=
  OpenClaim.holds_of_wide 4 Tryd.f4 rfl rfl rfl rfl rfl rfl rfl ⟨rfl, rfl, rfl, rfl, rfl⟩ rfl rfl rfl rfl rfl (by kernel_rfl) Tryd.func4 (by kernel_rfl)
    (of_decide_eq_true (by kernel_rfl)) (by unfold Func.isWrapper; first | (rw [if_pos (by decide +kernel)]; kernel_rfl) | (rw [if_neg (by decide +kernel)]; exact ⟨rfl, rfl⟩))
    (fun os started H enc _ => lifted os started H enc)
end Go.Proofs.YthfphdbebnkdpaaDoor.canonQueries
end
section
namespace Go.Proofs.YthfphdbebnkdpaaDoor
open Go
theorem canonQueries_card : Rows.CanonQueriesCardSaid :=
  Claim7.holds_tied_plain_at .later [] [.data, .data, .data, .data, .pinned] true Rows.canonQueriesCard.stood.harness false
    canonQueries.over (fun _ h => by cases h) (by kernel_rfl) (fun _ h => by cases h) canonQueries_row_tie rfl ⟨rfl, rfl⟩ (by kernel_rfl) rfl
    (fun f fn hf hfn => by
      obtain rfl : f = 4 := (Option.some.inj ((show Tryd.prog.funcNamed "trivium/triviumlaw22.CanonQueries" = some 4 by kernel_rfl).symm.trans hf)).symm
      obtain rfl : fn = Tryd.f4 := (Option.some.inj (Tryd.func4.symm.trans hfn)).symm
      exact ⟨by kernel_rfl, fun j t ht => by
        rw [Tryd.params4] at ht
        have h3 : t = 37 := by
          rcases j with _ | j
          · simpa using ht.symm
          · simp at ht
        subst h3
        exact (show Tryd.prog.wantsStandIn 37 = false by kernel_rfl)⟩)
    (by kernel_rfl)
end Go.Proofs.YthfphdbebnkdpaaDoor
end
