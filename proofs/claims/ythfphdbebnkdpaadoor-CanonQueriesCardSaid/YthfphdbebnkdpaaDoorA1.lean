/- Part 1 of a proof that was merged by a program. -/
import Derived.Below
import Derived.Deep.Draws
import Derived.Deep.AppendLies
import Derived.Maps.AppendAt
import Derived.OwnWalk
import Derived.Laws.BytesArg
import Derived.Laws.MakeOwn
import Derived.Laws.OwnMore
import Derived.Deep.OwnRows
import Derived.Tactics
import Derived.Lib.ConvBytes
import Derived.Laws.Slices
import Derived.WalkKit
import Derived.KernelRfl
import Derived.RowKit3
import Derived.Deep.LoopGhost
import Derived.Deep.QuietTactic
import Derived.BigQuiet
import Derived.WideLaws
import Derived.Deep.DeepCutAuto
import Derived.Deep.CutBlock
import Derived.Deep.RegionHeld3
import Derived.Laws.Rows
import Derived.Lib.AppendStr
import Derived.ArgAppend
import Derived.Laws.IdiomCopy
import Derived.RowKit
import Derived.OrdersHeld
import Derived.Laws.BitsLemmas
import Derived.Laws.CopyOwn
import Derived.Lib.Builder
import Derived.Lib.LaidTab
import Derived.Lib.OthersKept
import Derived.Lib.FrozenHead
import Derived.Lib.ItoaNum
import Derived.Test.YthfphdbebnkdpaaDoorProg
import Derived.Test.YthfphdbebnkdpaaDoorRows
import Derived.PinnedBridge
import Derived.LaidHandle
import Derived.LaidLaws
import Derived.MakeChecks
import Derived.Stop.LaidErr
import Derived.ProofKit
import Derived.Laws.StructEq
import Derived.OpenShut
import Derived.ChangeArms
import Derived.DataReads
import Derived.DataElems
import Derived.Shelf.Strings.Builder1
import Derived.Shelf.Strings.Builder2
import Derived.Shelf.Strings.OnBuilder
import Derived.Shelf.Strings.Trim
import Derived.Shelf.Small.Utf8
import Derived.Shelf.Small.Strs
import Derived.Shelf.Strings.BuilderF
import Derived.Shelf.Strings.BuilderK
import Derived.Shelf.Strings.Builder2Cap
import Derived.Shelf.Strconv.Itoa0
import Derived.Shelf.Strconv.Itoa1
import Derived.Shelf.LaysM
import Derived.Shelf.Strconv.Itoa2
import Derived.Shelf.Strconv.Itoa3
import Derived.Shelf.Strings.Search1
import Derived.Shelf.Strings.Search2
import Derived.Shelf.Strings.Cut
import Derived.Shelf.Strings.Shaped
import Derived.Shelf.Unicode.Decode
import Derived.Shelf.Strings.Runes
import Derived.Shelf.Strings.AsciiSet
import Derived.Shelf.Unicode.DecodeSlow
import Derived.Shelf.Unicode.DecodeAny
import Derived.Shelf.Strings.BuilderCap
import Derived.Lib.ItoaLen
import Derived.Lib.ItoaMem
import Derived.Laws.BitsAllLaws
import Derived.Lib.Hide
import Derived.ShutString
import Derived.ChangeOld
import Derived.Carry
import Derived.SizedLaws
import Derived.Test.YthfphdbebnkdpaaDoorCards
import Derived.Test.YthfphdbebnkdpaaDoorTie
import Derived.SevenTiedAt
import Derived.Test.YthfphdbebnkdpaaDoorA0
section
namespace Go.Proofs.YthfphdbebnkdpaaDoor.P
open Go.RowKit Go.Proofs.YthfphdbebnkdpaaDoorW.aH Go.Proofs.YthfphdbebnkdpaaDoorW.aV Go.Proofs.YthfphdbebnkdpaaDoorW.bn
attribute [local go_sem] bR bS dn dw bB bC bU bV
set_option linter.unusedVariables false
set_option linter.unusedSimpArgs false
def bM.f (k : Nat) (aJ : Int) (aD : ByteArray) (bL : ByteArray) (aR : ByteArray) (dH : Int) (dS : Int) (dX : Int) (dU : Int) : Option (ByteArray) := (bv.f k dH).bind fun aQ => (if aJ = 1 then ((aM.f (([(⟨#[112, 114, 111, 98]⟩ : ByteArray), aD, aR, aQ] : List ByteArray))).bind fun aX => (if aX.size + 1 ≤ 9223372036854775807 then (some (aX ++ (⟨#[59]⟩ : ByteArray))) else (none))) else (if aJ = 2 then ((aM.f (([(⟨#[104, 111, 112, 115]⟩ : ByteArray), aD, aR, aQ] : List ByteArray))).bind fun fq => (if fq.size + 1 ≤ 9223372036854775807 then (some (fq ++ (⟨#[59]⟩ : ByteArray))) else (none))) else (if aJ = 3 then ((strconv_Itoa.f dU).bind fun gI => ((aM.f (([(⟨#[119, 105, 116, 104, 105, 110]⟩ : ByteArray), aD, aR, aQ, gI] : List ByteArray))).bind fun iw => (if iw.size + 1 ≤ 9223372036854775807 then (some (iw ++ (⟨#[59]⟩ : ByteArray))) else (none)))) else (if aJ = 4 then ((dA.f k dS dX).bind fun t116 => ((aM.f (([(⟨#[99, 111, 109, 112, 97, 114, 101]⟩ : ByteArray), aD, bL, aR, t116] : List ByteArray))).bind fun gJ => (if gJ.size + 1 ≤ 9223372036854775807 then (some (gJ ++ (⟨#[59]⟩ : ByteArray))) else (none)))) else (some (⟨#[]⟩ : ByteArray))))))
def bM.T8 : Bool × List (List Nat × List Nat) := (true, [([], []), ([0], [0]), ([], []), ([2], [2]), ([], []), ([], []), ([5], [5]), ([6], [6]), ([1, 3, 4, 7], [1, 3, 4, 7]), ([8, 7], [8]), ([9], [9]), ([10, 9, 0, 1, 2, 3, 4, 5, 6, 7, 8, 9, 10], [10])])
def bM.B8 : List Nat := [0, 1, 0, 4, 0, 0, 32, 96, 255, 511, 1023, 2047]
theorem bM.wD : gK .any (opsOf Tryd.f17 8) = bM.T8 := by kernel_rfl
theorem bM.tH : fM bM.T8.2 bM.B8 = true := by kernel_rfl
def bM.T10 : Bool × List (List Nat × List Nat) := (true, [([], []), ([0], [0]), ([], []), ([2], [2]), ([], []), ([4], [4]), ([], []), ([6], [6]), ([7], [7]), ([1, 3, 5, 8], [1, 3, 5, 8]), ([9, 8], [9]), ([10], [10]), ([11, 10, 0, 1, 2, 3, 4, 5, 6, 7, 8, 9, 10, 11], [11])])
def bM.B10 : List Nat := [0, 1, 0, 4, 0, 16, 0, 64, 192, 511, 1023, 2047, 4095]
theorem bM.xk : gK .any (opsOf Tryd.f17 10) = bM.T10 := by kernel_rfl
theorem bM.wE : fM bM.T10.2 bM.B10 = true := by kernel_rfl
set_option maxHeartbeats 8000000 in
set_option maxRecDepth 100000 in
theorem bM.calls (k : Nat) (aJ : Int) (aD : ByteArray) (bL : ByteArray) (aR : ByteArray) (dH : Int) (dS : Int) (dX : Int) (dU : Int) (r : ByteArray) (w : World) (h : bM.f k aJ aD bL aR dH dS dX dU = some r) (HGT : af (Go.Proofs.YthfphdbebnkdpaaDoorV.GT w)) :
  Calls Tryd.prog 17 #[.agg #[.int .i64 aJ, .string aD, .string bL, .string aR, .int .u32 dH, .int .u32 dS, .int .i64 dX, .int .i64 dU]] w fun e w' => e = .returned (.string r) ∧ Below w.heap.size w w' := by
 have hu42 := Tryd.underlying42
 have hu40 := Tryd.underlying40
 have HB := af.mk (Below.refl w.heap.size w)
 have H : ((bv.f k dH).bind fun aQ => (if aJ = 1 then ((aM.f (([(⟨#[112, 114, 111, 98]⟩ : ByteArray), aD, aR, aQ] : List ByteArray))).bind fun aX => (if aX.size + 1 ≤ 9223372036854775807 then (some (aX ++ (⟨#[59]⟩ : ByteArray))) else (none))) else (if aJ = 2 then ((aM.f (([(⟨#[104, 111, 112, 115]⟩ : ByteArray), aD, aR, aQ] : List ByteArray))).bind fun fq => (if fq.size + 1 ≤ 9223372036854775807 then (some (fq ++ (⟨#[59]⟩ : ByteArray))) else (none))) else (if aJ = 3 then ((strconv_Itoa.f dU).bind fun gI => ((aM.f (([(⟨#[119, 105, 116, 104, 105, 110]⟩ : ByteArray), aD, aR, aQ, gI] : List ByteArray))).bind fun iw => (if iw.size + 1 ≤ 9223372036854775807 then (some (iw ++ (⟨#[59]⟩ : ByteArray))) else (none)))) else (if aJ = 4 then ((dA.f k dS dX).bind fun t116 => ((aM.f (([(⟨#[99, 111, 109, 112, 97, 114, 101]⟩ : ByteArray), aD, bL, aR, t116] : List ByteArray))).bind fun gJ => (if gJ.size + 1 ≤ 9223372036854775807 then (some (gJ ++ (⟨#[59]⟩ : ByteArray))) else (none)))) else (some (⟨#[]⟩ : ByteArray))))))) = some r := h
 clear h
 replace H := Option.bind_eq_some_iff.mp H
 obtain ⟨aQ, A20, H⟩ := H
 replace H : (if aJ = 1 then ((aM.f (([(⟨#[112, 114, 111, 98]⟩ : ByteArray), aD, aR, aQ] : List ByteArray))).bind fun aX => (if aX.size + 1 ≤ 9223372036854775807 then (some (aX ++ (⟨#[59]⟩ : ByteArray))) else (none))) else (if aJ = 2 then ((aM.f (([(⟨#[104, 111, 112, 115]⟩ : ByteArray), aD, aR, aQ] : List ByteArray))).bind fun fq => (if fq.size + 1 ≤ 9223372036854775807 then (some (fq ++ (⟨#[59]⟩ : ByteArray))) else (none))) else (if aJ = 3 then ((strconv_Itoa.f dU).bind fun gI => ((aM.f (([(⟨#[119, 105, 116, 104, 105, 110]⟩ : ByteArray), aD, aR, aQ, gI] : List ByteArray))).bind fun iw => (if iw.size + 1 ≤ 9223372036854775807 then (some (iw ++ (⟨#[59]⟩ : ByteArray))) else (none)))) else (if aJ = 4 then ((dA.f k dS dX).bind fun t116 => ((aM.f (([(⟨#[99, 111, 109, 112, 97, 114, 101]⟩ : ByteArray), aD, bL, aR, t116] : List ByteArray))).bind fun gJ => (if gJ.size + 1 ≤ 9223372036854775807 then (some (gJ ++ (⟨#[59]⟩ : ByteArray))) else (none)))) else (some (⟨#[]⟩ : ByteArray)))))) = some r := H
 have A2 := af.mk A20
 clear A20
 by_cases c3 : aJ = 1
 ·rw [if_pos c3] at H
  have gG : (aJ == 1) = true := beq_iff_eq.mpr c3
  have gY : (aJ != 1) = false := bne_eq_false_iff_eq.mpr c3
  clear c3
  obtain ⟨y103, hy103⟩ : ∃ y_ : List ByteArray, y_ = (([(⟨#[112, 114, 111, 98]⟩ : ByteArray), aD, aR, aQ] : List ByteArray)) := ⟨_, rfl⟩
  replace H : ((aM.f y103).bind fun aX => (if aX.size + 1 ≤ 9223372036854775807 then (some (aX ++ (⟨#[59]⟩ : ByteArray))) else (none))) = some r := by first | (rw [hy103]; with_reducible exact H) | (have H2_ := (Option.bind_some _ _).symm.trans H; rw [hy103]; with_reducible exact H2_) | (have H2_ := (Option.bind_some _ _).symm.trans H; with_reducible exact H2_) | with_reducible exact H | (rw [hy103]; exact H) | exact H
  have Ny103 := af.mk hy103
  clear hy103
  replace H := Option.bind_eq_some_iff.mp H
  obtain ⟨aX, A40, H⟩ := H
  replace H : (if aX.size + 1 ≤ 9223372036854775807 then (some (aX ++ (⟨#[59]⟩ : ByteArray))) else (none)) = some r := H
  have A4 := af.mk A40
  clear A40
  by_cases c5 : aX.size + 1 ≤ 9223372036854775807
  ·rw [if_pos c5] at H
   have iL := eq_true c5
   have kC : decide (aX.size + 1 ≤ 9223372036854775807) = true := decide_eq_true c5
   try have p9 : (9223372036854775807 < aX.size + 1) = False := eq_false (Nat.not_lt.2 c5)
   obtain rfl := Option.some.inj H
   go_enter Tryd.func17, Tryd.ntmps17
   go_wp2_with (first | ((with_reducible refine aU (N := 1) rfl ?_); refine bz ?hg (N := 1) ?hd (cs := #[.int .i64 aJ, .string aD, .string bL, .string aR, .int .u32 dH, .int .u32 dS, .int .i64 dX, .int .i64 dU]) (t := 42) ?hr ?_; (case hd => rfl); (case hg => rfl); (case hr => first | (go_simp; done) | (go_simp; rfl)); intro ax hg w6 hbox hb; have ag := af.mk (hbox); have GW101 := qge HB hg; have dE := qge HB hg; replace HB := af.mk (ai (qw HB) hb); clear hb hbox hg; have hcz7_0 : w6.cell? ⟨ax, 0, none⟩ = some (.int .i64 aJ) := (ae ag.out 0).trans rfl; have hcz7_1 : w6.cell? ⟨ax, 1, none⟩ = some (.string aD) := (ae ag.out 1).trans rfl; have hcz7_2 : w6.cell? ⟨ax, 2, none⟩ = some (.string bL) := (ae ag.out 2).trans rfl; have hcz7_3 : w6.cell? ⟨ax, 3, none⟩ = some (.string aR) := (ae ag.out 3).trans rfl; have hcz7_4 : w6.cell? ⟨ax, 4, none⟩ = some (.int .u32 dH) := (ae ag.out 4).trans rfl; have hcz7_5 : w6.cell? ⟨ax, 5, none⟩ = some (.int .u32 dS) := (ae ag.out 5).trans rfl; have hcz7_6 : w6.cell? ⟨ax, 6, none⟩ = some (.int .i64 dX) := (ae ag.out 6).trans rfl; have hcz7_7 : w6.cell? ⟨ax, 7, none⟩ = some (.int .i64 dU) := (ae ag.out 7).trans rfl; have hfz7_0 := ah ag.out 0; have hfz7_1 := ah ag.out 1; have hfz7_2 := ah ag.out 2; have hfz7_3 := ah ag.out 3; have hfz7_4 := ah ag.out 4; have hfz7_5 := ah ag.out 5; have hfz7_6 := ah ag.out 6; have hfz7_7 := ah ag.out 7) | ((with_reducible refine aN (f := 38) rfl ?_); refine cu (some 6) rfl rfl Tryd.func38 (by kernel_rfl) rfl #[.int .u32 dH] rfl qt ?_; (with_reducible refine (bv.calls k dH aQ _ A2.out ?gt).mono ?_); (case gt => exact Go.Proofs.YthfphdbebnkdpaaDoorV.GT.below HGT (qw HB)); rintro e w8 ⟨rfl, hb⟩; refine ⟨_, rfl, ?_⟩; replace ag := qbb ag hb; replace HB := af.mk (ai (qw HB) hb); (try clear hb); (try clear hb2); (try clear hk); (try clear hi); have hcz9_0 : w8.cell? ⟨ax, 0, none⟩ = some (.int .i64 aJ) := (ae ag.out 0).trans rfl; have hcz9_1 : w8.cell? ⟨ax, 1, none⟩ = some (.string aD) := (ae ag.out 1).trans rfl; have hcz9_2 : w8.cell? ⟨ax, 2, none⟩ = some (.string bL) := (ae ag.out 2).trans rfl; have hcz9_3 : w8.cell? ⟨ax, 3, none⟩ = some (.string aR) := (ae ag.out 3).trans rfl; have hcz9_4 : w8.cell? ⟨ax, 4, none⟩ = some (.int .u32 dH) := (ae ag.out 4).trans rfl; have hcz9_5 : w8.cell? ⟨ax, 5, none⟩ = some (.int .u32 dS) := (ae ag.out 5).trans rfl; have hcz9_6 : w8.cell? ⟨ax, 6, none⟩ = some (.int .i64 dX) := (ae ag.out 6).trans rfl; have hcz9_7 : w8.cell? ⟨ax, 7, none⟩ = some (.int .i64 dU) := (ae ag.out 7).trans rfl; have hfz9_0 := ah ag.out 0; have hfz9_1 := ah ag.out 1; have hfz9_2 := ah ag.out 2; have hfz9_3 := ah ag.out 3; have hfz9_4 := ah ag.out 4; have hfz9_5 := ah ag.out 5; have hfz9_6 := ah ag.out 6; have hfz9_7 := ah ag.out 7) | ((with_reducible refine aU (N := 16) rfl ?_); refine Kd.jw Kd.string _ 9 ?hg (N := 16) ?hd (xs := ([(⟨#[112, 114, 111, 98]⟩ : ByteArray), aD, aR, aQ] : List ByteArray)) (inner := [.string (⟨#[112, 114, 111, 98]⟩ : ByteArray), .string aD, .string aR, .string aQ]) (ok := fun _ => True) (okp := fun _ => True) ?hr ?hp (fun _ hk => hk) trivial (Below.refl _ _) (Nat.le_refl _) (by simp) ?_; (case hd => rfl); (case hg => rfl); (case hr => first | (go_simp; done) | (go_simp; rfl)); (case hp => exact (bZ.one (show Kd.M Kd.string _ _ _ (⟨#[112, 114, 111, 98]⟩ : ByteArray) [.string (⟨#[112, 114, 111, 98]⟩ : ByteArray)] from rfl) (bZ.one (show Kd.M Kd.string _ _ _ aD [.string aD] from rfl) (bZ.one (show Kd.M Kd.string _ _ _ aR [.string aR] from rfl) (bZ.one (show Kd.M Kd.string _ _ _ aQ [.string aQ] from rfl) (bZ.none _ _)))))); intro v104 w10 j5 hb hg_ hnew_; clear hg_ hnew_; (first | rw [← Ny103.out] at j5 | (simp only [Int.reduceToNat] at j5; rw [← Ny103.out] at j5)); have eQ := af.mk (Kd.dI j5 (bg (qw HB))); replace ag := qbb ag hb; replace HB := af.mk (ai (qw HB) hb); clear hb j5; obtain ⟨qg, jk, iy⟩ := Kd.dW eQ.out; subst iy) | ((with_reducible refine aN (f := 39) rfl ?_); refine cu (some 17) rfl rfl Tryd.func39 (by kernel_rfl) rfl #[.slice qg y103.length jk] rfl qt ?_; (with_reducible refine (aM.calls _ _ y103 aX _ ?bI ?bJ A4.out).mono ?_); (case bI => exact qs ((Kd.aZ eQ.out).2.2)); (case bJ => exact (Kd.aZ eQ.out).2.1); rintro e w13 ⟨rfl, hb⟩; refine ⟨_, rfl, ?_⟩; replace eQ := af.mk (Kd.bH (qr eQ) hb); replace ag := qbb ag hb; replace HB := af.mk (ai (qw HB) hb); (try clear hb); (try clear hb2); (try clear hk); (try clear hi)))
   go_ret
   exact ⟨by first | rfl | (simp [errW_none, errW_some] <;> rfl) | (simp [*, errW_none, errW_some] <;> rfl), by repeat (first | (with_reducible first | exact HB.out | apply aA | apply aj | apply av | refine bi ?_ dE.out) | exact HB.out)⟩
  ·rw [if_neg c5] at H
   exact absurd H (by simp)
 ·rw [if_neg c3] at H
  have gG : (aJ == 1) = false := beq_eq_false_iff_ne.mpr c3
  have gY : (aJ != 1) = true := bne_iff_ne.mpr c3
  by_cases c14 : aJ = 2
  ·rw [if_pos c14] at H
   have nP : (aJ == 2) = true := beq_iff_eq.mpr c14
   have mY : (aJ != 2) = false := bne_eq_false_iff_eq.mpr c14
   clear c14
   obtain ⟨y107, hy107⟩ : ∃ y_ : List ByteArray, y_ = (([(⟨#[104, 111, 112, 115]⟩ : ByteArray), aD, aR, aQ] : List ByteArray)) := ⟨_, rfl⟩
   replace H : ((aM.f y107).bind fun fq => (if fq.size + 1 ≤ 9223372036854775807 then (some (fq ++ (⟨#[59]⟩ : ByteArray))) else (none))) = some r := by first | (rw [hy107]; with_reducible exact H) | (have H2_ := (Option.bind_some _ _).symm.trans H; rw [hy107]; with_reducible exact H2_) | (have H2_ := (Option.bind_some _ _).symm.trans H; with_reducible exact H2_) | with_reducible exact H | (rw [hy107]; exact H) | exact H
   have Ny107 := af.mk hy107
   clear hy107
   replace H := Option.bind_eq_some_iff.mp H
   obtain ⟨fq, A150, H⟩ := H
   replace H : (if fq.size + 1 ≤ 9223372036854775807 then (some (fq ++ (⟨#[59]⟩ : ByteArray))) else (none)) = some r := H
   have A15 := af.mk A150
   clear A150
   by_cases c16 : fq.size + 1 ≤ 9223372036854775807
   ·rw [if_pos c16] at H
    have vH := eq_true c16
    have vI : decide (fq.size + 1 ≤ 9223372036854775807) = true := decide_eq_true c16
    try have xm : (9223372036854775807 < fq.size + 1) = False := eq_false (Nat.not_lt.2 c16)
    obtain rfl := Option.some.inj H
    go_enter Tryd.func17, Tryd.ntmps17
    go_wp2_with (first | ((with_reducible refine aU (N := 1) rfl ?_); refine bz ?hg (N := 1) ?hd (cs := #[.int .i64 aJ, .string aD, .string bL, .string aR, .int .u32 dH, .int .u32 dS, .int .i64 dX, .int .i64 dU]) (t := 42) ?hr ?_; (case hd => rfl); (case hg => rfl); (case hr => first | (go_simp; done) | (go_simp; rfl)); intro ax hg w17 hbox hb; have ag := af.mk (hbox); have GW101 := qge HB hg; have dE := qge HB hg; replace HB := af.mk (ai (qw HB) hb); clear hb hbox hg; have hcz18_0 : w17.cell? ⟨ax, 0, none⟩ = some (.int .i64 aJ) := (ae ag.out 0).trans rfl; have hcz18_1 : w17.cell? ⟨ax, 1, none⟩ = some (.string aD) := (ae ag.out 1).trans rfl; have hcz18_2 : w17.cell? ⟨ax, 2, none⟩ = some (.string bL) := (ae ag.out 2).trans rfl; have hcz18_3 : w17.cell? ⟨ax, 3, none⟩ = some (.string aR) := (ae ag.out 3).trans rfl; have hcz18_4 : w17.cell? ⟨ax, 4, none⟩ = some (.int .u32 dH) := (ae ag.out 4).trans rfl; have hcz18_5 : w17.cell? ⟨ax, 5, none⟩ = some (.int .u32 dS) := (ae ag.out 5).trans rfl; have hcz18_6 : w17.cell? ⟨ax, 6, none⟩ = some (.int .i64 dX) := (ae ag.out 6).trans rfl; have hcz18_7 : w17.cell? ⟨ax, 7, none⟩ = some (.int .i64 dU) := (ae ag.out 7).trans rfl; have hfz18_0 := ah ag.out 0; have hfz18_1 := ah ag.out 1; have hfz18_2 := ah ag.out 2; have hfz18_3 := ah ag.out 3; have hfz18_4 := ah ag.out 4; have hfz18_5 := ah ag.out 5; have hfz18_6 := ah ag.out 6; have hfz18_7 := ah ag.out 7) | ((with_reducible refine aN (f := 38) rfl ?_); refine cu (some 6) rfl rfl Tryd.func38 (by kernel_rfl) rfl #[.int .u32 dH] rfl qt ?_; (with_reducible refine (bv.calls k dH aQ _ A2.out ?gt).mono ?_); (case gt => exact Go.Proofs.YthfphdbebnkdpaaDoorV.GT.below HGT (qw HB)); rintro e w19 ⟨rfl, hb⟩; refine ⟨_, rfl, ?_⟩; replace ag := qbb ag hb; replace HB := af.mk (ai (qw HB) hb); (try clear hb); (try clear hb2); (try clear hk); (try clear hi); have hcz20_0 : w19.cell? ⟨ax, 0, none⟩ = some (.int .i64 aJ) := (ae ag.out 0).trans rfl; have hcz20_1 : w19.cell? ⟨ax, 1, none⟩ = some (.string aD) := (ae ag.out 1).trans rfl; have hcz20_2 : w19.cell? ⟨ax, 2, none⟩ = some (.string bL) := (ae ag.out 2).trans rfl; have hcz20_3 : w19.cell? ⟨ax, 3, none⟩ = some (.string aR) := (ae ag.out 3).trans rfl; have hcz20_4 : w19.cell? ⟨ax, 4, none⟩ = some (.int .u32 dH) := (ae ag.out 4).trans rfl; have hcz20_5 : w19.cell? ⟨ax, 5, none⟩ = some (.int .u32 dS) := (ae ag.out 5).trans rfl; have hcz20_6 : w19.cell? ⟨ax, 6, none⟩ = some (.int .i64 dX) := (ae ag.out 6).trans rfl; have hcz20_7 : w19.cell? ⟨ax, 7, none⟩ = some (.int .i64 dU) := (ae ag.out 7).trans rfl; have hfz20_0 := ah ag.out 0; have hfz20_1 := ah ag.out 1; have hfz20_2 := ah ag.out 2; have hfz20_3 := ah ag.out 3; have hfz20_4 := ah ag.out 4; have hfz20_5 := ah ag.out 5; have hfz20_6 := ah ag.out 6; have hfz20_7 := ah ag.out 7) | ((with_reducible refine aU (N := 26) rfl ?_); refine Kd.jw Kd.string _ 9 ?hg (N := 26) ?hd (xs := ([(⟨#[104, 111, 112, 115]⟩ : ByteArray), aD, aR, aQ] : List ByteArray)) (inner := [.string (⟨#[104, 111, 112, 115]⟩ : ByteArray), .string aD, .string aR, .string aQ]) (ok := fun _ => True) (okp := fun _ => True) ?hr ?hp (fun _ hk => hk) trivial (Below.refl _ _) (Nat.le_refl _) (by simp) ?_; (case hd => rfl); (case hg => rfl); (case hr => first | (go_simp; done) | (go_simp; rfl)); (case hp => exact (bZ.one (show Kd.M Kd.string _ _ _ (⟨#[104, 111, 112, 115]⟩ : ByteArray) [.string (⟨#[104, 111, 112, 115]⟩ : ByteArray)] from rfl) (bZ.one (show Kd.M Kd.string _ _ _ aD [.string aD] from rfl) (bZ.one (show Kd.M Kd.string _ _ _ aR [.string aR] from rfl) (bZ.one (show Kd.M Kd.string _ _ _ aQ [.string aQ] from rfl) (bZ.none _ _)))))); intro v108 w21 tJ hb hg_ hnew_; clear hg_ hnew_; (first | rw [← Ny107.out] at tJ | (simp only [Int.reduceToNat] at tJ; rw [← Ny107.out] at tJ)); have j6 := af.mk (Kd.dI tJ (bg (qw HB))); replace ag := qbb ag hb; replace HB := af.mk (ai (qw HB) hb); clear hb tJ; obtain ⟨zb, ze, zf⟩ := Kd.dW j6.out; subst zf) | ((with_reducible refine aN (f := 39) rfl ?_); refine cu (some 27) rfl rfl Tryd.func39 (by kernel_rfl) rfl #[.slice zb y107.length ze] rfl qt ?_; (with_reducible refine (aM.calls _ _ y107 fq _ ?bI ?bJ A15.out).mono ?_); (case bI => exact qs ((Kd.aZ j6.out).2.2)); (case bJ => exact (Kd.aZ j6.out).2.1); rintro e w24 ⟨rfl, hb⟩; refine ⟨_, rfl, ?_⟩; replace j6 := af.mk (Kd.bH (qr j6) hb); replace ag := qbb ag hb; replace HB := af.mk (ai (qw HB) hb); (try clear hb); (try clear hb2); (try clear hk); (try clear hi)))
    go_ret
    exact ⟨by first | rfl | (simp [errW_none, errW_some] <;> rfl) | (simp [*, errW_none, errW_some] <;> rfl), by repeat (first | (with_reducible first | exact HB.out | apply aA | apply aj | apply av | refine bi ?_ dE.out) | exact HB.out)⟩
   ·rw [if_neg c16] at H
    exact absurd H (by simp)
  ·rw [if_neg c14] at H
   have nP : (aJ == 2) = false := beq_eq_false_iff_ne.mpr c14
   have mY : (aJ != 2) = true := bne_iff_ne.mpr c14
   by_cases c25 : aJ = 3
   ·rw [if_pos c25] at H
    have xn : (aJ == 3) = true := beq_iff_eq.mpr c25
    have xq : (aJ != 3) = false := bne_eq_false_iff_eq.mpr c25
    clear c25
    replace H := Option.bind_eq_some_iff.mp H
    obtain ⟨gI, A260, H⟩ := H
    replace H : ((aM.f (([(⟨#[119, 105, 116, 104, 105, 110]⟩ : ByteArray), aD, aR, aQ, gI] : List ByteArray))).bind fun iw => (if iw.size + 1 ≤ 9223372036854775807 then (some (iw ++ (⟨#[59]⟩ : ByteArray))) else (none))) = some r := H
    have A26 := af.mk A260
    clear A260
    obtain ⟨y112, hy112⟩ : ∃ y_ : List ByteArray, y_ = (([(⟨#[119, 105, 116, 104, 105, 110]⟩ : ByteArray), aD, aR, aQ, gI] : List ByteArray)) := ⟨_, rfl⟩
    replace H : ((aM.f y112).bind fun iw => (if iw.size + 1 ≤ 9223372036854775807 then (some (iw ++ (⟨#[59]⟩ : ByteArray))) else (none))) = some r := by first | (rw [hy112]; with_reducible exact H) | (have H2_ := (Option.bind_some _ _).symm.trans H; rw [hy112]; with_reducible exact H2_) | (have H2_ := (Option.bind_some _ _).symm.trans H; with_reducible exact H2_) | with_reducible exact H | (rw [hy112]; exact H) | exact H
    have Ny112 := af.mk hy112
    clear hy112
    replace H := Option.bind_eq_some_iff.mp H
    obtain ⟨iw, A270, H⟩ := H
    replace H : (if iw.size + 1 ≤ 9223372036854775807 then (some (iw ++ (⟨#[59]⟩ : ByteArray))) else (none)) = some r := H
    have A27 := af.mk A270
    clear A270
    by_cases c28 : iw.size + 1 ≤ 9223372036854775807
    ·rw [if_pos c28] at H
     have xu := eq_true c28
     have vJ : decide (iw.size + 1 ≤ 9223372036854775807) = true := decide_eq_true c28
     try have xw : (9223372036854775807 < iw.size + 1) = False := eq_false (Nat.not_lt.2 c28)
     obtain rfl := Option.some.inj H
     go_enter Tryd.func17, Tryd.ntmps17
     try go_wp2_with (first | ((with_reducible refine aU (N := 1) rfl ?_); refine bz ?hg (N := 1) ?hd (cs := #[.int .i64 aJ, .string aD, .string bL, .string aR, .int .u32 dH, .int .u32 dS, .int .i64 dX, .int .i64 dU]) (t := 42) ?hr ?_; (case hd => rfl); (case hg => rfl); (case hr => first | (go_simp; done) | (go_simp; rfl)); intro ax hg w29 hbox hb; have ag := af.mk (hbox); have GW101 := qge HB hg; have dE := qge HB hg; replace HB := af.mk (ai (qw HB) hb); clear hb hbox hg; have hcz30_0 : w29.cell? ⟨ax, 0, none⟩ = some (.int .i64 aJ) := (ae ag.out 0).trans rfl; have hcz30_1 : w29.cell? ⟨ax, 1, none⟩ = some (.string aD) := (ae ag.out 1).trans rfl; have hcz30_2 : w29.cell? ⟨ax, 2, none⟩ = some (.string bL) := (ae ag.out 2).trans rfl; have hcz30_3 : w29.cell? ⟨ax, 3, none⟩ = some (.string aR) := (ae ag.out 3).trans rfl; have hcz30_4 : w29.cell? ⟨ax, 4, none⟩ = some (.int .u32 dH) := (ae ag.out 4).trans rfl; have hcz30_5 : w29.cell? ⟨ax, 5, none⟩ = some (.int .u32 dS) := (ae ag.out 5).trans rfl; have hcz30_6 : w29.cell? ⟨ax, 6, none⟩ = some (.int .i64 dX) := (ae ag.out 6).trans rfl; have hcz30_7 : w29.cell? ⟨ax, 7, none⟩ = some (.int .i64 dU) := (ae ag.out 7).trans rfl; have hfz30_0 := ah ag.out 0; have hfz30_1 := ah ag.out 1; have hfz30_2 := ah ag.out 2; have hfz30_3 := ah ag.out 3; have hfz30_4 := ah ag.out 4; have hfz30_5 := ah ag.out 5; have hfz30_6 := ah ag.out 6; have hfz30_7 := ah ag.out 7) | ((with_reducible refine aN (f := 38) rfl ?_); refine cu (some 6) rfl rfl Tryd.func38 (by kernel_rfl) rfl #[.int .u32 dH] rfl qt ?_; (with_reducible refine (bv.calls k dH aQ _ A2.out ?gt).mono ?_); (case gt => exact Go.Proofs.YthfphdbebnkdpaaDoorV.GT.below HGT (qw HB)); rintro e w31 ⟨rfl, hb⟩; refine ⟨_, rfl, ?_⟩; replace ag := qbb ag hb; replace HB := af.mk (ai (qw HB) hb); (try clear hb); (try clear hb2); (try clear hk); (try clear hi); have hcz32_0 : w31.cell? ⟨ax, 0, none⟩ = some (.int .i64 aJ) := (ae ag.out 0).trans rfl; have hcz32_1 : w31.cell? ⟨ax, 1, none⟩ = some (.string aD) := (ae ag.out 1).trans rfl; have hcz32_2 : w31.cell? ⟨ax, 2, none⟩ = some (.string bL) := (ae ag.out 2).trans rfl; have hcz32_3 : w31.cell? ⟨ax, 3, none⟩ = some (.string aR) := (ae ag.out 3).trans rfl; have hcz32_4 : w31.cell? ⟨ax, 4, none⟩ = some (.int .u32 dH) := (ae ag.out 4).trans rfl; have hcz32_5 : w31.cell? ⟨ax, 5, none⟩ = some (.int .u32 dS) := (ae ag.out 5).trans rfl; have hcz32_6 : w31.cell? ⟨ax, 6, none⟩ = some (.int .i64 dX) := (ae ag.out 6).trans rfl; have hcz32_7 : w31.cell? ⟨ax, 7, none⟩ = some (.int .i64 dU) := (ae ag.out 7).trans rfl; have hfz32_0 := ah ag.out 0; have hfz32_1 := ah ag.out 1; have hfz32_2 := ah ag.out 2; have hfz32_3 := ah ag.out 3; have hfz32_4 := ah ag.out 4; have hfz32_5 := ah ag.out 5; have hfz32_6 := ah ag.out 6; have hfz32_7 := ah ag.out 7))
     replace ag := af.mk (dC ag.out)
     replace HB := af.mk (av HB.out)
     refine gm (n := 12) (S := fun w' => w'.cell? ⟨ax, 0, none⟩ = some (.int .i64 aJ) ∧ w'.cell? ⟨ax, 1, none⟩ = some (.string aD) ∧ w'.cell? ⟨ax, 2, none⟩ = some (.string bL) ∧ w'.cell? ⟨ax, 3, none⟩ = some (.string aR) ∧ w'.cell? ⟨ax, 4, none⟩ = some (.int .u32 dH) ∧ w'.cell? ⟨ax, 5, none⟩ = some (.int .u32 dS) ∧ w'.cell? ⟨ax, 6, none⟩ = some (.int .i64 dX) ∧ w'.cell? ⟨ax, 7, none⟩ = some (.int .i64 dU)) (ds := []) #[bF,bF,bF,bF,bF,bF,bF,bF,bF,bF,bF,bF] (by kernel_rfl) rfl rfl ⟨(ae ag.out 0).trans rfl, (ae ag.out 1).trans rfl, (ae ag.out 2).trans rfl, (ae ag.out 3).trans rfl, (ae ag.out 4).trans rfl, (ae ag.out 5).trans rfl, (ae ag.out 6).trans rfl, (ae ag.out 7).trans rfl⟩ (fun hHeld => ?_); refine eH bM.wD bM.tH (fun HT_ HW_ => ?_)
     generalize w31.drew = w33 at ag HB hHeld ⊢
     refine aY 0 (some 31) HT_ ?_
     refine aY 2 (some 33) HT_ ?_
     refine aY 4 (some 35) HT_ ?_
     refine aY 5 (some 36) HT_ ?_
     refine d9 1 (some 32) HT_ HW_ hHeld ?_
     refine d9 3 (some 34) HT_ HW_ hHeld ?_
     refine d9 6 (some 37) HT_ HW_ hHeld ?_
     refine gF 7 (some 38) HT_ (fun K hK => ?_)
     refine fe Tryd.func40 #[.int .i64 dU] ?_
     with_reducible refine (strconv_Itoa.calls dU gI _ A26.out ?gt).mono ?_
     (case gt => exact Go.Proofs.YthfphdbebnkdpaaDoorV.GT.below HGT (qw HB))
     rintro e w34 ⟨rfl, hb⟩
     refine ⟨_, rfl, ?_⟩
     replace ag := qbb ag hb
     replace HB := af.mk (ai (qw HB) hb)
     (try clear hb)
     (try clear hb2)
     (try clear hk)
     (try clear hi)
     refine hK.out _ _ ⟨(ae ag.out 0).trans rfl, (ae ag.out 1).trans rfl, (ae ag.out 2).trans rfl, (ae ag.out 3).trans rfl, (ae ag.out 4).trans rfl, (ae ag.out 5).trans rfl, (ae ag.out 6).trans rfl, (ae ag.out 7).trans rfl⟩ (fun hHeld => ?_)
     clear hK K
     refine eX (some 38) ?_
     refine gF 8 (some 39) HT_ (fun K hK => ?_)
     refine Kd.iT Kd.string _ 9 ?hg (N := 39) ?hd (xs := ([(⟨#[119, 105, 116, 104, 105, 110]⟩ : ByteArray), aD, aR, aQ, gI] : List ByteArray)) (inner := [.string (⟨#[119, 105, 116, 104, 105, 110]⟩ : ByteArray), .string aD, .string aR, .string aQ, .string gI]) (ok := fun _ => True) (okp := fun _ => True) ?hr ?hp (fun _ hk => hk) trivial (Below.refl _ _) (Nat.le_refl _) (by simp) ?_; (case hd => rfl); (case hg => rfl); (case hr => first | (go_simp; done) | (go_simp; rfl)); (case hp => exact (bZ.one (show Kd.M Kd.string _ _ _ (⟨#[119, 105, 116, 104, 105, 110]⟩ : ByteArray) [.string (⟨#[119, 105, 116, 104, 105, 110]⟩ : ByteArray)] from rfl) (bZ.one (show Kd.M Kd.string _ _ _ aD [.string aD] from rfl) (bZ.one (show Kd.M Kd.string _ _ _ aR [.string aR] from rfl) (bZ.one (show Kd.M Kd.string _ _ _ aQ [.string aQ] from rfl) (bZ.one (show Kd.M Kd.string _ _ _ gI [.string gI] from rfl) (bZ.none _ _)))))))
     intro v113 w35 tK hb hg_ hnew_
     clear hg_ hnew_
     (first | rw [← Ny112.out] at tK | (simp only [Int.reduceToNat] at tK; rw [← Ny112.out] at tK))
     have kF := af.mk (Kd.dI tK (bg (qw HB)))
     replace ag := qbb ag hb
     replace HB := af.mk (ai (qw HB) hb)
     clear hb tK
     obtain ⟨zg, zh, xx⟩ := Kd.dW kF.out
     (first | subst xx | (injection xx with f1_ f2_ f3_; have f4_ := f1_.symm; have f5_ := f3_.symm; clear f1_ f2_ f3_; subst f4_; subst f5_))
     refine hK.out _ _ ⟨(ae ag.out 0).trans rfl, (ae ag.out 1).trans rfl, (ae ag.out 2).trans rfl, (ae ag.out 3).trans rfl, (ae ag.out 4).trans rfl, (ae ag.out 5).trans rfl, (ae ag.out 6).trans rfl, (ae ag.out 7).trans rfl⟩ (fun hHeld => ?_)
     clear hK K
     refine eX (some 39) ?_
     refine gF 9 (some 40) HT_ (fun K hK => ?_)
     refine fe Tryd.func39 #[.slice zg y112.length zh] ?_
     with_reducible refine (aM.calls _ _ y112 iw _ ?bI ?bJ A27.out).mono ?_
     (case bI => exact qs ((Kd.aZ kF.out).2.2))
     (case bJ => exact (Kd.aZ kF.out).2.1)
     rintro e w38 ⟨rfl, hb⟩
     refine ⟨_, rfl, ?_⟩
     replace kF := af.mk (Kd.bH (qr kF) hb)
     replace ag := qbb ag hb
     replace HB := af.mk (ai (qw HB) hb)
     (try clear hb)
     (try clear hb2)
     (try clear hk)
     (try clear hi)
     refine hK.out _ _ ⟨(ae ag.out 0).trans rfl, (ae ag.out 1).trans rfl, (ae ag.out 2).trans rfl, (ae ag.out 3).trans rfl, (ae ag.out 4).trans rfl, (ae ag.out 5).trans rfl, (ae ag.out 6).trans rfl, (ae ag.out 7).trans rfl⟩ (fun hHeld => ?_)
     clear hK K
     refine eX (some 40) ?_
     refine aY 10 (some 41) HT_ ?_
     refine aY 11 (some 2) HT_ ?_
     refine iq HT_ ?_
     try go_wp2
     go_ret
     exact ⟨by first | rfl | (simp [errW_none, errW_some] <;> rfl) | (simp [*, errW_none, errW_some] <;> rfl), by repeat (first | (with_reducible first | exact HB.out | apply aA | apply aj | apply av | refine bi ?_ dE.out) | exact HB.out)⟩
    ·rw [if_neg c28] at H
     exact absurd H (by simp)
   ·rw [if_neg c25] at H
    have xn : (aJ == 3) = false := beq_eq_false_iff_ne.mpr c25
    have xq : (aJ != 3) = true := bne_iff_ne.mpr c25
    by_cases c39 : aJ = 4
    ·rw [if_pos c39] at H
     have xy : (aJ == 4) = true := beq_iff_eq.mpr c39
     have xz : (aJ != 4) = false := bne_eq_false_iff_eq.mpr c39
     clear c39
     replace H := Option.bind_eq_some_iff.mp H
     obtain ⟨t116, A400, H⟩ := H
     replace H : ((aM.f (([(⟨#[99, 111, 109, 112, 97, 114, 101]⟩ : ByteArray), aD, bL, aR, t116] : List ByteArray))).bind fun gJ => (if gJ.size + 1 ≤ 9223372036854775807 then (some (gJ ++ (⟨#[59]⟩ : ByteArray))) else (none))) = some r := H
     have A40 := af.mk A400
     clear A400
     obtain ⟨y117, hy117⟩ : ∃ y_ : List ByteArray, y_ = (([(⟨#[99, 111, 109, 112, 97, 114, 101]⟩ : ByteArray), aD, bL, aR, t116] : List ByteArray)) := ⟨_, rfl⟩
     replace H : ((aM.f y117).bind fun gJ => (if gJ.size + 1 ≤ 9223372036854775807 then (some (gJ ++ (⟨#[59]⟩ : ByteArray))) else (none))) = some r := by first | (rw [hy117]; with_reducible exact H) | (have H2_ := (Option.bind_some _ _).symm.trans H; rw [hy117]; with_reducible exact H2_) | (have H2_ := (Option.bind_some _ _).symm.trans H; with_reducible exact H2_) | with_reducible exact H | (rw [hy117]; exact H) | exact H
     have Ny117 := af.mk hy117
     clear hy117
     replace H := Option.bind_eq_some_iff.mp H
     obtain ⟨gJ, A410, H⟩ := H
     replace H : (if gJ.size + 1 ≤ 9223372036854775807 then (some (gJ ++ (⟨#[59]⟩ : ByteArray))) else (none)) = some r := H
     have A41 := af.mk A410
     clear A410
     by_cases c42 : gJ.size + 1 ≤ 9223372036854775807
     ·rw [if_pos c42] at H
      have vK := eq_true c42
      have vL : decide (gJ.size + 1 ≤ 9223372036854775807) = true := decide_eq_true c42
      try have zL : (9223372036854775807 < gJ.size + 1) = False := eq_false (Nat.not_lt.2 c42)
      obtain rfl := Option.some.inj H
      go_enter Tryd.func17, Tryd.ntmps17
      try go_wp2_with (first | ((with_reducible refine aU (N := 1) rfl ?_); refine bz ?hg (N := 1) ?hd (cs := #[.int .i64 aJ, .string aD, .string bL, .string aR, .int .u32 dH, .int .u32 dS, .int .i64 dX, .int .i64 dU]) (t := 42) ?hr ?_; (case hd => rfl); (case hg => rfl); (case hr => first | (go_simp; done) | (go_simp; rfl)); intro ax hg w43 hbox hb; have ag := af.mk (hbox); have GW101 := qge HB hg; have dE := qge HB hg; replace HB := af.mk (ai (qw HB) hb); clear hb hbox hg; have hcz44_0 : w43.cell? ⟨ax, 0, none⟩ = some (.int .i64 aJ) := (ae ag.out 0).trans rfl; have hcz44_1 : w43.cell? ⟨ax, 1, none⟩ = some (.string aD) := (ae ag.out 1).trans rfl; have hcz44_2 : w43.cell? ⟨ax, 2, none⟩ = some (.string bL) := (ae ag.out 2).trans rfl; have hcz44_3 : w43.cell? ⟨ax, 3, none⟩ = some (.string aR) := (ae ag.out 3).trans rfl; have hcz44_4 : w43.cell? ⟨ax, 4, none⟩ = some (.int .u32 dH) := (ae ag.out 4).trans rfl; have hcz44_5 : w43.cell? ⟨ax, 5, none⟩ = some (.int .u32 dS) := (ae ag.out 5).trans rfl; have hcz44_6 : w43.cell? ⟨ax, 6, none⟩ = some (.int .i64 dX) := (ae ag.out 6).trans rfl; have hcz44_7 : w43.cell? ⟨ax, 7, none⟩ = some (.int .i64 dU) := (ae ag.out 7).trans rfl; have hfz44_0 := ah ag.out 0; have hfz44_1 := ah ag.out 1; have hfz44_2 := ah ag.out 2; have hfz44_3 := ah ag.out 3; have hfz44_4 := ah ag.out 4; have hfz44_5 := ah ag.out 5; have hfz44_6 := ah ag.out 6; have hfz44_7 := ah ag.out 7) | ((with_reducible refine aN (f := 38) rfl ?_); refine cu (some 6) rfl rfl Tryd.func38 (by kernel_rfl) rfl #[.int .u32 dH] rfl qt ?_; (with_reducible refine (bv.calls k dH aQ _ A2.out ?gt).mono ?_); (case gt => exact Go.Proofs.YthfphdbebnkdpaaDoorV.GT.below HGT (qw HB)); rintro e w45 ⟨rfl, hb⟩; refine ⟨_, rfl, ?_⟩; replace ag := qbb ag hb; replace HB := af.mk (ai (qw HB) hb); (try clear hb); (try clear hb2); (try clear hk); (try clear hi); have hcz46_0 : w45.cell? ⟨ax, 0, none⟩ = some (.int .i64 aJ) := (ae ag.out 0).trans rfl; have hcz46_1 : w45.cell? ⟨ax, 1, none⟩ = some (.string aD) := (ae ag.out 1).trans rfl; have hcz46_2 : w45.cell? ⟨ax, 2, none⟩ = some (.string bL) := (ae ag.out 2).trans rfl; have hcz46_3 : w45.cell? ⟨ax, 3, none⟩ = some (.string aR) := (ae ag.out 3).trans rfl; have hcz46_4 : w45.cell? ⟨ax, 4, none⟩ = some (.int .u32 dH) := (ae ag.out 4).trans rfl; have hcz46_5 : w45.cell? ⟨ax, 5, none⟩ = some (.int .u32 dS) := (ae ag.out 5).trans rfl; have hcz46_6 : w45.cell? ⟨ax, 6, none⟩ = some (.int .i64 dX) := (ae ag.out 6).trans rfl; have hcz46_7 : w45.cell? ⟨ax, 7, none⟩ = some (.int .i64 dU) := (ae ag.out 7).trans rfl; have hfz46_0 := ah ag.out 0; have hfz46_1 := ah ag.out 1; have hfz46_2 := ah ag.out 2; have hfz46_3 := ah ag.out 3; have hfz46_4 := ah ag.out 4; have hfz46_5 := ah ag.out 5; have hfz46_6 := ah ag.out 6; have hfz46_7 := ah ag.out 7))
      replace ag := af.mk (dC ag.out)
      replace HB := af.mk (av HB.out)
      refine gm (n := 13) (S := fun w' => w'.cell? ⟨ax, 0, none⟩ = some (.int .i64 aJ) ∧ w'.cell? ⟨ax, 1, none⟩ = some (.string aD) ∧ w'.cell? ⟨ax, 2, none⟩ = some (.string bL) ∧ w'.cell? ⟨ax, 3, none⟩ = some (.string aR) ∧ w'.cell? ⟨ax, 4, none⟩ = some (.int .u32 dH) ∧ w'.cell? ⟨ax, 5, none⟩ = some (.int .u32 dS) ∧ w'.cell? ⟨ax, 6, none⟩ = some (.int .i64 dX) ∧ w'.cell? ⟨ax, 7, none⟩ = some (.int .i64 dU)) (ds := []) #[bF,bF,bF,bF,bF,bF,bF,bF,bF,bF,bF,bF,bF] (by kernel_rfl) rfl rfl ⟨(ae ag.out 0).trans rfl, (ae ag.out 1).trans rfl, (ae ag.out 2).trans rfl, (ae ag.out 3).trans rfl, (ae ag.out 4).trans rfl, (ae ag.out 5).trans rfl, (ae ag.out 6).trans rfl, (ae ag.out 7).trans rfl⟩ (fun hHeld => ?_); refine eH bM.xk bM.wE (fun HT_ HW_ => ?_)
      generalize w45.drew = w47 at ag HB hHeld ⊢
      refine aY 0 (some 44) HT_ ?_
      refine aY 2 (some 46) HT_ ?_
      refine aY 4 (some 48) HT_ ?_
      refine aY 6 (some 50) HT_ ?_
      refine d9 1 (some 45) HT_ HW_ hHeld ?_
      refine d9 3 (some 47) HT_ HW_ hHeld ?_
      refine d9 5 (some 49) HT_ HW_ hHeld ?_
      refine d9 7 (some 51) HT_ HW_ hHeld ?_
      refine gF 8 (some 52) HT_ (fun K hK => ?_)
      refine fe Tryd.func41 #[.agg #[.int .u32 dS, .int .i64 dX]] ?_
      with_reducible refine (dA.calls k dS dX t116 _ A40.out ?gt).mono ?_
      (case gt => exact Go.Proofs.YthfphdbebnkdpaaDoorV.GT.below HGT (qw HB))
      rintro e w48 ⟨rfl, hb⟩
      refine ⟨_, rfl, ?_⟩
      replace ag := qbb ag hb
      replace HB := af.mk (ai (qw HB) hb)
      (try clear hb)
      (try clear hb2)
      (try clear hk)
      (try clear hi)
      refine hK.out _ _ ⟨(ae ag.out 0).trans rfl, (ae ag.out 1).trans rfl, (ae ag.out 2).trans rfl, (ae ag.out 3).trans rfl, (ae ag.out 4).trans rfl, (ae ag.out 5).trans rfl, (ae ag.out 6).trans rfl, (ae ag.out 7).trans rfl⟩ (fun hHeld => ?_)
      clear hK K
      refine eX (some 52) ?_
      refine gF 9 (some 53) HT_ (fun K hK => ?_)
      refine Kd.iT Kd.string _ 9 ?hg (N := 53) ?hd (xs := ([(⟨#[99, 111, 109, 112, 97, 114, 101]⟩ : ByteArray), aD, bL, aR, t116] : List ByteArray)) (inner := [.string (⟨#[99, 111, 109, 112, 97, 114, 101]⟩ : ByteArray), .string aD, .string bL, .string aR, .string t116]) (ok := fun _ => True) (okp := fun _ => True) ?hr ?hp (fun _ hk => hk) trivial (Below.refl _ _) (Nat.le_refl _) (by simp) ?_; (case hd => rfl); (case hg => rfl); (case hr => first | (go_simp; done) | (go_simp; rfl)); (case hp => exact (bZ.one (show Kd.M Kd.string _ _ _ (⟨#[99, 111, 109, 112, 97, 114, 101]⟩ : ByteArray) [.string (⟨#[99, 111, 109, 112, 97, 114, 101]⟩ : ByteArray)] from rfl) (bZ.one (show Kd.M Kd.string _ _ _ aD [.string aD] from rfl) (bZ.one (show Kd.M Kd.string _ _ _ bL [.string bL] from rfl) (bZ.one (show Kd.M Kd.string _ _ _ aR [.string aR] from rfl) (bZ.one (show Kd.M Kd.string _ _ _ t116 [.string t116] from rfl) (bZ.none _ _)))))))
      intro v118 w49 tL hb hg_ hnew_
      clear hg_ hnew_
      (first | rw [← Ny117.out] at tL | (simp only [Int.reduceToNat] at tL; rw [← Ny117.out] at tL))
      have pg := af.mk (Kd.dI tL (bg (qw HB)))
      replace ag := qbb ag hb
      replace HB := af.mk (ai (qw HB) hb)
      clear hb tL
      obtain ⟨zi, zk, xA⟩ := Kd.dW pg.out
      (first | subst xA | (injection xA with f1_ f2_ f3_; have f4_ := f1_.symm; have f5_ := f3_.symm; clear f1_ f2_ f3_; subst f4_; subst f5_))
      refine hK.out _ _ ⟨(ae ag.out 0).trans rfl, (ae ag.out 1).trans rfl, (ae ag.out 2).trans rfl, (ae ag.out 3).trans rfl, (ae ag.out 4).trans rfl, (ae ag.out 5).trans rfl, (ae ag.out 6).trans rfl, (ae ag.out 7).trans rfl⟩ (fun hHeld => ?_)
      clear hK K
      refine eX (some 53) ?_
      refine gF 10 (some 54) HT_ (fun K hK => ?_)
      refine fe Tryd.func39 #[.slice zi y117.length zk] ?_
      with_reducible refine (aM.calls _ _ y117 gJ _ ?bI ?bJ A41.out).mono ?_
      (case bI => exact qs ((Kd.aZ pg.out).2.2))
      (case bJ => exact (Kd.aZ pg.out).2.1)
      rintro e w52 ⟨rfl, hb⟩
      refine ⟨_, rfl, ?_⟩
      replace pg := af.mk (Kd.bH (qr pg) hb)
      replace ag := qbb ag hb
      replace HB := af.mk (ai (qw HB) hb)
      (try clear hb)
      (try clear hb2)
      (try clear hk)
      (try clear hi)
      refine hK.out _ _ ⟨(ae ag.out 0).trans rfl, (ae ag.out 1).trans rfl, (ae ag.out 2).trans rfl, (ae ag.out 3).trans rfl, (ae ag.out 4).trans rfl, (ae ag.out 5).trans rfl, (ae ag.out 6).trans rfl, (ae ag.out 7).trans rfl⟩ (fun hHeld => ?_)
      clear hK K
      refine eX (some 54) ?_
      refine aY 11 (some 55) HT_ ?_
      refine aY 12 (some 2) HT_ ?_
      refine iq HT_ ?_
      try go_wp2
      go_ret
      exact ⟨by first | rfl | (simp [errW_none, errW_some] <;> rfl) | (simp [*, errW_none, errW_some] <;> rfl), by repeat (first | (with_reducible first | exact HB.out | apply aA | apply aj | apply av | refine bi ?_ dE.out) | exact HB.out)⟩
     ·rw [if_neg c42] at H
      exact absurd H (by simp)
    ·rw [if_neg c39] at H
     have xy : (aJ == 4) = false := beq_eq_false_iff_ne.mpr c39
     have xz : (aJ != 4) = true := bne_iff_ne.mpr c39
     obtain rfl := Option.some.inj H
     go_enter Tryd.func17, Tryd.ntmps17
     go_wp2_with (first | ((with_reducible refine aU (N := 1) rfl ?_); refine bz ?hg (N := 1) ?hd (cs := #[.int .i64 aJ, .string aD, .string bL, .string aR, .int .u32 dH, .int .u32 dS, .int .i64 dX, .int .i64 dU]) (t := 42) ?hr ?_; (case hd => rfl); (case hg => rfl); (case hr => first | (go_simp; done) | (go_simp; rfl)); intro ax hg w53 hbox hb; have ag := af.mk (hbox); have GW101 := qge HB hg; have dE := qge HB hg; replace HB := af.mk (ai (qw HB) hb); clear hb hbox hg; have hcz54_0 : w53.cell? ⟨ax, 0, none⟩ = some (.int .i64 aJ) := (ae ag.out 0).trans rfl; have hcz54_1 : w53.cell? ⟨ax, 1, none⟩ = some (.string aD) := (ae ag.out 1).trans rfl; have hcz54_2 : w53.cell? ⟨ax, 2, none⟩ = some (.string bL) := (ae ag.out 2).trans rfl; have hcz54_3 : w53.cell? ⟨ax, 3, none⟩ = some (.string aR) := (ae ag.out 3).trans rfl; have hcz54_4 : w53.cell? ⟨ax, 4, none⟩ = some (.int .u32 dH) := (ae ag.out 4).trans rfl; have hcz54_5 : w53.cell? ⟨ax, 5, none⟩ = some (.int .u32 dS) := (ae ag.out 5).trans rfl; have hcz54_6 : w53.cell? ⟨ax, 6, none⟩ = some (.int .i64 dX) := (ae ag.out 6).trans rfl; have hcz54_7 : w53.cell? ⟨ax, 7, none⟩ = some (.int .i64 dU) := (ae ag.out 7).trans rfl; have hfz54_0 := ah ag.out 0; have hfz54_1 := ah ag.out 1; have hfz54_2 := ah ag.out 2; have hfz54_3 := ah ag.out 3; have hfz54_4 := ah ag.out 4; have hfz54_5 := ah ag.out 5; have hfz54_6 := ah ag.out 6; have hfz54_7 := ah ag.out 7) | ((with_reducible refine aN (f := 38) rfl ?_); refine cu (some 6) rfl rfl Tryd.func38 (by kernel_rfl) rfl #[.int .u32 dH] rfl qt ?_; (with_reducible refine (bv.calls k dH aQ _ A2.out ?gt).mono ?_); (case gt => exact Go.Proofs.YthfphdbebnkdpaaDoorV.GT.below HGT (qw HB)); rintro e w55 ⟨rfl, hb⟩; refine ⟨_, rfl, ?_⟩; replace ag := qbb ag hb; replace HB := af.mk (ai (qw HB) hb); (try clear hb); (try clear hb2); (try clear hk); (try clear hi); have hcz56_0 : w55.cell? ⟨ax, 0, none⟩ = some (.int .i64 aJ) := (ae ag.out 0).trans rfl; have hcz56_1 : w55.cell? ⟨ax, 1, none⟩ = some (.string aD) := (ae ag.out 1).trans rfl; have hcz56_2 : w55.cell? ⟨ax, 2, none⟩ = some (.string bL) := (ae ag.out 2).trans rfl; have hcz56_3 : w55.cell? ⟨ax, 3, none⟩ = some (.string aR) := (ae ag.out 3).trans rfl; have hcz56_4 : w55.cell? ⟨ax, 4, none⟩ = some (.int .u32 dH) := (ae ag.out 4).trans rfl; have hcz56_5 : w55.cell? ⟨ax, 5, none⟩ = some (.int .u32 dS) := (ae ag.out 5).trans rfl; have hcz56_6 : w55.cell? ⟨ax, 6, none⟩ = some (.int .i64 dX) := (ae ag.out 6).trans rfl; have hcz56_7 : w55.cell? ⟨ax, 7, none⟩ = some (.int .i64 dU) := (ae ag.out 7).trans rfl; have hfz56_0 := ah ag.out 0; have hfz56_1 := ah ag.out 1; have hfz56_2 := ah ag.out 2; have hfz56_3 := ah ag.out 3; have hfz56_4 := ah ag.out 4; have hfz56_5 := ah ag.out 5; have hfz56_6 := ah ag.out 6; have hfz56_7 := ah ag.out 7))
     go_ret
     exact ⟨by first | rfl | (simp [errW_none, errW_some] <;> rfl) | (simp [*, errW_none, errW_some] <;> rfl), by repeat (first | (with_reducible first | exact HB.out | apply aA | apply aj | apply av | refine bi ?_ dE.out) | exact HB.out)⟩
end Go.Proofs.YthfphdbebnkdpaaDoor.P
end
section
namespace Go.Proofs.YthfphdbebnkdpaaDoor.P
open Go.RowKit Go.Proofs.YthfphdbebnkdpaaDoorW.aH Go.Proofs.YthfphdbebnkdpaaDoorW.aV Go.Proofs.YthfphdbebnkdpaaDoorW.bn
attribute [local go_sem] bR bS dn dw bB bC bU bV
set_option linter.unusedVariables false
set_option linter.unusedSimpArgs false
def aG.f (k : Nat) (aJ : Int) (aD : ByteArray) (bL : ByteArray) (aR : ByteArray) (dH : Int) (dS : Int) (dX : Int) (dU : Int) : Option (ByteArray) := if aJ = 1 then (if 5 + aD.size ≤ 9223372036854775807 then (if ((⟨#[112, 114, 111, 98, 32]⟩ : ByteArray) ++ aD).size + 1 ≤ 9223372036854775807 then (if (((⟨#[112, 114, 111, 98, 32]⟩ : ByteArray) ++ aD) ++ (⟨#[32]⟩ : ByteArray)).size + aR.size ≤ 9223372036854775807 then (if ((((⟨#[112, 114, 111, 98, 32]⟩ : ByteArray) ++ aD) ++ (⟨#[32]⟩ : ByteArray)) ++ aR).size + 1 ≤ 9223372036854775807 then ((bN.f k dH).bind fun aQ => (if (((((⟨#[112, 114, 111, 98, 32]⟩ : ByteArray) ++ aD) ++ (⟨#[32]⟩ : ByteArray)) ++ aR) ++ (⟨#[32]⟩ : ByteArray)).size + aQ.size ≤ 9223372036854775807 then (if ((((((⟨#[112, 114, 111, 98, 32]⟩ : ByteArray) ++ aD) ++ (⟨#[32]⟩ : ByteArray)) ++ aR) ++ (⟨#[32]⟩ : ByteArray)) ++ aQ).size + 1 ≤ 9223372036854775807 then (some (((((((⟨#[112, 114, 111, 98, 32]⟩ : ByteArray) ++ aD) ++ (⟨#[32]⟩ : ByteArray)) ++ aR) ++ (⟨#[32]⟩ : ByteArray)) ++ aQ) ++ (⟨#[59]⟩ : ByteArray))) else (none)) else (none))) else (none)) else (none)) else (none)) else (none)) else (if aJ = 2 then (if 5 + aD.size ≤ 9223372036854775807 then (if ((⟨#[104, 111, 112, 115, 32]⟩ : ByteArray) ++ aD).size + 1 ≤ 9223372036854775807 then (if (((⟨#[104, 111, 112, 115, 32]⟩ : ByteArray) ++ aD) ++ (⟨#[32]⟩ : ByteArray)).size + aR.size ≤ 9223372036854775807 then (if ((((⟨#[104, 111, 112, 115, 32]⟩ : ByteArray) ++ aD) ++ (⟨#[32]⟩ : ByteArray)) ++ aR).size + 1 ≤ 9223372036854775807 then ((bN.f k dH).bind fun bu => (if (((((⟨#[104, 111, 112, 115, 32]⟩ : ByteArray) ++ aD) ++ (⟨#[32]⟩ : ByteArray)) ++ aR) ++ (⟨#[32]⟩ : ByteArray)).size + bu.size ≤ 9223372036854775807 then (if ((((((⟨#[104, 111, 112, 115, 32]⟩ : ByteArray) ++ aD) ++ (⟨#[32]⟩ : ByteArray)) ++ aR) ++ (⟨#[32]⟩ : ByteArray)) ++ bu).size + 1 ≤ 9223372036854775807 then (some (((((((⟨#[104, 111, 112, 115, 32]⟩ : ByteArray) ++ aD) ++ (⟨#[32]⟩ : ByteArray)) ++ aR) ++ (⟨#[32]⟩ : ByteArray)) ++ bu) ++ (⟨#[59]⟩ : ByteArray))) else (none)) else (none))) else (none)) else (none)) else (none)) else (none)) else (if aJ = 3 then (if 7 + aD.size ≤ 9223372036854775807 then (if ((⟨#[119, 105, 116, 104, 105, 110, 32]⟩ : ByteArray) ++ aD).size + 1 ≤ 9223372036854775807 then (if (((⟨#[119, 105, 116, 104, 105, 110, 32]⟩ : ByteArray) ++ aD) ++ (⟨#[32]⟩ : ByteArray)).size + aR.size ≤ 9223372036854775807 then (if ((((⟨#[119, 105, 116, 104, 105, 110, 32]⟩ : ByteArray) ++ aD) ++ (⟨#[32]⟩ : ByteArray)) ++ aR).size + 1 ≤ 9223372036854775807 then ((bN.f k dH).bind fun bf => (if (((((⟨#[119, 105, 116, 104, 105, 110, 32]⟩ : ByteArray) ++ aD) ++ (⟨#[32]⟩ : ByteArray)) ++ aR) ++ (⟨#[32]⟩ : ByteArray)).size + bf.size ≤ 9223372036854775807 then (if ((((((⟨#[119, 105, 116, 104, 105, 110, 32]⟩ : ByteArray) ++ aD) ++ (⟨#[32]⟩ : ByteArray)) ++ aR) ++ (⟨#[32]⟩ : ByteArray)) ++ bf).size + 1 ≤ 9223372036854775807 then ((aK.f k dU).bind fun t105 => (if (((((((⟨#[119, 105, 116, 104, 105, 110, 32]⟩ : ByteArray) ++ aD) ++ (⟨#[32]⟩ : ByteArray)) ++ aR) ++ (⟨#[32]⟩ : ByteArray)) ++ bf) ++ (⟨#[32]⟩ : ByteArray)).size + t105.size ≤ 9223372036854775807 then (if ((((((((⟨#[119, 105, 116, 104, 105, 110, 32]⟩ : ByteArray) ++ aD) ++ (⟨#[32]⟩ : ByteArray)) ++ aR) ++ (⟨#[32]⟩ : ByteArray)) ++ bf) ++ (⟨#[32]⟩ : ByteArray)) ++ t105).size + 1 ≤ 9223372036854775807 then (some (((((((((⟨#[119, 105, 116, 104, 105, 110, 32]⟩ : ByteArray) ++ aD) ++ (⟨#[32]⟩ : ByteArray)) ++ aR) ++ (⟨#[32]⟩ : ByteArray)) ++ bf) ++ (⟨#[32]⟩ : ByteArray)) ++ t105) ++ (⟨#[59]⟩ : ByteArray))) else (none)) else (none))) else (none)) else (none))) else (none)) else (none)) else (none)) else (none)) else (if aJ = 4 then (if 8 + aD.size ≤ 9223372036854775807 then (if ((⟨#[99, 111, 109, 112, 97, 114, 101, 32]⟩ : ByteArray) ++ aD).size + 1 ≤ 9223372036854775807 then (if (((⟨#[99, 111, 109, 112, 97, 114, 101, 32]⟩ : ByteArray) ++ aD) ++ (⟨#[32]⟩ : ByteArray)).size + bL.size ≤ 9223372036854775807 then (if ((((⟨#[99, 111, 109, 112, 97, 114, 101, 32]⟩ : ByteArray) ++ aD) ++ (⟨#[32]⟩ : ByteArray)) ++ bL).size + 1 ≤ 9223372036854775807 then (if (((((⟨#[99, 111, 109, 112, 97, 114, 101, 32]⟩ : ByteArray) ++ aD) ++ (⟨#[32]⟩ : ByteArray)) ++ bL) ++ (⟨#[32]⟩ : ByteArray)).size + aR.size ≤ 9223372036854775807 then (if ((((((⟨#[99, 111, 109, 112, 97, 114, 101, 32]⟩ : ByteArray) ++ aD) ++ (⟨#[32]⟩ : ByteArray)) ++ bL) ++ (⟨#[32]⟩ : ByteArray)) ++ aR).size + 1 ≤ 9223372036854775807 then ((dh.f k dS dX).bind fun aX => (if (((((((⟨#[99, 111, 109, 112, 97, 114, 101, 32]⟩ : ByteArray) ++ aD) ++ (⟨#[32]⟩ : ByteArray)) ++ bL) ++ (⟨#[32]⟩ : ByteArray)) ++ aR) ++ (⟨#[32]⟩ : ByteArray)).size + aX.size ≤ 9223372036854775807 then (if ((((((((⟨#[99, 111, 109, 112, 97, 114, 101, 32]⟩ : ByteArray) ++ aD) ++ (⟨#[32]⟩ : ByteArray)) ++ bL) ++ (⟨#[32]⟩ : ByteArray)) ++ aR) ++ (⟨#[32]⟩ : ByteArray)) ++ aX).size + 1 ≤ 9223372036854775807 then (some (((((((((⟨#[99, 111, 109, 112, 97, 114, 101, 32]⟩ : ByteArray) ++ aD) ++ (⟨#[32]⟩ : ByteArray)) ++ bL) ++ (⟨#[32]⟩ : ByteArray)) ++ aR) ++ (⟨#[32]⟩ : ByteArray)) ++ aX) ++ (⟨#[59]⟩ : ByteArray))) else (none)) else (none))) else (none)) else (none)) else (none)) else (none)) else (none)) else (none)) else (some (⟨#[]⟩ : ByteArray)))))
def aG.T2 : Bool × List (List Nat × List Nat) := (true, [([], []), ([0], [0]), ([1], [1]), ([2], [2]), ([], []), ([4], [4]), ([3, 5], [3, 5]), ([6], [6]), ([], []), ([8], [8]), ([9], [9]), ([7, 10], [7, 10]), ([11], [11]), ([12, 10, 0, 1, 2, 3, 4, 5, 6, 7, 8, 9, 10, 11, 12], [12])])
def aG.B2 : List Nat := [0, 1, 3, 7, 0, 16, 63, 127, 0, 256, 768, 2047, 4095, 8191]
theorem aG.zl : gK .any (opsOf Tryd.f18 2) = aG.T2 := by kernel_rfl
theorem aG.xB : fM aG.T2.2 aG.B2 = true := by kernel_rfl
def aG.T4 : Bool × List (List Nat × List Nat) := (true, [([], []), ([0], [0]), ([1], [1]), ([2], [2]), ([], []), ([4], [4]), ([3, 5], [3, 5]), ([6], [6]), ([], []), ([8], [8]), ([9], [9]), ([7, 10], [7, 10]), ([11], [11]), ([12, 10, 0, 1, 2, 3, 4, 5, 6, 7, 8, 9, 10, 11, 12], [12])])
def aG.B4 : List Nat := [0, 1, 3, 7, 0, 16, 63, 127, 0, 256, 768, 2047, 4095, 8191]
theorem aG.zm : gK .any (opsOf Tryd.f18 4) = aG.T4 := by kernel_rfl
theorem aG.xC : fM aG.T4.2 aG.B4 = true := by kernel_rfl
def aG.T6 : Bool × List (List Nat × List Nat) := (true, [([], []), ([0], [0]), ([1], [1]), ([2], [2]), ([], []), ([4], [4]), ([3, 5], [3, 5]), ([6], [6]), ([], []), ([8], [8]), ([9], [9]), ([7, 10], [7, 10]), ([11], [11]), ([], []), ([13], [13]), ([14, 10], [14]), ([12, 15], [12, 15]), ([16], [16]), ([17, 15, 0, 1, 2, 3, 4, 5, 6, 7, 8, 9, 10, 11, 12, 13, 14, 15, 16, 17], [17])])
def aG.B6 : List Nat := [0, 1, 3, 7, 0, 16, 63, 127, 0, 256, 768, 2047, 4095, 0, 8192, 26368, 65535, 131071, 262143]
theorem aG.uV : gK .any (opsOf Tryd.f18 6) = aG.T6 := by kernel_rfl
theorem aG.qL : fM aG.T6.2 aG.B6 = true := by kernel_rfl
def aG.T8 : Bool × List (List Nat × List Nat) := (true, [([], []), ([0], [0]), ([1], [1]), ([2], [2]), ([], []), ([4], [4]), ([3, 5], [3, 5]), ([6], [6]), ([], []), ([8], [8]), ([7, 9], [7, 9]), ([10], [10]), ([], []), ([12], [12]), ([13], [13]), ([11, 14], [11, 14]), ([15], [15]), ([16, 14, 0, 1, 2, 3, 4, 5, 6, 7, 8, 9, 10, 11, 12, 13, 14, 15, 16], [16])])
def aG.B8 : List Nat := [0, 1, 3, 7, 0, 16, 63, 127, 0, 256, 1023, 2047, 0, 4096, 12288, 32767, 65535, 131071]
theorem aG.wD : gK .any (opsOf Tryd.f18 8) = aG.T8 := by kernel_rfl
theorem aG.tH : fM aG.T8.2 aG.B8 = true := by kernel_rfl
set_option maxHeartbeats 8000000 in
set_option maxRecDepth 100000 in
theorem aG.calls (k : Nat) (aJ : Int) (aD : ByteArray) (bL : ByteArray) (aR : ByteArray) (dH : Int) (dS : Int) (dX : Int) (dU : Int) (r : ByteArray) (w : World) (h : aG.f k aJ aD bL aR dH dS dX dU = some r) :
  Calls Tryd.prog 18 #[.agg #[.int .i64 aJ, .string aD, .string bL, .string aR, .int .u32 dH, .int .u32 dS, .int .i64 dX, .int .i64 dU]] w fun e w' => e = .returned (.string r) ∧ Below w.heap.size w w' := by
 have hu42 := Tryd.underlying42
 have hu40 := Tryd.underlying40
 have HB := af.mk (Below.refl w.heap.size w)
 have H : (if aJ = 1 then (if 5 + aD.size ≤ 9223372036854775807 then (if ((⟨#[112, 114, 111, 98, 32]⟩ : ByteArray) ++ aD).size + 1 ≤ 9223372036854775807 then (if (((⟨#[112, 114, 111, 98, 32]⟩ : ByteArray) ++ aD) ++ (⟨#[32]⟩ : ByteArray)).size + aR.size ≤ 9223372036854775807 then (if ((((⟨#[112, 114, 111, 98, 32]⟩ : ByteArray) ++ aD) ++ (⟨#[32]⟩ : ByteArray)) ++ aR).size + 1 ≤ 9223372036854775807 then ((bN.f k dH).bind fun aQ => (if (((((⟨#[112, 114, 111, 98, 32]⟩ : ByteArray) ++ aD) ++ (⟨#[32]⟩ : ByteArray)) ++ aR) ++ (⟨#[32]⟩ : ByteArray)).size + aQ.size ≤ 9223372036854775807 then (if ((((((⟨#[112, 114, 111, 98, 32]⟩ : ByteArray) ++ aD) ++ (⟨#[32]⟩ : ByteArray)) ++ aR) ++ (⟨#[32]⟩ : ByteArray)) ++ aQ).size + 1 ≤ 9223372036854775807 then (some (((((((⟨#[112, 114, 111, 98, 32]⟩ : ByteArray) ++ aD) ++ (⟨#[32]⟩ : ByteArray)) ++ aR) ++ (⟨#[32]⟩ : ByteArray)) ++ aQ) ++ (⟨#[59]⟩ : ByteArray))) else (none)) else (none))) else (none)) else (none)) else (none)) else (none)) else (if aJ = 2 then (if 5 + aD.size ≤ 9223372036854775807 then (if ((⟨#[104, 111, 112, 115, 32]⟩ : ByteArray) ++ aD).size + 1 ≤ 9223372036854775807 then (if (((⟨#[104, 111, 112, 115, 32]⟩ : ByteArray) ++ aD) ++ (⟨#[32]⟩ : ByteArray)).size + aR.size ≤ 9223372036854775807 then (if ((((⟨#[104, 111, 112, 115, 32]⟩ : ByteArray) ++ aD) ++ (⟨#[32]⟩ : ByteArray)) ++ aR).size + 1 ≤ 9223372036854775807 then ((bN.f k dH).bind fun bu => (if (((((⟨#[104, 111, 112, 115, 32]⟩ : ByteArray) ++ aD) ++ (⟨#[32]⟩ : ByteArray)) ++ aR) ++ (⟨#[32]⟩ : ByteArray)).size + bu.size ≤ 9223372036854775807 then (if ((((((⟨#[104, 111, 112, 115, 32]⟩ : ByteArray) ++ aD) ++ (⟨#[32]⟩ : ByteArray)) ++ aR) ++ (⟨#[32]⟩ : ByteArray)) ++ bu).size + 1 ≤ 9223372036854775807 then (some (((((((⟨#[104, 111, 112, 115, 32]⟩ : ByteArray) ++ aD) ++ (⟨#[32]⟩ : ByteArray)) ++ aR) ++ (⟨#[32]⟩ : ByteArray)) ++ bu) ++ (⟨#[59]⟩ : ByteArray))) else (none)) else (none))) else (none)) else (none)) else (none)) else (none)) else (if aJ = 3 then (if 7 + aD.size ≤ 9223372036854775807 then (if ((⟨#[119, 105, 116, 104, 105, 110, 32]⟩ : ByteArray) ++ aD).size + 1 ≤ 9223372036854775807 then (if (((⟨#[119, 105, 116, 104, 105, 110, 32]⟩ : ByteArray) ++ aD) ++ (⟨#[32]⟩ : ByteArray)).size + aR.size ≤ 9223372036854775807 then (if ((((⟨#[119, 105, 116, 104, 105, 110, 32]⟩ : ByteArray) ++ aD) ++ (⟨#[32]⟩ : ByteArray)) ++ aR).size + 1 ≤ 9223372036854775807 then ((bN.f k dH).bind fun bf => (if (((((⟨#[119, 105, 116, 104, 105, 110, 32]⟩ : ByteArray) ++ aD) ++ (⟨#[32]⟩ : ByteArray)) ++ aR) ++ (⟨#[32]⟩ : ByteArray)).size + bf.size ≤ 9223372036854775807 then (if ((((((⟨#[119, 105, 116, 104, 105, 110, 32]⟩ : ByteArray) ++ aD) ++ (⟨#[32]⟩ : ByteArray)) ++ aR) ++ (⟨#[32]⟩ : ByteArray)) ++ bf).size + 1 ≤ 9223372036854775807 then ((aK.f k dU).bind fun t105 => (if (((((((⟨#[119, 105, 116, 104, 105, 110, 32]⟩ : ByteArray) ++ aD) ++ (⟨#[32]⟩ : ByteArray)) ++ aR) ++ (⟨#[32]⟩ : ByteArray)) ++ bf) ++ (⟨#[32]⟩ : ByteArray)).size + t105.size ≤ 9223372036854775807 then (if ((((((((⟨#[119, 105, 116, 104, 105, 110, 32]⟩ : ByteArray) ++ aD) ++ (⟨#[32]⟩ : ByteArray)) ++ aR) ++ (⟨#[32]⟩ : ByteArray)) ++ bf) ++ (⟨#[32]⟩ : ByteArray)) ++ t105).size + 1 ≤ 9223372036854775807 then (some (((((((((⟨#[119, 105, 116, 104, 105, 110, 32]⟩ : ByteArray) ++ aD) ++ (⟨#[32]⟩ : ByteArray)) ++ aR) ++ (⟨#[32]⟩ : ByteArray)) ++ bf) ++ (⟨#[32]⟩ : ByteArray)) ++ t105) ++ (⟨#[59]⟩ : ByteArray))) else (none)) else (none))) else (none)) else (none))) else (none)) else (none)) else (none)) else (none)) else (if aJ = 4 then (if 8 + aD.size ≤ 9223372036854775807 then (if ((⟨#[99, 111, 109, 112, 97, 114, 101, 32]⟩ : ByteArray) ++ aD).size + 1 ≤ 9223372036854775807 then (if (((⟨#[99, 111, 109, 112, 97, 114, 101, 32]⟩ : ByteArray) ++ aD) ++ (⟨#[32]⟩ : ByteArray)).size + bL.size ≤ 9223372036854775807 then (if ((((⟨#[99, 111, 109, 112, 97, 114, 101, 32]⟩ : ByteArray) ++ aD) ++ (⟨#[32]⟩ : ByteArray)) ++ bL).size + 1 ≤ 9223372036854775807 then (if (((((⟨#[99, 111, 109, 112, 97, 114, 101, 32]⟩ : ByteArray) ++ aD) ++ (⟨#[32]⟩ : ByteArray)) ++ bL) ++ (⟨#[32]⟩ : ByteArray)).size + aR.size ≤ 9223372036854775807 then (if ((((((⟨#[99, 111, 109, 112, 97, 114, 101, 32]⟩ : ByteArray) ++ aD) ++ (⟨#[32]⟩ : ByteArray)) ++ bL) ++ (⟨#[32]⟩ : ByteArray)) ++ aR).size + 1 ≤ 9223372036854775807 then ((dh.f k dS dX).bind fun aX => (if (((((((⟨#[99, 111, 109, 112, 97, 114, 101, 32]⟩ : ByteArray) ++ aD) ++ (⟨#[32]⟩ : ByteArray)) ++ bL) ++ (⟨#[32]⟩ : ByteArray)) ++ aR) ++ (⟨#[32]⟩ : ByteArray)).size + aX.size ≤ 9223372036854775807 then (if ((((((((⟨#[99, 111, 109, 112, 97, 114, 101, 32]⟩ : ByteArray) ++ aD) ++ (⟨#[32]⟩ : ByteArray)) ++ bL) ++ (⟨#[32]⟩ : ByteArray)) ++ aR) ++ (⟨#[32]⟩ : ByteArray)) ++ aX).size + 1 ≤ 9223372036854775807 then (some (((((((((⟨#[99, 111, 109, 112, 97, 114, 101, 32]⟩ : ByteArray) ++ aD) ++ (⟨#[32]⟩ : ByteArray)) ++ bL) ++ (⟨#[32]⟩ : ByteArray)) ++ aR) ++ (⟨#[32]⟩ : ByteArray)) ++ aX) ++ (⟨#[59]⟩ : ByteArray))) else (none)) else (none))) else (none)) else (none)) else (none)) else (none)) else (none)) else (none)) else (some (⟨#[]⟩ : ByteArray)))))) = some r := h
 clear h
 by_cases c2 : aJ = 1
 ·rw [if_pos c2] at H
  have jr : (aJ == 1) = true := beq_iff_eq.mpr c2
  have nG : (aJ != 1) = false := bne_eq_false_iff_eq.mpr c2
  clear c2
  by_cases c3 : 5 + aD.size ≤ 9223372036854775807
  ·rw [if_pos c3] at H
   have gG := eq_true c3
   have gY : decide (5 + aD.size ≤ 9223372036854775807) = true := decide_eq_true c3
   try have ww : (9223372036854775807 < 5 + aD.size) = False := eq_false (Nat.not_lt.2 c3)
   by_cases c4 : ((⟨#[112, 114, 111, 98, 32]⟩ : ByteArray) ++ aD).size + 1 ≤ 9223372036854775807
   ·rw [if_pos c4] at H
    have ic := eq_true c4
    have iA : decide (((⟨#[112, 114, 111, 98, 32]⟩ : ByteArray) ++ aD).size + 1 ≤ 9223372036854775807) = true := decide_eq_true c4
    try have xD : (9223372036854775807 < ((⟨#[112, 114, 111, 98, 32]⟩ : ByteArray) ++ aD).size + 1) = False := eq_false (Nat.not_lt.2 c4)
    (try (have Bq : (9223372036854775807 < 5 + aD.size + 1) = False := eq_false (Nat.not_lt.2 (by have h_ := iA; simp only [ByteArray.size_append, decide_eq_true_eq] at h_; first | exact h_ | (simp at h_; omega)))))
    by_cases c5 : (((⟨#[112, 114, 111, 98, 32]⟩ : ByteArray) ++ aD) ++ (⟨#[32]⟩ : ByteArray)).size + aR.size ≤ 9223372036854775807
    ·rw [if_pos c5] at H
     have iL := eq_true c5
     have kC : decide ((((⟨#[112, 114, 111, 98, 32]⟩ : ByteArray) ++ aD) ++ (⟨#[32]⟩ : ByteArray)).size + aR.size ≤ 9223372036854775807) = true := decide_eq_true c5
     try have p9 : (9223372036854775807 < (((⟨#[112, 114, 111, 98, 32]⟩ : ByteArray) ++ aD) ++ (⟨#[32]⟩ : ByteArray)).size + aR.size) = False := eq_false (Nat.not_lt.2 c5)
     (try (have yX : (9223372036854775807 < 5 + aD.size + 1 + aR.size) = False := eq_false (Nat.not_lt.2 (by have h_ := kC; simp only [ByteArray.size_append, decide_eq_true_eq] at h_; first | exact h_ | (simp at h_; omega)))))
     by_cases c6 : ((((⟨#[112, 114, 111, 98, 32]⟩ : ByteArray) ++ aD) ++ (⟨#[32]⟩ : ByteArray)) ++ aR).size + 1 ≤ 9223372036854775807
     ·rw [if_pos c6] at H
      have lT := eq_true c6
      have tu : decide (((((⟨#[112, 114, 111, 98, 32]⟩ : ByteArray) ++ aD) ++ (⟨#[32]⟩ : ByteArray)) ++ aR).size + 1 ≤ 9223372036854775807) = true := decide_eq_true c6
      try have wy : (9223372036854775807 < ((((⟨#[112, 114, 111, 98, 32]⟩ : ByteArray) ++ aD) ++ (⟨#[32]⟩ : ByteArray)) ++ aR).size + 1) = False := eq_false (Nat.not_lt.2 c6)
      (try (have yY : (9223372036854775807 < 5 + aD.size + 1 + aR.size + 1) = False := eq_false (Nat.not_lt.2 (by have h_ := tu; simp only [ByteArray.size_append, decide_eq_true_eq] at h_; first | exact h_ | (simp at h_; omega)))))
      replace H := Option.bind_eq_some_iff.mp H
      obtain ⟨aQ, A70, H⟩ := H
      replace H : (if (((((⟨#[112, 114, 111, 98, 32]⟩ : ByteArray) ++ aD) ++ (⟨#[32]⟩ : ByteArray)) ++ aR) ++ (⟨#[32]⟩ : ByteArray)).size + aQ.size ≤ 9223372036854775807 then (if ((((((⟨#[112, 114, 111, 98, 32]⟩ : ByteArray) ++ aD) ++ (⟨#[32]⟩ : ByteArray)) ++ aR) ++ (⟨#[32]⟩ : ByteArray)) ++ aQ).size + 1 ≤ 9223372036854775807 then (some (((((((⟨#[112, 114, 111, 98, 32]⟩ : ByteArray) ++ aD) ++ (⟨#[32]⟩ : ByteArray)) ++ aR) ++ (⟨#[32]⟩ : ByteArray)) ++ aQ) ++ (⟨#[59]⟩ : ByteArray))) else (none)) else (none)) = some r := H
      have A7 := af.mk A70
      clear A70
      by_cases c8 : (((((⟨#[112, 114, 111, 98, 32]⟩ : ByteArray) ++ aD) ++ (⟨#[32]⟩ : ByteArray)) ++ aR) ++ (⟨#[32]⟩ : ByteArray)).size + aQ.size ≤ 9223372036854775807
      ·rw [if_pos c8] at H
       have jM := eq_true c8
       have qc : decide ((((((⟨#[112, 114, 111, 98, 32]⟩ : ByteArray) ++ aD) ++ (⟨#[32]⟩ : ByteArray)) ++ aR) ++ (⟨#[32]⟩ : ByteArray)).size + aQ.size ≤ 9223372036854775807) = true := decide_eq_true c8
       try have yZ : (9223372036854775807 < (((((⟨#[112, 114, 111, 98, 32]⟩ : ByteArray) ++ aD) ++ (⟨#[32]⟩ : ByteArray)) ++ aR) ++ (⟨#[32]⟩ : ByteArray)).size + aQ.size) = False := eq_false (Nat.not_lt.2 c8)
       (try (have y7 : (9223372036854775807 < 5 + aD.size + 1 + aR.size + 1 + aQ.size) = False := eq_false (Nat.not_lt.2 (by have h_ := qc; simp only [ByteArray.size_append, decide_eq_true_eq] at h_; first | exact h_ | (simp at h_; omega)))))
       by_cases c9 : ((((((⟨#[112, 114, 111, 98, 32]⟩ : ByteArray) ++ aD) ++ (⟨#[32]⟩ : ByteArray)) ++ aR) ++ (⟨#[32]⟩ : ByteArray)) ++ aQ).size + 1 ≤ 9223372036854775807
       ·rw [if_pos c9] at H
        have kT := eq_true c9
        have tC : decide (((((((⟨#[112, 114, 111, 98, 32]⟩ : ByteArray) ++ aD) ++ (⟨#[32]⟩ : ByteArray)) ++ aR) ++ (⟨#[32]⟩ : ByteArray)) ++ aQ).size + 1 ≤ 9223372036854775807) = true := decide_eq_true c9
        try have y8 : (9223372036854775807 < ((((((⟨#[112, 114, 111, 98, 32]⟩ : ByteArray) ++ aD) ++ (⟨#[32]⟩ : ByteArray)) ++ aR) ++ (⟨#[32]⟩ : ByteArray)) ++ aQ).size + 1) = False := eq_false (Nat.not_lt.2 c9)
        (try (have y9 : (9223372036854775807 < 5 + aD.size + 1 + aR.size + 1 + aQ.size + 1) = False := eq_false (Nat.not_lt.2 (by have h_ := tC; simp only [ByteArray.size_append, decide_eq_true_eq] at h_; first | exact h_ | (simp at h_; omega)))))
        obtain rfl := Option.some.inj H
        go_enter Tryd.func18, Tryd.ntmps18
        try go_wp2_with (first | ((with_reducible refine aU (N := 1) rfl ?_); refine bz ?hg (N := 1) ?hd (cs := #[.int .i64 aJ, .string aD, .string bL, .string aR, .int .u32 dH, .int .u32 dS, .int .i64 dX, .int .i64 dU]) (t := 42) ?hr ?_; (case hd => rfl); (case hg => rfl); (case hr => first | (go_simp; done) | (go_simp; rfl)); intro ax hg w10 hbox hb; have ag := af.mk (hbox); have GW101 := qge HB hg; have dE := qge HB hg; replace HB := af.mk (ai (qw HB) hb); clear hb hbox hg; have hcz11_0 : w10.cell? ⟨ax, 0, none⟩ = some (.int .i64 aJ) := (ae ag.out 0).trans rfl; have hcz11_1 : w10.cell? ⟨ax, 1, none⟩ = some (.string aD) := (ae ag.out 1).trans rfl; have hcz11_2 : w10.cell? ⟨ax, 2, none⟩ = some (.string bL) := (ae ag.out 2).trans rfl; have hcz11_3 : w10.cell? ⟨ax, 3, none⟩ = some (.string aR) := (ae ag.out 3).trans rfl; have hcz11_4 : w10.cell? ⟨ax, 4, none⟩ = some (.int .u32 dH) := (ae ag.out 4).trans rfl; have hcz11_5 : w10.cell? ⟨ax, 5, none⟩ = some (.int .u32 dS) := (ae ag.out 5).trans rfl; have hcz11_6 : w10.cell? ⟨ax, 6, none⟩ = some (.int .i64 dX) := (ae ag.out 6).trans rfl; have hcz11_7 : w10.cell? ⟨ax, 7, none⟩ = some (.int .i64 dU) := (ae ag.out 7).trans rfl; have hfz11_0 := ah ag.out 0; have hfz11_1 := ah ag.out 1; have hfz11_2 := ah ag.out 2; have hfz11_3 := ah ag.out 3; have hfz11_4 := ah ag.out 4; have hfz11_5 := ah ag.out 5; have hfz11_6 := ah ag.out 6; have hfz11_7 := ah ag.out 7))
        replace ag := af.mk (dC ag.out)
        replace HB := af.mk (av HB.out)
        refine gm (n := 14) (S := fun w' => w'.cell? ⟨ax, 0, none⟩ = some (.int .i64 aJ) ∧ w'.cell? ⟨ax, 1, none⟩ = some (.string aD) ∧ w'.cell? ⟨ax, 2, none⟩ = some (.string bL) ∧ w'.cell? ⟨ax, 3, none⟩ = some (.string aR) ∧ w'.cell? ⟨ax, 4, none⟩ = some (.int .u32 dH) ∧ w'.cell? ⟨ax, 5, none⟩ = some (.int .u32 dS) ∧ w'.cell? ⟨ax, 6, none⟩ = some (.int .i64 dX) ∧ w'.cell? ⟨ax, 7, none⟩ = some (.int .i64 dU)) (ds := []) #[bF,bF,bF,bF,bF,bF,bF,bF,bF,bF,bF,bF,bF,bF] (by kernel_rfl) rfl rfl ⟨(ae ag.out 0).trans rfl, (ae ag.out 1).trans rfl, (ae ag.out 2).trans rfl, (ae ag.out 3).trans rfl, (ae ag.out 4).trans rfl, (ae ag.out 5).trans rfl, (ae ag.out 6).trans rfl, (ae ag.out 7).trans rfl⟩ (fun hHeld => ?_); refine eH aG.zl aG.xB (fun HT_ HW_ => ?_)
        generalize w10.drew = w12 at ag HB hHeld ⊢
        refine aY 0 (some 6) HT_ ?_
        refine aY 4 (some 10) HT_ ?_
        refine aY 8 (some 14) HT_ ?_
        refine d9 1 (some 7) HT_ HW_ hHeld ?_
        refine aY 2 (some 8) HT_ ?_
        refine aY 3 (some 9) HT_ ?_
        refine d9 5 (some 11) HT_ HW_ hHeld ?_
        refine aY 6 (some 12) HT_ ?_
        refine aY 7 (some 13) HT_ ?_
        refine d9 9 (some 15) HT_ HW_ hHeld ?_
        refine gF 10 (some 16) HT_ (fun K hK => ?_)
        refine fe Tryd.func42 #[.int .u32 dH] ?_
        with_reducible refine (bN.calls k dH aQ _ A7.out).mono ?_
        rintro e w13 ⟨rfl, hb⟩
        refine ⟨_, rfl, ?_⟩
        replace ag := qbb ag hb
        replace HB := af.mk (ai (qw HB) hb)
        (try clear hb)
        (try clear hb2)
        (try clear hk)
        (try clear hi)
        refine hK.out _ _ ⟨(ae ag.out 0).trans rfl, (ae ag.out 1).trans rfl, (ae ag.out 2).trans rfl, (ae ag.out 3).trans rfl, (ae ag.out 4).trans rfl, (ae ag.out 5).trans rfl, (ae ag.out 6).trans rfl, (ae ag.out 7).trans rfl⟩ (fun hHeld => ?_)
        clear hK K
        refine eX (some 16) ?_
        refine aY 11 (some 17) HT_ ?_
        refine aY 12 (some 18) HT_ ?_
        refine aY 13 (some 2) HT_ ?_
        refine iq HT_ ?_
        try go_wp2
        go_ret
        exact ⟨by first | rfl | (simp [errW_none, errW_some] <;> rfl) | (simp [*, errW_none, errW_some] <;> rfl), by repeat (first | (with_reducible first | exact HB.out | apply aA | apply aj | apply av | refine bi ?_ dE.out) | exact HB.out)⟩
       ·rw [if_neg c9] at H
        exact absurd H (by simp)
      ·rw [if_neg c8] at H
       exact absurd H (by simp)
     ·rw [if_neg c6] at H
      exact absurd H (by simp)
    ·rw [if_neg c5] at H
     exact absurd H (by simp)
   ·rw [if_neg c4] at H
    exact absurd H (by simp)
  ·rw [if_neg c3] at H
   exact absurd H (by simp)
 ·rw [if_neg c2] at H
  have jr : (aJ == 1) = false := beq_eq_false_iff_ne.mpr c2
  have nG : (aJ != 1) = true := bne_iff_ne.mpr c2
  by_cases c14 : aJ = 2
  ·rw [if_pos c14] at H
   have nP : (aJ == 2) = true := beq_iff_eq.mpr c14
   have mY : (aJ != 2) = false := bne_eq_false_iff_eq.mpr c14
   clear c14
   by_cases c15 : 5 + aD.size ≤ 9223372036854775807
   ·rw [if_pos c15] at H
    have xE := eq_true c15
    have zM : decide (5 + aD.size ≤ 9223372036854775807) = true := decide_eq_true c15
    try have zN : (9223372036854775807 < 5 + aD.size) = False := eq_false (Nat.not_lt.2 c15)
    by_cases c16 : ((⟨#[104, 111, 112, 115, 32]⟩ : ByteArray) ++ aD).size + 1 ≤ 9223372036854775807
    ·rw [if_pos c16] at H
     have vH := eq_true c16
     have vI : decide (((⟨#[104, 111, 112, 115, 32]⟩ : ByteArray) ++ aD).size + 1 ≤ 9223372036854775807) = true := decide_eq_true c16
     try have xm : (9223372036854775807 < ((⟨#[104, 111, 112, 115, 32]⟩ : ByteArray) ++ aD).size + 1) = False := eq_false (Nat.not_lt.2 c16)
     (try (have zO : (9223372036854775807 < 5 + aD.size + 1) = False := eq_false (Nat.not_lt.2 (by have h_ := vI; simp only [ByteArray.size_append, decide_eq_true_eq] at h_; first | exact h_ | (simp at h_; omega)))))
     by_cases c17 : (((⟨#[104, 111, 112, 115, 32]⟩ : ByteArray) ++ aD) ++ (⟨#[32]⟩ : ByteArray)).size + aR.size ≤ 9223372036854775807
     ·rw [if_pos c17] at H
      have zP := eq_true c17
      have xG : decide ((((⟨#[104, 111, 112, 115, 32]⟩ : ByteArray) ++ aD) ++ (⟨#[32]⟩ : ByteArray)).size + aR.size ≤ 9223372036854775807) = true := decide_eq_true c17
      try have zQ : (9223372036854775807 < (((⟨#[104, 111, 112, 115, 32]⟩ : ByteArray) ++ aD) ++ (⟨#[32]⟩ : ByteArray)).size + aR.size) = False := eq_false (Nat.not_lt.2 c17)
      (try (have zR : (9223372036854775807 < 5 + aD.size + 1 + aR.size) = False := eq_false (Nat.not_lt.2 (by have h_ := xG; simp only [ByteArray.size_append, decide_eq_true_eq] at h_; first | exact h_ | (simp at h_; omega)))))
      by_cases c18 : ((((⟨#[104, 111, 112, 115, 32]⟩ : ByteArray) ++ aD) ++ (⟨#[32]⟩ : ByteArray)) ++ aR).size + 1 ≤ 9223372036854775807
      ·rw [if_pos c18] at H
       have vM := eq_true c18
       have xH : decide (((((⟨#[104, 111, 112, 115, 32]⟩ : ByteArray) ++ aD) ++ (⟨#[32]⟩ : ByteArray)) ++ aR).size + 1 ≤ 9223372036854775807) = true := decide_eq_true c18
       try have zS : (9223372036854775807 < ((((⟨#[104, 111, 112, 115, 32]⟩ : ByteArray) ++ aD) ++ (⟨#[32]⟩ : ByteArray)) ++ aR).size + 1) = False := eq_false (Nat.not_lt.2 c18)
       (try (have zT : (9223372036854775807 < 5 + aD.size + 1 + aR.size + 1) = False := eq_false (Nat.not_lt.2 (by have h_ := xH; simp only [ByteArray.size_append, decide_eq_true_eq] at h_; first | exact h_ | (simp at h_; omega)))))
       replace H := Option.bind_eq_some_iff.mp H
       obtain ⟨bu, A190, H⟩ := H
       replace H : (if (((((⟨#[104, 111, 112, 115, 32]⟩ : ByteArray) ++ aD) ++ (⟨#[32]⟩ : ByteArray)) ++ aR) ++ (⟨#[32]⟩ : ByteArray)).size + bu.size ≤ 9223372036854775807 then (if ((((((⟨#[104, 111, 112, 115, 32]⟩ : ByteArray) ++ aD) ++ (⟨#[32]⟩ : ByteArray)) ++ aR) ++ (⟨#[32]⟩ : ByteArray)) ++ bu).size + 1 ≤ 9223372036854775807 then (some (((((((⟨#[104, 111, 112, 115, 32]⟩ : ByteArray) ++ aD) ++ (⟨#[32]⟩ : ByteArray)) ++ aR) ++ (⟨#[32]⟩ : ByteArray)) ++ bu) ++ (⟨#[59]⟩ : ByteArray))) else (none)) else (none)) = some r := H
       have A19 := af.mk A190
       clear A190
       by_cases c20 : (((((⟨#[104, 111, 112, 115, 32]⟩ : ByteArray) ++ aD) ++ (⟨#[32]⟩ : ByteArray)) ++ aR) ++ (⟨#[32]⟩ : ByteArray)).size + bu.size ≤ 9223372036854775807
       ·rw [if_pos c20] at H
        have zU := eq_true c20
        have xI : decide ((((((⟨#[104, 111, 112, 115, 32]⟩ : ByteArray) ++ aD) ++ (⟨#[32]⟩ : ByteArray)) ++ aR) ++ (⟨#[32]⟩ : ByteArray)).size + bu.size ≤ 9223372036854775807) = true := decide_eq_true c20
        try have zV : (9223372036854775807 < (((((⟨#[104, 111, 112, 115, 32]⟩ : ByteArray) ++ aD) ++ (⟨#[32]⟩ : ByteArray)) ++ aR) ++ (⟨#[32]⟩ : ByteArray)).size + bu.size) = False := eq_false (Nat.not_lt.2 c20)
        (try (have zW : (9223372036854775807 < 5 + aD.size + 1 + aR.size + 1 + bu.size) = False := eq_false (Nat.not_lt.2 (by have h_ := xI; simp only [ByteArray.size_append, decide_eq_true_eq] at h_; first | exact h_ | (simp at h_; omega)))))
        by_cases c21 : ((((((⟨#[104, 111, 112, 115, 32]⟩ : ByteArray) ++ aD) ++ (⟨#[32]⟩ : ByteArray)) ++ aR) ++ (⟨#[32]⟩ : ByteArray)) ++ bu).size + 1 ≤ 9223372036854775807
        ·rw [if_pos c21] at H
         have zX := eq_true c21
         have xJ : decide (((((((⟨#[104, 111, 112, 115, 32]⟩ : ByteArray) ++ aD) ++ (⟨#[32]⟩ : ByteArray)) ++ aR) ++ (⟨#[32]⟩ : ByteArray)) ++ bu).size + 1 ≤ 9223372036854775807) = true := decide_eq_true c21
         try have zY : (9223372036854775807 < ((((((⟨#[104, 111, 112, 115, 32]⟩ : ByteArray) ++ aD) ++ (⟨#[32]⟩ : ByteArray)) ++ aR) ++ (⟨#[32]⟩ : ByteArray)) ++ bu).size + 1) = False := eq_false (Nat.not_lt.2 c21)
         (try (have zZ : (9223372036854775807 < 5 + aD.size + 1 + aR.size + 1 + bu.size + 1) = False := eq_false (Nat.not_lt.2 (by have h_ := xJ; simp only [ByteArray.size_append, decide_eq_true_eq] at h_; first | exact h_ | (simp at h_; omega)))))
         obtain rfl := Option.some.inj H
         go_enter Tryd.func18, Tryd.ntmps18
         try go_wp2_with (first | ((with_reducible refine aU (N := 1) rfl ?_); refine bz ?hg (N := 1) ?hd (cs := #[.int .i64 aJ, .string aD, .string bL, .string aR, .int .u32 dH, .int .u32 dS, .int .i64 dX, .int .i64 dU]) (t := 42) ?hr ?_; (case hd => rfl); (case hg => rfl); (case hr => first | (go_simp; done) | (go_simp; rfl)); intro ax hg w22 hbox hb; have ag := af.mk (hbox); have GW101 := qge HB hg; have dE := qge HB hg; replace HB := af.mk (ai (qw HB) hb); clear hb hbox hg; have hcz23_0 : w22.cell? ⟨ax, 0, none⟩ = some (.int .i64 aJ) := (ae ag.out 0).trans rfl; have hcz23_1 : w22.cell? ⟨ax, 1, none⟩ = some (.string aD) := (ae ag.out 1).trans rfl; have hcz23_2 : w22.cell? ⟨ax, 2, none⟩ = some (.string bL) := (ae ag.out 2).trans rfl; have hcz23_3 : w22.cell? ⟨ax, 3, none⟩ = some (.string aR) := (ae ag.out 3).trans rfl; have hcz23_4 : w22.cell? ⟨ax, 4, none⟩ = some (.int .u32 dH) := (ae ag.out 4).trans rfl; have hcz23_5 : w22.cell? ⟨ax, 5, none⟩ = some (.int .u32 dS) := (ae ag.out 5).trans rfl; have hcz23_6 : w22.cell? ⟨ax, 6, none⟩ = some (.int .i64 dX) := (ae ag.out 6).trans rfl; have hcz23_7 : w22.cell? ⟨ax, 7, none⟩ = some (.int .i64 dU) := (ae ag.out 7).trans rfl; have hfz23_0 := ah ag.out 0; have hfz23_1 := ah ag.out 1; have hfz23_2 := ah ag.out 2; have hfz23_3 := ah ag.out 3; have hfz23_4 := ah ag.out 4; have hfz23_5 := ah ag.out 5; have hfz23_6 := ah ag.out 6; have hfz23_7 := ah ag.out 7))
         replace ag := af.mk (dC ag.out)
         replace HB := af.mk (av HB.out)
         refine gm (n := 14) (S := fun w' => w'.cell? ⟨ax, 0, none⟩ = some (.int .i64 aJ) ∧ w'.cell? ⟨ax, 1, none⟩ = some (.string aD) ∧ w'.cell? ⟨ax, 2, none⟩ = some (.string bL) ∧ w'.cell? ⟨ax, 3, none⟩ = some (.string aR) ∧ w'.cell? ⟨ax, 4, none⟩ = some (.int .u32 dH) ∧ w'.cell? ⟨ax, 5, none⟩ = some (.int .u32 dS) ∧ w'.cell? ⟨ax, 6, none⟩ = some (.int .i64 dX) ∧ w'.cell? ⟨ax, 7, none⟩ = some (.int .i64 dU)) (ds := []) #[bF,bF,bF,bF,bF,bF,bF,bF,bF,bF,bF,bF,bF,bF] (by kernel_rfl) rfl rfl ⟨(ae ag.out 0).trans rfl, (ae ag.out 1).trans rfl, (ae ag.out 2).trans rfl, (ae ag.out 3).trans rfl, (ae ag.out 4).trans rfl, (ae ag.out 5).trans rfl, (ae ag.out 6).trans rfl, (ae ag.out 7).trans rfl⟩ (fun hHeld => ?_); refine eH aG.zm aG.xC (fun HT_ HW_ => ?_)
         generalize w22.drew = w24 at ag HB hHeld ⊢
         refine aY 0 (some 22) HT_ ?_
         refine aY 4 (some 26) HT_ ?_
         refine aY 8 (some 30) HT_ ?_
         refine d9 1 (some 23) HT_ HW_ hHeld ?_
         refine aY 2 (some 24) HT_ ?_
         refine aY 3 (some 25) HT_ ?_
         refine d9 5 (some 27) HT_ HW_ hHeld ?_
         refine aY 6 (some 28) HT_ ?_
         refine aY 7 (some 29) HT_ ?_
         refine d9 9 (some 31) HT_ HW_ hHeld ?_
         refine gF 10 (some 32) HT_ (fun K hK => ?_)
         refine fe Tryd.func42 #[.int .u32 dH] ?_
         with_reducible refine (bN.calls k dH bu _ A19.out).mono ?_
         rintro e w25 ⟨rfl, hb⟩
         refine ⟨_, rfl, ?_⟩
         replace ag := qbb ag hb
         replace HB := af.mk (ai (qw HB) hb)
         (try clear hb)
         (try clear hb2)
         (try clear hk)
         (try clear hi)
         refine hK.out _ _ ⟨(ae ag.out 0).trans rfl, (ae ag.out 1).trans rfl, (ae ag.out 2).trans rfl, (ae ag.out 3).trans rfl, (ae ag.out 4).trans rfl, (ae ag.out 5).trans rfl, (ae ag.out 6).trans rfl, (ae ag.out 7).trans rfl⟩ (fun hHeld => ?_)
         clear hK K
         refine eX (some 32) ?_
         refine aY 11 (some 33) HT_ ?_
         refine aY 12 (some 34) HT_ ?_
         refine aY 13 (some 2) HT_ ?_
         refine iq HT_ ?_
         try go_wp2
         go_ret
         exact ⟨by first | rfl | (simp [errW_none, errW_some] <;> rfl) | (simp [*, errW_none, errW_some] <;> rfl), by repeat (first | (with_reducible first | exact HB.out | apply aA | apply aj | apply av | refine bi ?_ dE.out) | exact HB.out)⟩
        ·rw [if_neg c21] at H
         exact absurd H (by simp)
       ·rw [if_neg c20] at H
        exact absurd H (by simp)
      ·rw [if_neg c18] at H
       exact absurd H (by simp)
     ·rw [if_neg c17] at H
      exact absurd H (by simp)
    ·rw [if_neg c16] at H
     exact absurd H (by simp)
   ·rw [if_neg c15] at H
    exact absurd H (by simp)
  ·rw [if_neg c14] at H
   have nP : (aJ == 2) = false := beq_eq_false_iff_ne.mpr c14
   have mY : (aJ != 2) = true := bne_iff_ne.mpr c14
   by_cases c26 : aJ = 3
   ·rw [if_pos c26] at H
    have xK : (aJ == 3) = true := beq_iff_eq.mpr c26
    have xL : (aJ != 3) = false := bne_eq_false_iff_eq.mpr c26
    clear c26
    by_cases c27 : 7 + aD.size ≤ 9223372036854775807
    ·rw [if_pos c27] at H
     have z8 := eq_true c27
     have Aa : decide (7 + aD.size ≤ 9223372036854775807) = true := decide_eq_true c27
     try have Ab : (9223372036854775807 < 7 + aD.size) = False := eq_false (Nat.not_lt.2 c27)
     by_cases c28 : ((⟨#[119, 105, 116, 104, 105, 110, 32]⟩ : ByteArray) ++ aD).size + 1 ≤ 9223372036854775807
     ·rw [if_pos c28] at H
      have xu := eq_true c28
      have vJ : decide (((⟨#[119, 105, 116, 104, 105, 110, 32]⟩ : ByteArray) ++ aD).size + 1 ≤ 9223372036854775807) = true := decide_eq_true c28
      try have xw : (9223372036854775807 < ((⟨#[119, 105, 116, 104, 105, 110, 32]⟩ : ByteArray) ++ aD).size + 1) = False := eq_false (Nat.not_lt.2 c28)
      (try (have Ad : (9223372036854775807 < 7 + aD.size + 1) = False := eq_false (Nat.not_lt.2 (by have h_ := vJ; simp only [ByteArray.size_append, decide_eq_true_eq] at h_; first | exact h_ | (simp at h_; omega)))))
      by_cases c29 : (((⟨#[119, 105, 116, 104, 105, 110, 32]⟩ : ByteArray) ++ aD) ++ (⟨#[32]⟩ : ByteArray)).size + aR.size ≤ 9223372036854775807
      ·rw [if_pos c29] at H
       have vN := eq_true c29
       have tN : decide ((((⟨#[119, 105, 116, 104, 105, 110, 32]⟩ : ByteArray) ++ aD) ++ (⟨#[32]⟩ : ByteArray)).size + aR.size ≤ 9223372036854775807) = true := decide_eq_true c29
       try have Ae : (9223372036854775807 < (((⟨#[119, 105, 116, 104, 105, 110, 32]⟩ : ByteArray) ++ aD) ++ (⟨#[32]⟩ : ByteArray)).size + aR.size) = False := eq_false (Nat.not_lt.2 c29)
       (try (have Af : (9223372036854775807 < 7 + aD.size + 1 + aR.size) = False := eq_false (Nat.not_lt.2 (by have h_ := tN; simp only [ByteArray.size_append, decide_eq_true_eq] at h_; first | exact h_ | (simp at h_; omega)))))
       by_cases c30 : ((((⟨#[119, 105, 116, 104, 105, 110, 32]⟩ : ByteArray) ++ aD) ++ (⟨#[32]⟩ : ByteArray)) ++ aR).size + 1 ≤ 9223372036854775807
       ·rw [if_pos c30] at H
        have Ag := eq_true c30
        have xM : decide (((((⟨#[119, 105, 116, 104, 105, 110, 32]⟩ : ByteArray) ++ aD) ++ (⟨#[32]⟩ : ByteArray)) ++ aR).size + 1 ≤ 9223372036854775807) = true := decide_eq_true c30
        try have Ah : (9223372036854775807 < ((((⟨#[119, 105, 116, 104, 105, 110, 32]⟩ : ByteArray) ++ aD) ++ (⟨#[32]⟩ : ByteArray)) ++ aR).size + 1) = False := eq_false (Nat.not_lt.2 c30)
        (try (have Ai : (9223372036854775807 < 7 + aD.size + 1 + aR.size + 1) = False := eq_false (Nat.not_lt.2 (by have h_ := xM; simp only [ByteArray.size_append, decide_eq_true_eq] at h_; first | exact h_ | (simp at h_; omega)))))
        replace H := Option.bind_eq_some_iff.mp H
        obtain ⟨bf, A310, H⟩ := H
        replace H : (if (((((⟨#[119, 105, 116, 104, 105, 110, 32]⟩ : ByteArray) ++ aD) ++ (⟨#[32]⟩ : ByteArray)) ++ aR) ++ (⟨#[32]⟩ : ByteArray)).size + bf.size ≤ 9223372036854775807 then (if ((((((⟨#[119, 105, 116, 104, 105, 110, 32]⟩ : ByteArray) ++ aD) ++ (⟨#[32]⟩ : ByteArray)) ++ aR) ++ (⟨#[32]⟩ : ByteArray)) ++ bf).size + 1 ≤ 9223372036854775807 then ((aK.f k dU).bind fun t105 => (if (((((((⟨#[119, 105, 116, 104, 105, 110, 32]⟩ : ByteArray) ++ aD) ++ (⟨#[32]⟩ : ByteArray)) ++ aR) ++ (⟨#[32]⟩ : ByteArray)) ++ bf) ++ (⟨#[32]⟩ : ByteArray)).size + t105.size ≤ 9223372036854775807 then (if ((((((((⟨#[119, 105, 116, 104, 105, 110, 32]⟩ : ByteArray) ++ aD) ++ (⟨#[32]⟩ : ByteArray)) ++ aR) ++ (⟨#[32]⟩ : ByteArray)) ++ bf) ++ (⟨#[32]⟩ : ByteArray)) ++ t105).size + 1 ≤ 9223372036854775807 then (some (((((((((⟨#[119, 105, 116, 104, 105, 110, 32]⟩ : ByteArray) ++ aD) ++ (⟨#[32]⟩ : ByteArray)) ++ aR) ++ (⟨#[32]⟩ : ByteArray)) ++ bf) ++ (⟨#[32]⟩ : ByteArray)) ++ t105) ++ (⟨#[59]⟩ : ByteArray))) else (none)) else (none))) else (none)) else (none)) = some r := H
        have A31 := af.mk A310
        clear A310
        by_cases c32 : (((((⟨#[119, 105, 116, 104, 105, 110, 32]⟩ : ByteArray) ++ aD) ++ (⟨#[32]⟩ : ByteArray)) ++ aR) ++ (⟨#[32]⟩ : ByteArray)).size + bf.size ≤ 9223372036854775807
        ·rw [if_pos c32] at H
         have Aj := eq_true c32
         have xN : decide ((((((⟨#[119, 105, 116, 104, 105, 110, 32]⟩ : ByteArray) ++ aD) ++ (⟨#[32]⟩ : ByteArray)) ++ aR) ++ (⟨#[32]⟩ : ByteArray)).size + bf.size ≤ 9223372036854775807) = true := decide_eq_true c32
         try have Ak : (9223372036854775807 < (((((⟨#[119, 105, 116, 104, 105, 110, 32]⟩ : ByteArray) ++ aD) ++ (⟨#[32]⟩ : ByteArray)) ++ aR) ++ (⟨#[32]⟩ : ByteArray)).size + bf.size) = False := eq_false (Nat.not_lt.2 c32)
         (try (have Al : (9223372036854775807 < 7 + aD.size + 1 + aR.size + 1 + bf.size) = False := eq_false (Nat.not_lt.2 (by have h_ := xN; simp only [ByteArray.size_append, decide_eq_true_eq] at h_; first | exact h_ | (simp at h_; omega)))))
         by_cases c33 : ((((((⟨#[119, 105, 116, 104, 105, 110, 32]⟩ : ByteArray) ++ aD) ++ (⟨#[32]⟩ : ByteArray)) ++ aR) ++ (⟨#[32]⟩ : ByteArray)) ++ bf).size + 1 ≤ 9223372036854775807
         ·rw [if_pos c33] at H
          have Am := eq_true c33
          have xO : decide (((((((⟨#[119, 105, 116, 104, 105, 110, 32]⟩ : ByteArray) ++ aD) ++ (⟨#[32]⟩ : ByteArray)) ++ aR) ++ (⟨#[32]⟩ : ByteArray)) ++ bf).size + 1 ≤ 9223372036854775807) = true := decide_eq_true c33
          try have Ao : (9223372036854775807 < ((((((⟨#[119, 105, 116, 104, 105, 110, 32]⟩ : ByteArray) ++ aD) ++ (⟨#[32]⟩ : ByteArray)) ++ aR) ++ (⟨#[32]⟩ : ByteArray)) ++ bf).size + 1) = False := eq_false (Nat.not_lt.2 c33)
          (try (have Ap : (9223372036854775807 < 7 + aD.size + 1 + aR.size + 1 + bf.size + 1) = False := eq_false (Nat.not_lt.2 (by have h_ := xO; simp only [ByteArray.size_append, decide_eq_true_eq] at h_; first | exact h_ | (simp at h_; omega)))))
          replace H := Option.bind_eq_some_iff.mp H
          obtain ⟨t105, A340, H⟩ := H
          replace H : (if (((((((⟨#[119, 105, 116, 104, 105, 110, 32]⟩ : ByteArray) ++ aD) ++ (⟨#[32]⟩ : ByteArray)) ++ aR) ++ (⟨#[32]⟩ : ByteArray)) ++ bf) ++ (⟨#[32]⟩ : ByteArray)).size + t105.size ≤ 9223372036854775807 then (if ((((((((⟨#[119, 105, 116, 104, 105, 110, 32]⟩ : ByteArray) ++ aD) ++ (⟨#[32]⟩ : ByteArray)) ++ aR) ++ (⟨#[32]⟩ : ByteArray)) ++ bf) ++ (⟨#[32]⟩ : ByteArray)) ++ t105).size + 1 ≤ 9223372036854775807 then (some (((((((((⟨#[119, 105, 116, 104, 105, 110, 32]⟩ : ByteArray) ++ aD) ++ (⟨#[32]⟩ : ByteArray)) ++ aR) ++ (⟨#[32]⟩ : ByteArray)) ++ bf) ++ (⟨#[32]⟩ : ByteArray)) ++ t105) ++ (⟨#[59]⟩ : ByteArray))) else (none)) else (none)) = some r := H
          have A34 := af.mk A340
          clear A340
          by_cases c35 : (((((((⟨#[119, 105, 116, 104, 105, 110, 32]⟩ : ByteArray) ++ aD) ++ (⟨#[32]⟩ : ByteArray)) ++ aR) ++ (⟨#[32]⟩ : ByteArray)) ++ bf) ++ (⟨#[32]⟩ : ByteArray)).size + t105.size ≤ 9223372036854775807
          ·rw [if_pos c35] at H
           have Aq := eq_true c35
           have xP : decide ((((((((⟨#[119, 105, 116, 104, 105, 110, 32]⟩ : ByteArray) ++ aD) ++ (⟨#[32]⟩ : ByteArray)) ++ aR) ++ (⟨#[32]⟩ : ByteArray)) ++ bf) ++ (⟨#[32]⟩ : ByteArray)).size + t105.size ≤ 9223372036854775807) = true := decide_eq_true c35
           try have Ar : (9223372036854775807 < (((((((⟨#[119, 105, 116, 104, 105, 110, 32]⟩ : ByteArray) ++ aD) ++ (⟨#[32]⟩ : ByteArray)) ++ aR) ++ (⟨#[32]⟩ : ByteArray)) ++ bf) ++ (⟨#[32]⟩ : ByteArray)).size + t105.size) = False := eq_false (Nat.not_lt.2 c35)
           (try (have Au : (9223372036854775807 < 7 + aD.size + 1 + aR.size + 1 + bf.size + 1 + t105.size) = False := eq_false (Nat.not_lt.2 (by have h_ := xP; simp only [ByteArray.size_append, decide_eq_true_eq] at h_; first | exact h_ | (simp at h_; omega)))))
           by_cases c36 : ((((((((⟨#[119, 105, 116, 104, 105, 110, 32]⟩ : ByteArray) ++ aD) ++ (⟨#[32]⟩ : ByteArray)) ++ aR) ++ (⟨#[32]⟩ : ByteArray)) ++ bf) ++ (⟨#[32]⟩ : ByteArray)) ++ t105).size + 1 ≤ 9223372036854775807
           ·rw [if_pos c36] at H
            have Av := eq_true c36
            have xQ : decide (((((((((⟨#[119, 105, 116, 104, 105, 110, 32]⟩ : ByteArray) ++ aD) ++ (⟨#[32]⟩ : ByteArray)) ++ aR) ++ (⟨#[32]⟩ : ByteArray)) ++ bf) ++ (⟨#[32]⟩ : ByteArray)) ++ t105).size + 1 ≤ 9223372036854775807) = true := decide_eq_true c36
            try have Aw : (9223372036854775807 < ((((((((⟨#[119, 105, 116, 104, 105, 110, 32]⟩ : ByteArray) ++ aD) ++ (⟨#[32]⟩ : ByteArray)) ++ aR) ++ (⟨#[32]⟩ : ByteArray)) ++ bf) ++ (⟨#[32]⟩ : ByteArray)) ++ t105).size + 1) = False := eq_false (Nat.not_lt.2 c36)
            (try (have Ay : (9223372036854775807 < 7 + aD.size + 1 + aR.size + 1 + bf.size + 1 + t105.size + 1) = False := eq_false (Nat.not_lt.2 (by have h_ := xQ; simp only [ByteArray.size_append, decide_eq_true_eq] at h_; first | exact h_ | (simp at h_; omega)))))
            obtain rfl := Option.some.inj H
            go_enter Tryd.func18, Tryd.ntmps18
            try go_wp2_with (first | ((with_reducible refine aU (N := 1) rfl ?_); refine bz ?hg (N := 1) ?hd (cs := #[.int .i64 aJ, .string aD, .string bL, .string aR, .int .u32 dH, .int .u32 dS, .int .i64 dX, .int .i64 dU]) (t := 42) ?hr ?_; (case hd => rfl); (case hg => rfl); (case hr => first | (go_simp; done) | (go_simp; rfl)); intro ax hg w37 hbox hb; have ag := af.mk (hbox); have GW101 := qge HB hg; have dE := qge HB hg; replace HB := af.mk (ai (qw HB) hb); clear hb hbox hg; have hcz38_0 : w37.cell? ⟨ax, 0, none⟩ = some (.int .i64 aJ) := (ae ag.out 0).trans rfl; have hcz38_1 : w37.cell? ⟨ax, 1, none⟩ = some (.string aD) := (ae ag.out 1).trans rfl; have hcz38_2 : w37.cell? ⟨ax, 2, none⟩ = some (.string bL) := (ae ag.out 2).trans rfl; have hcz38_3 : w37.cell? ⟨ax, 3, none⟩ = some (.string aR) := (ae ag.out 3).trans rfl; have hcz38_4 : w37.cell? ⟨ax, 4, none⟩ = some (.int .u32 dH) := (ae ag.out 4).trans rfl; have hcz38_5 : w37.cell? ⟨ax, 5, none⟩ = some (.int .u32 dS) := (ae ag.out 5).trans rfl; have hcz38_6 : w37.cell? ⟨ax, 6, none⟩ = some (.int .i64 dX) := (ae ag.out 6).trans rfl; have hcz38_7 : w37.cell? ⟨ax, 7, none⟩ = some (.int .i64 dU) := (ae ag.out 7).trans rfl; have hfz38_0 := ah ag.out 0; have hfz38_1 := ah ag.out 1; have hfz38_2 := ah ag.out 2; have hfz38_3 := ah ag.out 3; have hfz38_4 := ah ag.out 4; have hfz38_5 := ah ag.out 5; have hfz38_6 := ah ag.out 6; have hfz38_7 := ah ag.out 7))
            replace ag := af.mk (dC ag.out)
            replace HB := af.mk (av HB.out)
            refine gm (n := 19) (S := fun w' => w'.cell? ⟨ax, 0, none⟩ = some (.int .i64 aJ) ∧ w'.cell? ⟨ax, 1, none⟩ = some (.string aD) ∧ w'.cell? ⟨ax, 2, none⟩ = some (.string bL) ∧ w'.cell? ⟨ax, 3, none⟩ = some (.string aR) ∧ w'.cell? ⟨ax, 4, none⟩ = some (.int .u32 dH) ∧ w'.cell? ⟨ax, 5, none⟩ = some (.int .u32 dS) ∧ w'.cell? ⟨ax, 6, none⟩ = some (.int .i64 dX) ∧ w'.cell? ⟨ax, 7, none⟩ = some (.int .i64 dU)) (ds := []) #[bF,bF,bF,bF,bF,bF,bF,bF,bF,bF,bF,bF,bF,bF,bF,bF,bF,bF,bF] (by kernel_rfl) rfl rfl ⟨(ae ag.out 0).trans rfl, (ae ag.out 1).trans rfl, (ae ag.out 2).trans rfl, (ae ag.out 3).trans rfl, (ae ag.out 4).trans rfl, (ae ag.out 5).trans rfl, (ae ag.out 6).trans rfl, (ae ag.out 7).trans rfl⟩ (fun hHeld => ?_); refine eH aG.uV aG.qL (fun HT_ HW_ => ?_)
            generalize w37.drew = w39 at ag HB hHeld ⊢
            refine aY 0 (some 38) HT_ ?_
            refine aY 4 (some 42) HT_ ?_
            refine aY 8 (some 46) HT_ ?_
            refine aY 13 (some 51) HT_ ?_
            refine d9 1 (some 39) HT_ HW_ hHeld ?_
            refine aY 2 (some 40) HT_ ?_
            refine aY 3 (some 41) HT_ ?_
            refine d9 5 (some 43) HT_ HW_ hHeld ?_
            refine aY 6 (some 44) HT_ ?_
            refine aY 7 (some 45) HT_ ?_
            refine d9 9 (some 47) HT_ HW_ hHeld ?_
            refine d9 14 (some 52) HT_ HW_ hHeld ?_
            refine gF 10 (some 48) HT_ (fun K hK => ?_)
            refine fe Tryd.func42 #[.int .u32 dH] ?_
            with_reducible refine (bN.calls k dH bf _ A31.out).mono ?_
            rintro e w40 ⟨rfl, hb⟩
            refine ⟨_, rfl, ?_⟩
            replace ag := qbb ag hb
            replace HB := af.mk (ai (qw HB) hb)
            (try clear hb)
            (try clear hb2)
            (try clear hk)
            (try clear hi)
            refine hK.out _ _ ⟨(ae ag.out 0).trans rfl, (ae ag.out 1).trans rfl, (ae ag.out 2).trans rfl, (ae ag.out 3).trans rfl, (ae ag.out 4).trans rfl, (ae ag.out 5).trans rfl, (ae ag.out 6).trans rfl, (ae ag.out 7).trans rfl⟩ (fun hHeld => ?_)
            clear hK K
            refine eX (some 48) ?_
            refine aY 11 (some 49) HT_ ?_
            refine aY 12 (some 50) HT_ ?_
            refine gF 15 (some 53) HT_ (fun K hK => ?_)
            refine fe Tryd.func43 #[.int .i64 dU] ?_
            with_reducible refine (aK.calls k dU t105 _ A34.out).mono ?_
            rintro e w41 ⟨rfl, hb⟩
            refine ⟨_, rfl, ?_⟩
            replace ag := qbb ag hb
            replace HB := af.mk (ai (qw HB) hb)
            (try clear hb)
            (try clear hb2)
            (try clear hk)
            (try clear hi)
            refine hK.out _ _ ⟨(ae ag.out 0).trans rfl, (ae ag.out 1).trans rfl, (ae ag.out 2).trans rfl, (ae ag.out 3).trans rfl, (ae ag.out 4).trans rfl, (ae ag.out 5).trans rfl, (ae ag.out 6).trans rfl, (ae ag.out 7).trans rfl⟩ (fun hHeld => ?_)
            clear hK K
            refine eX (some 53) ?_
            refine aY 16 (some 54) HT_ ?_
            refine aY 17 (some 55) HT_ ?_
            refine aY 18 (some 2) HT_ ?_
            refine iq HT_ ?_
            try go_wp2
            go_ret
            exact ⟨by first | rfl | (simp [errW_none, errW_some] <;> rfl) | (simp [*, errW_none, errW_some] <;> rfl), by repeat (first | (with_reducible first | exact HB.out | apply aA | apply aj | apply av | refine bi ?_ dE.out) | exact HB.out)⟩
           ·rw [if_neg c36] at H
            exact absurd H (by simp)
          ·rw [if_neg c35] at H
           exact absurd H (by simp)
         ·rw [if_neg c33] at H
          exact absurd H (by simp)
        ·rw [if_neg c32] at H
         exact absurd H (by simp)
       ·rw [if_neg c30] at H
        exact absurd H (by simp)
      ·rw [if_neg c29] at H
       exact absurd H (by simp)
     ·rw [if_neg c28] at H
      exact absurd H (by simp)
    ·rw [if_neg c27] at H
     exact absurd H (by simp)
   ·rw [if_neg c26] at H
    have xK : (aJ == 3) = false := beq_eq_false_iff_ne.mpr c26
    have xL : (aJ != 3) = true := bne_iff_ne.mpr c26
    by_cases c42 : aJ = 4
    ·rw [if_pos c42] at H
     have vK : (aJ == 4) = true := beq_iff_eq.mpr c42
     have vL : (aJ != 4) = false := bne_eq_false_iff_eq.mpr c42
     clear c42
     by_cases c43 : 8 + aD.size ≤ 9223372036854775807
     ·rw [if_pos c43] at H
      have Az := eq_true c43
      have AA : decide (8 + aD.size ≤ 9223372036854775807) = true := decide_eq_true c43
      try have AB : (9223372036854775807 < 8 + aD.size) = False := eq_false (Nat.not_lt.2 c43)
      by_cases c44 : ((⟨#[99, 111, 109, 112, 97, 114, 101, 32]⟩ : ByteArray) ++ aD).size + 1 ≤ 9223372036854775807
      ·rw [if_pos c44] at H
       have AJ := eq_true c44
       have xR : decide (((⟨#[99, 111, 109, 112, 97, 114, 101, 32]⟩ : ByteArray) ++ aD).size + 1 ≤ 9223372036854775807) = true := decide_eq_true c44
       try have AL : (9223372036854775807 < ((⟨#[99, 111, 109, 112, 97, 114, 101, 32]⟩ : ByteArray) ++ aD).size + 1) = False := eq_false (Nat.not_lt.2 c44)
       (try (have AO : (9223372036854775807 < 8 + aD.size + 1) = False := eq_false (Nat.not_lt.2 (by have h_ := xR; simp only [ByteArray.size_append, decide_eq_true_eq] at h_; first | exact h_ | (simp at h_; omega)))))
       by_cases c45 : (((⟨#[99, 111, 109, 112, 97, 114, 101, 32]⟩ : ByteArray) ++ aD) ++ (⟨#[32]⟩ : ByteArray)).size + bL.size ≤ 9223372036854775807
       ·rw [if_pos c45] at H
        have AP := eq_true c45
        have xS : decide ((((⟨#[99, 111, 109, 112, 97, 114, 101, 32]⟩ : ByteArray) ++ aD) ++ (⟨#[32]⟩ : ByteArray)).size + bL.size ≤ 9223372036854775807) = true := decide_eq_true c45
        try have AQ : (9223372036854775807 < (((⟨#[99, 111, 109, 112, 97, 114, 101, 32]⟩ : ByteArray) ++ aD) ++ (⟨#[32]⟩ : ByteArray)).size + bL.size) = False := eq_false (Nat.not_lt.2 c45)
        (try (have AR : (9223372036854775807 < 8 + aD.size + 1 + bL.size) = False := eq_false (Nat.not_lt.2 (by have h_ := xS; simp only [ByteArray.size_append, decide_eq_true_eq] at h_; first | exact h_ | (simp at h_; omega)))))
        by_cases c46 : ((((⟨#[99, 111, 109, 112, 97, 114, 101, 32]⟩ : ByteArray) ++ aD) ++ (⟨#[32]⟩ : ByteArray)) ++ bL).size + 1 ≤ 9223372036854775807
        ·rw [if_pos c46] at H
         have AU := eq_true c46
         have xU : decide (((((⟨#[99, 111, 109, 112, 97, 114, 101, 32]⟩ : ByteArray) ++ aD) ++ (⟨#[32]⟩ : ByteArray)) ++ bL).size + 1 ≤ 9223372036854775807) = true := decide_eq_true c46
         try have AV : (9223372036854775807 < ((((⟨#[99, 111, 109, 112, 97, 114, 101, 32]⟩ : ByteArray) ++ aD) ++ (⟨#[32]⟩ : ByteArray)) ++ bL).size + 1) = False := eq_false (Nat.not_lt.2 c46)
         (try (have AX : (9223372036854775807 < 8 + aD.size + 1 + bL.size + 1) = False := eq_false (Nat.not_lt.2 (by have h_ := xU; simp only [ByteArray.size_append, decide_eq_true_eq] at h_; first | exact h_ | (simp at h_; omega)))))
         by_cases c47 : (((((⟨#[99, 111, 109, 112, 97, 114, 101, 32]⟩ : ByteArray) ++ aD) ++ (⟨#[32]⟩ : ByteArray)) ++ bL) ++ (⟨#[32]⟩ : ByteArray)).size + aR.size ≤ 9223372036854775807
         ·rw [if_pos c47] at H
          have AY := eq_true c47
          have xV : decide ((((((⟨#[99, 111, 109, 112, 97, 114, 101, 32]⟩ : ByteArray) ++ aD) ++ (⟨#[32]⟩ : ByteArray)) ++ bL) ++ (⟨#[32]⟩ : ByteArray)).size + aR.size ≤ 9223372036854775807) = true := decide_eq_true c47
          try have AZ : (9223372036854775807 < (((((⟨#[99, 111, 109, 112, 97, 114, 101, 32]⟩ : ByteArray) ++ aD) ++ (⟨#[32]⟩ : ByteArray)) ++ bL) ++ (⟨#[32]⟩ : ByteArray)).size + aR.size) = False := eq_false (Nat.not_lt.2 c47)
          (try (have Ba : (9223372036854775807 < 8 + aD.size + 1 + bL.size + 1 + aR.size) = False := eq_false (Nat.not_lt.2 (by have h_ := xV; simp only [ByteArray.size_append, decide_eq_true_eq] at h_; first | exact h_ | (simp at h_; omega)))))
          by_cases c48 : ((((((⟨#[99, 111, 109, 112, 97, 114, 101, 32]⟩ : ByteArray) ++ aD) ++ (⟨#[32]⟩ : ByteArray)) ++ bL) ++ (⟨#[32]⟩ : ByteArray)) ++ aR).size + 1 ≤ 9223372036854775807
          ·rw [if_pos c48] at H
           have Bb := eq_true c48
           have xW : decide (((((((⟨#[99, 111, 109, 112, 97, 114, 101, 32]⟩ : ByteArray) ++ aD) ++ (⟨#[32]⟩ : ByteArray)) ++ bL) ++ (⟨#[32]⟩ : ByteArray)) ++ aR).size + 1 ≤ 9223372036854775807) = true := decide_eq_true c48
           try have Bc : (9223372036854775807 < ((((((⟨#[99, 111, 109, 112, 97, 114, 101, 32]⟩ : ByteArray) ++ aD) ++ (⟨#[32]⟩ : ByteArray)) ++ bL) ++ (⟨#[32]⟩ : ByteArray)) ++ aR).size + 1) = False := eq_false (Nat.not_lt.2 c48)
           (try (have Bd : (9223372036854775807 < 8 + aD.size + 1 + bL.size + 1 + aR.size + 1) = False := eq_false (Nat.not_lt.2 (by have h_ := xW; simp only [ByteArray.size_append, decide_eq_true_eq] at h_; first | exact h_ | (simp at h_; omega)))))
           replace H := Option.bind_eq_some_iff.mp H
           obtain ⟨aX, A490, H⟩ := H
           replace H : (if (((((((⟨#[99, 111, 109, 112, 97, 114, 101, 32]⟩ : ByteArray) ++ aD) ++ (⟨#[32]⟩ : ByteArray)) ++ bL) ++ (⟨#[32]⟩ : ByteArray)) ++ aR) ++ (⟨#[32]⟩ : ByteArray)).size + aX.size ≤ 9223372036854775807 then (if ((((((((⟨#[99, 111, 109, 112, 97, 114, 101, 32]⟩ : ByteArray) ++ aD) ++ (⟨#[32]⟩ : ByteArray)) ++ bL) ++ (⟨#[32]⟩ : ByteArray)) ++ aR) ++ (⟨#[32]⟩ : ByteArray)) ++ aX).size + 1 ≤ 9223372036854775807 then (some (((((((((⟨#[99, 111, 109, 112, 97, 114, 101, 32]⟩ : ByteArray) ++ aD) ++ (⟨#[32]⟩ : ByteArray)) ++ bL) ++ (⟨#[32]⟩ : ByteArray)) ++ aR) ++ (⟨#[32]⟩ : ByteArray)) ++ aX) ++ (⟨#[59]⟩ : ByteArray))) else (none)) else (none)) = some r := H
           have A49 := af.mk A490
           clear A490
           by_cases c50 : (((((((⟨#[99, 111, 109, 112, 97, 114, 101, 32]⟩ : ByteArray) ++ aD) ++ (⟨#[32]⟩ : ByteArray)) ++ bL) ++ (⟨#[32]⟩ : ByteArray)) ++ aR) ++ (⟨#[32]⟩ : ByteArray)).size + aX.size ≤ 9223372036854775807
           ·rw [if_pos c50] at H
            have Be := eq_true c50
            have xX : decide ((((((((⟨#[99, 111, 109, 112, 97, 114, 101, 32]⟩ : ByteArray) ++ aD) ++ (⟨#[32]⟩ : ByteArray)) ++ bL) ++ (⟨#[32]⟩ : ByteArray)) ++ aR) ++ (⟨#[32]⟩ : ByteArray)).size + aX.size ≤ 9223372036854775807) = true := decide_eq_true c50
            try have Bf : (9223372036854775807 < (((((((⟨#[99, 111, 109, 112, 97, 114, 101, 32]⟩ : ByteArray) ++ aD) ++ (⟨#[32]⟩ : ByteArray)) ++ bL) ++ (⟨#[32]⟩ : ByteArray)) ++ aR) ++ (⟨#[32]⟩ : ByteArray)).size + aX.size) = False := eq_false (Nat.not_lt.2 c50)
            (try (have Bg : (9223372036854775807 < 8 + aD.size + 1 + bL.size + 1 + aR.size + 1 + aX.size) = False := eq_false (Nat.not_lt.2 (by have h_ := xX; simp only [ByteArray.size_append, decide_eq_true_eq] at h_; first | exact h_ | (simp at h_; omega)))))
            by_cases c51 : ((((((((⟨#[99, 111, 109, 112, 97, 114, 101, 32]⟩ : ByteArray) ++ aD) ++ (⟨#[32]⟩ : ByteArray)) ++ bL) ++ (⟨#[32]⟩ : ByteArray)) ++ aR) ++ (⟨#[32]⟩ : ByteArray)) ++ aX).size + 1 ≤ 9223372036854775807
            ·rw [if_pos c51] at H
             have Bh := eq_true c51
             have xY : decide (((((((((⟨#[99, 111, 109, 112, 97, 114, 101, 32]⟩ : ByteArray) ++ aD) ++ (⟨#[32]⟩ : ByteArray)) ++ bL) ++ (⟨#[32]⟩ : ByteArray)) ++ aR) ++ (⟨#[32]⟩ : ByteArray)) ++ aX).size + 1 ≤ 9223372036854775807) = true := decide_eq_true c51
             try have Bi : (9223372036854775807 < ((((((((⟨#[99, 111, 109, 112, 97, 114, 101, 32]⟩ : ByteArray) ++ aD) ++ (⟨#[32]⟩ : ByteArray)) ++ bL) ++ (⟨#[32]⟩ : ByteArray)) ++ aR) ++ (⟨#[32]⟩ : ByteArray)) ++ aX).size + 1) = False := eq_false (Nat.not_lt.2 c51)
             (try (have Bj : (9223372036854775807 < 8 + aD.size + 1 + bL.size + 1 + aR.size + 1 + aX.size + 1) = False := eq_false (Nat.not_lt.2 (by have h_ := xY; simp only [ByteArray.size_append, decide_eq_true_eq] at h_; first | exact h_ | (simp at h_; omega)))))
             obtain rfl := Option.some.inj H
             go_enter Tryd.func18, Tryd.ntmps18
             try go_wp2_with (first | ((with_reducible refine aU (N := 1) rfl ?_); refine bz ?hg (N := 1) ?hd (cs := #[.int .i64 aJ, .string aD, .string bL, .string aR, .int .u32 dH, .int .u32 dS, .int .i64 dX, .int .i64 dU]) (t := 42) ?hr ?_; (case hd => rfl); (case hg => rfl); (case hr => first | (go_simp; done) | (go_simp; rfl)); intro ax hg w52 hbox hb; have ag := af.mk (hbox); have GW101 := qge HB hg; have dE := qge HB hg; replace HB := af.mk (ai (qw HB) hb); clear hb hbox hg; have hcz53_0 : w52.cell? ⟨ax, 0, none⟩ = some (.int .i64 aJ) := (ae ag.out 0).trans rfl; have hcz53_1 : w52.cell? ⟨ax, 1, none⟩ = some (.string aD) := (ae ag.out 1).trans rfl; have hcz53_2 : w52.cell? ⟨ax, 2, none⟩ = some (.string bL) := (ae ag.out 2).trans rfl; have hcz53_3 : w52.cell? ⟨ax, 3, none⟩ = some (.string aR) := (ae ag.out 3).trans rfl; have hcz53_4 : w52.cell? ⟨ax, 4, none⟩ = some (.int .u32 dH) := (ae ag.out 4).trans rfl; have hcz53_5 : w52.cell? ⟨ax, 5, none⟩ = some (.int .u32 dS) := (ae ag.out 5).trans rfl; have hcz53_6 : w52.cell? ⟨ax, 6, none⟩ = some (.int .i64 dX) := (ae ag.out 6).trans rfl; have hcz53_7 : w52.cell? ⟨ax, 7, none⟩ = some (.int .i64 dU) := (ae ag.out 7).trans rfl; have hfz53_0 := ah ag.out 0; have hfz53_1 := ah ag.out 1; have hfz53_2 := ah ag.out 2; have hfz53_3 := ah ag.out 3; have hfz53_4 := ah ag.out 4; have hfz53_5 := ah ag.out 5; have hfz53_6 := ah ag.out 6; have hfz53_7 := ah ag.out 7))
             replace ag := af.mk (dC ag.out)
             replace HB := af.mk (av HB.out)
             refine gm (n := 18) (S := fun w' => w'.cell? ⟨ax, 0, none⟩ = some (.int .i64 aJ) ∧ w'.cell? ⟨ax, 1, none⟩ = some (.string aD) ∧ w'.cell? ⟨ax, 2, none⟩ = some (.string bL) ∧ w'.cell? ⟨ax, 3, none⟩ = some (.string aR) ∧ w'.cell? ⟨ax, 4, none⟩ = some (.int .u32 dH) ∧ w'.cell? ⟨ax, 5, none⟩ = some (.int .u32 dS) ∧ w'.cell? ⟨ax, 6, none⟩ = some (.int .i64 dX) ∧ w'.cell? ⟨ax, 7, none⟩ = some (.int .i64 dU)) (ds := []) #[bF,bF,bF,bF,bF,bF,bF,bF,bF,bF,bF,bF,bF,bF,bF,bF,bF,bF] (by kernel_rfl) rfl rfl ⟨(ae ag.out 0).trans rfl, (ae ag.out 1).trans rfl, (ae ag.out 2).trans rfl, (ae ag.out 3).trans rfl, (ae ag.out 4).trans rfl, (ae ag.out 5).trans rfl, (ae ag.out 6).trans rfl, (ae ag.out 7).trans rfl⟩ (fun hHeld => ?_); refine eH aG.wD aG.tH (fun HT_ HW_ => ?_)
             generalize w52.drew = w54 at ag HB hHeld ⊢
             refine aY 0 (some 59) HT_ ?_
             refine aY 4 (some 63) HT_ ?_
             refine aY 8 (some 67) HT_ ?_
             refine aY 12 (some 71) HT_ ?_
             refine d9 1 (some 60) HT_ HW_ hHeld ?_
             refine aY 2 (some 61) HT_ ?_
             refine aY 3 (some 62) HT_ ?_
             refine d9 5 (some 64) HT_ HW_ hHeld ?_
             refine aY 6 (some 65) HT_ ?_
             refine aY 7 (some 66) HT_ ?_
             refine d9 9 (some 68) HT_ HW_ hHeld ?_
             refine aY 10 (some 69) HT_ ?_
             refine aY 11 (some 70) HT_ ?_
             refine d9 13 (some 72) HT_ HW_ hHeld ?_
             refine gF 14 (some 73) HT_ (fun K hK => ?_)
             refine fe Tryd.func44 #[.agg #[.int .u32 dS, .int .i64 dX]] ?_
             with_reducible refine (dh.calls k dS dX aX _ A49.out).mono ?_
             rintro e w55 ⟨rfl, hb⟩
             refine ⟨_, rfl, ?_⟩
             replace ag := qbb ag hb
             replace HB := af.mk (ai (qw HB) hb)
             (try clear hb)
             (try clear hb2)
             (try clear hk)
             (try clear hi)
             refine hK.out _ _ ⟨(ae ag.out 0).trans rfl, (ae ag.out 1).trans rfl, (ae ag.out 2).trans rfl, (ae ag.out 3).trans rfl, (ae ag.out 4).trans rfl, (ae ag.out 5).trans rfl, (ae ag.out 6).trans rfl, (ae ag.out 7).trans rfl⟩ (fun hHeld => ?_)
             clear hK K
             refine eX (some 73) ?_
             refine aY 15 (some 74) HT_ ?_
             refine aY 16 (some 75) HT_ ?_
             refine aY 17 (some 2) HT_ ?_
             refine iq HT_ ?_
             try go_wp2
             go_ret
             exact ⟨by first | rfl | (simp [errW_none, errW_some] <;> rfl) | (simp [*, errW_none, errW_some] <;> rfl), by repeat (first | (with_reducible first | exact HB.out | apply aA | apply aj | apply av | refine bi ?_ dE.out) | exact HB.out)⟩
            ·rw [if_neg c51] at H
             exact absurd H (by simp)
           ·rw [if_neg c50] at H
            exact absurd H (by simp)
          ·rw [if_neg c48] at H
           exact absurd H (by simp)
         ·rw [if_neg c47] at H
          exact absurd H (by simp)
        ·rw [if_neg c46] at H
         exact absurd H (by simp)
       ·rw [if_neg c45] at H
        exact absurd H (by simp)
      ·rw [if_neg c44] at H
       exact absurd H (by simp)
     ·rw [if_neg c43] at H
      exact absurd H (by simp)
    ·rw [if_neg c42] at H
     have vK : (aJ == 4) = false := beq_eq_false_iff_ne.mpr c42
     have vL : (aJ != 4) = true := bne_iff_ne.mpr c42
     obtain rfl := Option.some.inj H
     go_enter Tryd.func18, Tryd.ntmps18
     go_wp2_with (first | ((with_reducible refine aU (N := 1) rfl ?_); refine bz ?hg (N := 1) ?hd (cs := #[.int .i64 aJ, .string aD, .string bL, .string aR, .int .u32 dH, .int .u32 dS, .int .i64 dX, .int .i64 dU]) (t := 42) ?hr ?_; (case hd => rfl); (case hg => rfl); (case hr => first | (go_simp; done) | (go_simp; rfl)); intro ax hg w56 hbox hb; have ag := af.mk (hbox); have GW101 := qge HB hg; have dE := qge HB hg; replace HB := af.mk (ai (qw HB) hb); clear hb hbox hg; have hcz57_0 : w56.cell? ⟨ax, 0, none⟩ = some (.int .i64 aJ) := (ae ag.out 0).trans rfl; have hcz57_1 : w56.cell? ⟨ax, 1, none⟩ = some (.string aD) := (ae ag.out 1).trans rfl; have hcz57_2 : w56.cell? ⟨ax, 2, none⟩ = some (.string bL) := (ae ag.out 2).trans rfl; have hcz57_3 : w56.cell? ⟨ax, 3, none⟩ = some (.string aR) := (ae ag.out 3).trans rfl; have hcz57_4 : w56.cell? ⟨ax, 4, none⟩ = some (.int .u32 dH) := (ae ag.out 4).trans rfl; have hcz57_5 : w56.cell? ⟨ax, 5, none⟩ = some (.int .u32 dS) := (ae ag.out 5).trans rfl; have hcz57_6 : w56.cell? ⟨ax, 6, none⟩ = some (.int .i64 dX) := (ae ag.out 6).trans rfl; have hcz57_7 : w56.cell? ⟨ax, 7, none⟩ = some (.int .i64 dU) := (ae ag.out 7).trans rfl; have hfz57_0 := ah ag.out 0; have hfz57_1 := ah ag.out 1; have hfz57_2 := ah ag.out 2; have hfz57_3 := ah ag.out 3; have hfz57_4 := ah ag.out 4; have hfz57_5 := ah ag.out 5; have hfz57_6 := ah ag.out 6; have hfz57_7 := ah ag.out 7))
     go_ret
     exact ⟨by first | rfl | (simp [errW_none, errW_some] <;> rfl) | (simp [*, errW_none, errW_some] <;> rfl), by repeat (first | (with_reducible first | exact HB.out | apply aA | apply aj | apply av | refine bi ?_ dE.out) | exact HB.out)⟩
end Go.Proofs.YthfphdbebnkdpaaDoor.P
end
section
set_option linter.unusedVariables false
set_option linter.unusedSimpArgs false
namespace Go.Proofs.YthfphdbebnkdpaaDoor.Pc
open Go.Proofs.YthfphdbebnkdpaaDoor.P Go.Proofs.YthfphdbebnkdpaaDoorW.aH Go.Proofs.YthfphdbebnkdpaaDoorW.aV Go.Proofs.YthfphdbebnkdpaaDoorW.bn Go.RowKit
abbrev sp : ByteArray := ⟨#[32]⟩
abbrev tQ : ByteArray := ⟨#[59]⟩
def QT (q : Int) (net other from_ : ByteArray) (dest pa pl K : Int) : ByteArray :=
 if q = 1 then iX [⟨#[112, 114, 111, 98]⟩, net, from_, nH dest] sp ++ tQ
 else if q = 2 then iX [⟨#[104, 111, 112, 115]⟩, net, from_, nH dest] sp ++ tQ
 else if q = 3 then iX [⟨#[119, 105, 116, 104, 105, 110]⟩, net, from_, nH dest, iI K] sp ++ tQ
 else if q = 4 then iX [⟨#[99, 111, 109, 112, 97, 114, 101]⟩, net, other, from_, mX pa pl] sp ++ tQ
 else ⟨#[]⟩
theorem iV (l : Array UInt8) : (⟨l⟩ : ByteArray).size = l.size := rfl
theorem pq (a b c d e s : ByteArray) : (iX [a, b, c, d, e] s) = ((((((((a ++ s) ++ b) ++ s) ++ c) ++ s) ++ d) ++ s) ++ e) := iH (by simp [iX, Lib.join, List.intercalate])
theorem lw (l : List ByteArray) (h1 : l.length ≤ 1000000) (h2 : (l.map (·.size)).sum + l.length ≤ 140737488355328) : aM.f l = some (iX l sp) := by
 unfold aM.f
 rw [ou l _ h1 (by show (l.map (·.size)).sum + l.length * 1 ≤ _; omega), Option.bind_some]
theorem xZ (q : Int) (net other from_ : ByteArray) (dest pa pl K : Int) (hn : net.size ≤ 1000) (ho : other.size ≤ 1000) (hf : from_.size ≤ 1000) (hk0 : -4611686018427387904 ≤ K) (hk1 : K ≤ 4611686018427387904) : (QT q net other from_ dest pa pl K).size ≤ 4000 := by
 have h1 := lU dest
 have h2 := ow pa pl
 have h3 := jT K (by omega) (by omega)
 unfold QT
 repeat' split
 all_goals (first | rw [mV] | rw [pq] | skip)
 all_goals simp only [gu, iV, List.size_toArray, List.length_cons, List.length_nil]
 all_goals omega
theorem uW (q : Int) (net other from_ : ByteArray) (dest pa pl K : Int) (hn : net.size ≤ 1000) (ho : other.size ≤ 1000) (hf : from_.size ≤ 1000) (hd0 : 0 ≤ dest) (hd1 : dest < 4294967296) (hp0 : 0 ≤ pa) (hp1 : pa < 4294967296)
  (hk0 : -4611686018427387904 ≤ K) (hk1 : K ≤ 4611686018427387904) : Ev (fun k => bM.f k q net other from_ dest pa pl K) (QT q net other from_ dest pa pl K) := by
 have z1 := lU dest
 have z2 := ow pa pl
 have z3 := jT K (by omega) (by omega)
 have zs : ∀ l : List ByteArray, aM.f l = some (iX l sp) → (iX l sp).size + 1 ≤ 9223372036854775807 → Ev (fun k => (aM.f l).bind fun aX => (if aX.size + 1 ≤ 9223372036854775807 then (some (aX ++ (⟨#[59]⟩ : ByteArray))) else (none))) (iX l sp ++ tQ) := by
  intro l h1 h2
  refine Ev.now' fun k => ?_
  rw [h1, Option.bind_some, if_pos h2]
 unfold bM.f QT
 refine Ev.bind (mW dest hd0 hd1) ?_
 by_cases q1 : q = 1
 ·rw [if_pos q1]
  refine Ev.pos q1 (zs _ (lw _ (by simp) (by simp only [List.map_cons, List.map_nil, List.sum_cons, List.sum_nil, iV, List.size_toArray, List.length_cons, List.length_nil]; omega)) ?_)
  rw [mV]; simp only [gu, iV, List.size_toArray, List.length_cons, List.length_nil]; omega
 rw [if_neg q1]
 refine Ev.neg q1 ?_
 by_cases q2 : q = 2
 ·rw [if_pos q2]
  refine Ev.pos q2 (zs _ (lw _ (by simp) (by simp only [List.map_cons, List.map_nil, List.sum_cons, List.sum_nil, iV, List.size_toArray, List.length_cons, List.length_nil]; omega)) ?_)
  rw [mV]; simp only [gu, iV, List.size_toArray, List.length_cons, List.length_nil]; omega
 rw [if_neg q2]
 refine Ev.neg q2 ?_
 by_cases q3 : q = 3
 ·rw [if_pos q3]
  refine Ev.pos q3 (Ev.bind (g := fun _ => strconv_Itoa.f K) (Ev.now' fun _ => oq K (by omega) (by omega)) (zs _ (lw _ (by simp) (by simp only [List.map_cons, List.map_nil, List.sum_cons, List.sum_nil, iV, List.size_toArray, List.length_cons, List.length_nil]; omega)) ?_))
  rw [pq]; simp only [gu, iV, List.size_toArray, List.length_cons, List.length_nil]; omega
 rw [if_neg q3]
 refine Ev.neg q3 ?_
 by_cases q4 : q = 4
 ·rw [if_pos q4]
  refine Ev.pos q4 (Ev.bind (rE pa pl hp0 hp1) (zs _ (lw _ (by simp) (by simp only [List.map_cons, List.map_nil, List.sum_cons, List.sum_nil, iV, List.size_toArray, List.length_cons, List.length_nil]; omega)) ?_))
  rw [pq]; simp only [gu, iV, List.size_toArray, List.length_cons, List.length_nil]; omega
 rw [if_neg q4]
 exact Ev.neg q4 (Ev.now _)
theorem tT (q : Int) (net other from_ : ByteArray) (dest pa pl K : Int) (hn : net.size ≤ 1000) (ho : other.size ≤ 1000) (hf : from_.size ≤ 1000) (hd0 : 0 ≤ dest) (hd1 : dest < 4294967296) (hp0 : 0 ≤ pa) (hp1 : pa < 4294967296)
  (hk0 : -4611686018427387904 ≤ K) (hk1 : K ≤ 4611686018427387904) : Ev (fun k => aG.f k q net other from_ dest pa pl K) (QT q net other from_ dest pa pl K) := by
 have z1 := lU dest
 have z2 := ow pa pl
 have z3 := jT K (by omega) (by omega)
 unfold aG.f QT
 by_cases q1 : q = 1
 ·rw [if_pos q1, mV]
  refine Ev.pos q1 ?_
  repeat (first | refine Ev.pos (by (try simp only [gu, iV, List.size_toArray, List.length_cons, List.length_nil]); omega) ?_ | refine Ev.bind (jF dest hd0 hd1) ?_)
  exact Ev.now' fun k => congrArg some (iH (by simp))
 rw [if_neg q1]
 refine Ev.neg q1 ?_
 by_cases q2 : q = 2
 ·rw [if_pos q2, mV]
  refine Ev.pos q2 ?_
  repeat (first | refine Ev.pos (by (try simp only [gu, iV, List.size_toArray, List.length_cons, List.length_nil]); omega) ?_ | refine Ev.bind (jF dest hd0 hd1) ?_)
  exact Ev.now' fun k => congrArg some (iH (by simp))
 rw [if_neg q2]
 refine Ev.neg q2 ?_
 by_cases q3 : q = 3
 ·rw [if_pos q3, pq]
  refine Ev.pos q3 ?_
  repeat (first | refine Ev.pos (by (try simp only [gu, iV, List.size_toArray, List.length_cons, List.length_nil]); omega) ?_ | refine Ev.bind (jF dest hd0 hd1) ?_ | refine Ev.bind (kz K hk0 hk1) ?_)
  exact Ev.now' fun k => congrArg some (iH (by simp))
 rw [if_neg q3]
 refine Ev.neg q3 ?_
 by_cases q4 : q = 4
 ·rw [if_pos q4, pq]
  refine Ev.pos q4 ?_
  repeat (first | refine Ev.pos (by (try simp only [gu, iV, List.size_toArray, List.length_cons, List.length_nil]); omega) ?_ | refine Ev.bind (qf pa pl hp0 hp1) ?_)
  exact Ev.now' fun k => congrArg some (iH (by simp))
 rw [if_neg q4]
 exact Ev.neg q4 (Ev.now _)
end Go.Proofs.YthfphdbebnkdpaaDoor.Pc
end
section
namespace Go.Proofs.YthfphdbebnkdpaaDoor.P
open Go.RowKit Go.Proofs.YthfphdbebnkdpaaDoorW.aH Go.Proofs.YthfphdbebnkdpaaDoorW.aV Go.Proofs.YthfphdbebnkdpaaDoorW.bn
attribute [local go_sem] bR bS dn dw bB bC bU bV
set_option linter.unusedVariables false
set_option linter.unusedSimpArgs false
def fw.f (k : Nat) (aJ : Int) (aD : ByteArray) (bL : ByteArray) (aR : ByteArray) (dH : Int) (dS : Int) (dX : Int) (dU : Int) : Option (ByteArray) := (bM.f k aJ aD bL aR dH dS dX dU).bind fun aQ => (if aQ.size + 1 ≤ 9223372036854775807 then (some (aQ ++ (⟨#[10]⟩ : ByteArray))) else (none))
set_option maxHeartbeats 8000000 in
set_option maxRecDepth 100000 in
theorem fw.calls (k : Nat) (aJ : Int) (aD : ByteArray) (bL : ByteArray) (aR : ByteArray) (dH : Int) (dS : Int) (dX : Int) (dU : Int) (r : ByteArray) (w : World) (h : fw.f k aJ aD bL aR dH dS dX dU = some r) (HGT : af (Go.Proofs.YthfphdbebnkdpaaDoorV.GT w)) :
  Calls Tryd.prog 47 #[.agg #[.int .i64 aJ, .string aD, .string bL, .string aR, .int .u32 dH, .int .u32 dS, .int .i64 dX, .int .i64 dU]] w fun e w' => e = .returned (.string r) ∧ Below w.heap.size w w' := by
 have hu42 := Tryd.underlying42
 have HB := af.mk (Below.refl w.heap.size w)
 have H : ((bM.f k aJ aD bL aR dH dS dX dU).bind fun aQ => (if aQ.size + 1 ≤ 9223372036854775807 then (some (aQ ++ (⟨#[10]⟩ : ByteArray))) else (none))) = some r := h
 clear h
 replace H := Option.bind_eq_some_iff.mp H
 obtain ⟨aQ, A20, H⟩ := H
 replace H : (if aQ.size + 1 ≤ 9223372036854775807 then (some (aQ ++ (⟨#[10]⟩ : ByteArray))) else (none)) = some r := H
 have A2 := af.mk A20
 clear A20
 by_cases c3 : aQ.size + 1 ≤ 9223372036854775807
 ·rw [if_pos c3] at H
  have gG := eq_true c3
  have gY : decide (aQ.size + 1 ≤ 9223372036854775807) = true := decide_eq_true c3
  try have ww : (9223372036854775807 < aQ.size + 1) = False := eq_false (Nat.not_lt.2 c3)
  obtain rfl := Option.some.inj H
  go_enter Tryd.func47, Tryd.ntmps47
  go_wp2_with (first | ((with_reducible refine aU (N := 1) rfl ?_); refine bz ?hg (N := 1) ?hd (cs := #[.int .i64 aJ, .string aD, .string bL, .string aR, .int .u32 dH, .int .u32 dS, .int .i64 dX, .int .i64 dU]) (t := 42) ?hr ?_; (case hd => rfl); (case hg => rfl); (case hr => first | (go_simp; done) | (go_simp; rfl)); intro ax hg w4 hbox hb; have ag := af.mk (hbox); have GW101 := qge HB hg; have dE := qge HB hg; replace HB := af.mk (ai (qw HB) hb); clear hb hbox hg; have hcz5_0 : w4.cell? ⟨ax, 0, none⟩ = some (.int .i64 aJ) := (ae ag.out 0).trans rfl; have hcz5_1 : w4.cell? ⟨ax, 1, none⟩ = some (.string aD) := (ae ag.out 1).trans rfl; have hcz5_2 : w4.cell? ⟨ax, 2, none⟩ = some (.string bL) := (ae ag.out 2).trans rfl; have hcz5_3 : w4.cell? ⟨ax, 3, none⟩ = some (.string aR) := (ae ag.out 3).trans rfl; have hcz5_4 : w4.cell? ⟨ax, 4, none⟩ = some (.int .u32 dH) := (ae ag.out 4).trans rfl; have hcz5_5 : w4.cell? ⟨ax, 5, none⟩ = some (.int .u32 dS) := (ae ag.out 5).trans rfl; have hcz5_6 : w4.cell? ⟨ax, 6, none⟩ = some (.int .i64 dX) := (ae ag.out 6).trans rfl; have hcz5_7 : w4.cell? ⟨ax, 7, none⟩ = some (.int .i64 dU) := (ae ag.out 7).trans rfl; have hfz5_0 := ah ag.out 0; have hfz5_1 := ah ag.out 1; have hfz5_2 := ah ag.out 2; have hfz5_3 := ah ag.out 3; have hfz5_4 := ah ag.out 4; have hfz5_5 := ah ag.out 5; have hfz5_6 := ah ag.out 6; have hfz5_7 := ah ag.out 7) | ((with_reducible refine aN (f := 17) rfl ?_); refine cu (some 4) rfl rfl Tryd.func17 (by kernel_rfl) rfl #[.agg #[.int .i64 aJ, .string aD, .string bL, .string aR, .int .u32 dH, .int .u32 dS, .int .i64 dX, .int .i64 dU]] rfl qt ?_; (with_reducible refine (bM.calls k aJ aD bL aR dH dS dX dU aQ _ A2.out ?gt).mono ?_); (case gt => exact Go.Proofs.YthfphdbebnkdpaaDoorV.GT.below HGT (qw HB)); rintro e w6 ⟨rfl, hb⟩; refine ⟨_, rfl, ?_⟩; replace ag := qbb ag hb; replace HB := af.mk (ai (qw HB) hb); (try clear hb); (try clear hb2); (try clear hk); (try clear hi)))
  go_ret
  exact ⟨by first | rfl | (simp [errW_none, errW_some] <;> rfl) | (simp [*, errW_none, errW_some] <;> rfl), by repeat (first | (with_reducible first | exact HB.out | apply aA | apply aj | apply av | refine bi ?_ dE.out) | exact HB.out)⟩
 ·rw [if_neg c3] at H
  exact absurd H (by simp)
end Go.Proofs.YthfphdbebnkdpaaDoor.P
end
section
namespace Go.Proofs.YthfphdbebnkdpaaDoor.P
open Go.RowKit Go.Proofs.YthfphdbebnkdpaaDoorW.aH Go.Proofs.YthfphdbebnkdpaaDoorW.aV Go.Proofs.YthfphdbebnkdpaaDoorW.bn
attribute [local go_sem] bR bS dn dw bB bC bU bV
set_option linter.unusedVariables false
set_option linter.unusedSimpArgs false
def eO.l0 : Nat → List ByteArray → List (S42) → Int → Int → Option (List ByteArray)
 | 0, _, _, _, _ => none
 | k + 1, x5, x11, x12, x13 => if x13 < x12 then (if 0 ≤ x13 then (if x13 < (x11.length : Int) then ((fw.f k ((ak x11 x13).f0) ((ak x11 x13).f1) ((ak x11 x13).f2) ((ak x11 x13).f3) ((ak x11 x13).f4) ((ak x11 x13).f5.f0) ((ak x11 x13).f5.f1) ((ak x11 x13).f6)).bind fun aX => (if x13 < (x5.length : Int) then (eO.l0 k (x5.set (x13 : Int).toNat aX) x11 x12 (wrap64 (x13 + 1))) else (none))) else (none)) else (none)) else (some x5)
def eO.f (k : Nat) (l0 : List (S42)) (a1 : Bool) : Option (List ByteArray) := if 0 ≤ (l0.length : Int) then (if ((l0.length : Int) : Int).toNat ≤ 17592186044416 then (eO.l0 k (List.replicate ((l0.length : Int) : Int).toNat (⟨#[]⟩ : ByteArray)) l0 (l0.length : Int) 0) else (none)) else (none)
set_option maxHeartbeats 8000000 in
set_option maxRecDepth 100000 in
theorem eO.calls (k : Nat) (A0 : Option Addr) (c0 : Nat) (l0 : List (S42)) (a1 : Bool) (r : List ByteArray) (w : World) (hr0 : Kd.C k42 w A0 l0.length l0) (hc0 : l0.length ≤ c0) (h : eO.f k l0 a1 = some r) (HGT : af (Go.Proofs.YthfphdbebnkdpaaDoorV.GT w)) :
  Calls Tryd.prog 46 #[.slice A0 l0.length c0, .func (.func 47) #[] #[]] w fun e w' => ∃ v0_ : Value, e = .returned (v0_) ∧ Kd.R Kd.string 9 w' w.heap.size (fun _ => True) v0_ r ∧ Below w.heap.size w w' := by
 have hu42 := Tryd.underlying42
 have HR0 := af.mk hr0
 have HC0 := af.mk hc0
 clear hr0 hc0
 have HB := af.mk (Below.refl w.heap.size w)
 have H : (if 0 ≤ (l0.length : Int) then (if ((l0.length : Int) : Int).toNat ≤ 17592186044416 then (eO.l0 k (List.replicate ((l0.length : Int) : Int).toNat (⟨#[]⟩ : ByteArray)) l0 (l0.length : Int) 0) else (none)) else (none)) = some r := h
 clear h
 by_cases c3 : 0 ≤ (l0.length : Int)
 ·rw [if_pos c3] at H
  have gG := eq_true c3
  have gY : decide (0 ≤ (l0.length : Int)) = true := decide_eq_true c3
  clear c3
  by_cases c4 : ((l0.length : Int) : Int).toNat ≤ 17592186044416
  ·rw [if_pos c4] at H
   have ic := eq_true c4
   have iA : decide (((l0.length : Int) : Int).toNat ≤ 17592186044416) = true := decide_eq_true c4
   clear c4
   obtain ⟨y101, hy101⟩ : ∃ y_ : List ByteArray, y_ = (List.replicate ((l0.length : Int) : Int).toNat (⟨#[]⟩ : ByteArray)) := ⟨_, rfl⟩
   replace H : (eO.l0 k y101 l0 (l0.length : Int) 0) = some r := by first | (rw [hy101]; with_reducible exact H) | (have H2_ := (Option.bind_some _ _).symm.trans H; rw [hy101]; with_reducible exact H2_) | (have H2_ := (Option.bind_some _ _).symm.trans H; with_reducible exact H2_) | with_reducible exact H | (rw [hy101]; exact H) | exact H
   have Ny101 := af.mk hy101
   clear hy101
   have H' := af.mk H
   clear H
   go_enter Tryd.func46, Tryd.ntmps46
   go_wp2_with (first | ((with_reducible refine aU (N := 10) rfl ?_); refine Kd.jh Kd.string _ 9 rfl (N := 10) rfl 72 _ _ rfl (l0.length : Int) rfl rfl Tryd.underlying72 (.string ⟨#[]⟩) 16 lq rfl (by decide) (by omega) (⟨#[]⟩ : ByteArray) (ok := fun _ => True) (okp := fun _ => True) rfl (fun _ hk => hk) trivial (of_decide_eq_true qa) (Nat.le_trans (Nat.mul_le_mul_right _ (of_decide_eq_true qa : (l0.length : Int).toNat ≤ 17592186044416)) (by omega)) (Below.refl _ _) (Nat.le_refl _) ?_; intro v102 w5 ho6 hb hg_ hnew_; clear hg_ hnew_; (first | rw [← Ny101.out] at ho6 | (simp only [Int.reduceToNat] at ho6; rw [← Ny101.out] at ho6)); have eD := af.mk (Kd.dI ho6 (bg (qw HB))); replace HB := af.mk (ai (qw HB) hb); clear hb ho6))
   go_loopg [13] k (fun kq v13 w' => ∃ (bO : List ByteArray) (au : Int), v13 = .int .i64 au ∧ af (eO.l0 kq bO l0 (l0.length : Int) au = some r) ∧ af (kq ≤ k) ∧ af (Kd.R Kd.string 9 w' w.heap.size (fun _ => True) v102 bO) ∧ af (Below w.heap.size w w'))
   case atStart => exact ⟨(y101), (0), (by first | rfl | (simp; done) | (simp [*]; done)), H', ⟨Nat.le_refl _⟩, ⟨by (with_reducible repeat (first | apply Kd.cB | apply Kd.cK | apply Kd.dD)); exact eD.out⟩, ⟨by repeat (first | (with_reducible first | exact HB.out | apply aA | apply aj | apply av) | exact HB.out)⟩⟩
   case round =>
    clear H'
    try clear p2
    try clear c3
    try clear gG
    try clear gY
    try clear c4
    try clear ic
    try clear iA
    obtain ⟨bO, au, rfl, HA, HK1, dN, HB⟩ := hrel
    cases gk with
    | zero => exact absurd HA.out (by simp [eO.l0])
    | succ k1 =>
     have H := HA.out
     clear HA
     simp only [eO.l0] at H
     by_cases c7 : au < (l0.length : Int)
     ·rw [if_pos c7] at H
      have iZ : decide (au < (l0.length : Int)) = true := decide_eq_true c7
      clear c7
      by_cases c8 : 0 ≤ au
      ·rw [if_pos c8] at H
       have jM : decide (0 ≤ au) = true := decide_eq_true c8
       clear c8
       by_cases c9 : au < (l0.length : Int)
       ·rw [if_pos c9] at H
        have kT : decide (au < (l0.length : Int)) = true := decide_eq_true c9
        clear c9
        replace H := Option.bind_eq_some_iff.mp H
        obtain ⟨aX, A100, H⟩ := H
        replace H : (if au < (bO.length : Int) then (eO.l0 k1 (bO.set (au : Int).toNat aX) l0 (l0.length : Int) (wrap64 (au + 1))) else (none)) = some r := H
        have A10 := af.mk A100
        clear A100
        by_cases c11 : au < (bO.length : Int)
        ·rw [if_pos c11] at H
         have jC : decide (au < (bO.length : Int)) = true := decide_eq_true c11
         clear c11
         obtain ⟨y107, hy107⟩ : ∃ y_ : List ByteArray, y_ = (bO.set (au : Int).toNat aX) := ⟨_, rfl⟩
         replace H : (eO.l0 k1 y107 l0 (l0.length : Int) (wrap64 (au + 1))) = some r := by first | (rw [hy107]; with_reducible exact H) | (have H2_ := (Option.bind_some _ _).symm.trans H; rw [hy107]; with_reducible exact H2_) | (have H2_ := (Option.bind_some _ _).symm.trans H; with_reducible exact H2_) | with_reducible exact H | (rw [hy107]; exact H) | exact H
         have Ny107 := af.mk hy107
         clear hy107
         have H' := af.mk H
         clear H
         have p104 : 0 ≤ (au : Int) := of_decide_eq_true qa
         have q104 : au < (l0.length : Int) := of_decide_eq_true qa
         obtain ⟨ad104, e104, hx104_0, hx104_1, hx104_2, hx104_3, hx104_4, hx104_5, hx104_6, hx104_7⟩ := j4 HR0.out au p104 q104
         cases e104
         replace hx104_0 := (HB.out.cell (World.block_lt_of_cell? w _ hx104_0)).trans hx104_0
         replace hx104_1 := (HB.out.cell (World.block_lt_of_cell? w _ hx104_1)).trans hx104_1
         replace hx104_2 := (HB.out.cell (World.block_lt_of_cell? w _ hx104_2)).trans hx104_2
         replace hx104_3 := (HB.out.cell (World.block_lt_of_cell? w _ hx104_3)).trans hx104_3
         replace hx104_4 := (HB.out.cell (World.block_lt_of_cell? w _ hx104_4)).trans hx104_4
         replace hx104_5 := (HB.out.cell (World.block_lt_of_cell? w _ hx104_5)).trans hx104_5
         replace hx104_6 := (HB.out.cell (World.block_lt_of_cell? w _ hx104_6)).trans hx104_6
         replace hx104_7 := (HB.out.cell (World.block_lt_of_cell? w _ hx104_7)).trans hx104_7
         replace p104 := eq_true p104
         replace q104 := eq_true q104
         go_wp2_with (first | ((with_reducible refine aU (N := 7) rfl ?_); refine bz ?hg (N := 7) ?hd (cs := #[.int .i64 0, .string (⟨#[]⟩ : ByteArray), .string (⟨#[]⟩ : ByteArray), .string (⟨#[]⟩ : ByteArray), .int .u32 0, .int .u32 0, .int .i64 0, .int .i64 0]) (t := 42) ?hr ?_; (case hd => rfl); (case hg => rfl); (case hr => first | (go_simp; done) | (go_simp; rfl)); intro dB hg w13 hbox hb; replace dN := af.mk (Kd.bH (qr dN) hb); have bD := af.mk (hbox); have GW105 := qge HB hg; have jN := qge HB hg; replace HB := af.mk (ai (qw HB) hb); clear hb hbox hg; have hcz14_0 : w13.cell? ⟨dB, 0, none⟩ = some (.int .i64 0) := (ae bD.out 0).trans rfl; have hcz14_1 : w13.cell? ⟨dB, 1, none⟩ = some (.string (⟨#[]⟩ : ByteArray)) := (ae bD.out 1).trans rfl; have hcz14_2 : w13.cell? ⟨dB, 2, none⟩ = some (.string (⟨#[]⟩ : ByteArray)) := (ae bD.out 2).trans rfl; have hcz14_3 : w13.cell? ⟨dB, 3, none⟩ = some (.string (⟨#[]⟩ : ByteArray)) := (ae bD.out 3).trans rfl; have hcz14_4 : w13.cell? ⟨dB, 4, none⟩ = some (.int .u32 0) := (ae bD.out 4).trans rfl; have hcz14_5 : w13.cell? ⟨dB, 5, none⟩ = some (.int .u32 0) := (ae bD.out 5).trans rfl; have hcz14_6 : w13.cell? ⟨dB, 6, none⟩ = some (.int .i64 0) := (ae bD.out 6).trans rfl; have hcz14_7 : w13.cell? ⟨dB, 7, none⟩ = some (.int .i64 0) := (ae bD.out 7).trans rfl; have hfz14_0 := ah bD.out 0; have hfz14_1 := ah bD.out 1; have hfz14_2 := ah bD.out 2; have hfz14_3 := ah bD.out 3; have hfz14_4 := ah bD.out 4; have hfz14_5 := ah bD.out 5; have hfz14_6 := ah bD.out 6; have hfz14_7 := ah bD.out 7) | ((with_reducible refine Go.Proofs.YthfphdbebnkdpaaDoorV.gz (s := 20) rfl ?_); refine Go.Proofs.YthfphdbebnkdpaaDoorV.jB (some 22) rfl rfl Tryd.func47 (by kernel_rfl) rfl #[.agg #[.int .i64 ((ak l0 au).f0), .string ((ak l0 au).f1), .string ((ak l0 au).f2), .string ((ak l0 au).f3), .int .u32 ((ak l0 au).f4), .int .u32 ((ak l0 au).f5.f0), .int .i64 ((ak l0 au).f5.f1), .int .i64 ((ak l0 au).f6)]] rfl qt ?_; (with_reducible refine (fw.calls k1 ((ak l0 au).f0) ((ak l0 au).f1) ((ak l0 au).f2) ((ak l0 au).f3) ((ak l0 au).f4) ((ak l0 au).f5.f0) ((ak l0 au).f5.f1) ((ak l0 au).f6) aX _ A10.out ?gt).mono ?_); (case gt => exact Go.Proofs.YthfphdbebnkdpaaDoorV.GT.below HGT (qw HB)); rintro e w15 ⟨rfl, hb⟩; refine ⟨_, rfl, ?_⟩; replace dN := af.mk (Kd.bH (by (with_reducible repeat (first | apply Kd.cB | apply Kd.cK | apply Kd.dD)); exact (Kd.fG (Kd.gy (p := ⟨dB, 7, none⟩) (Kd.gy (p := ⟨dB, 6, none⟩) (Kd.gy (p := ⟨dB, 5, none⟩) (Kd.gy (p := ⟨dB, 4, none⟩) (Kd.gy (p := ⟨dB, 3, none⟩) (Kd.gy (p := ⟨dB, 2, none⟩) (Kd.gy (p := ⟨dB, 1, none⟩) (Kd.gy (p := ⟨dB, 0, none⟩) (Kd.jR dN.out bD.out (by decide)) (fun _ hk => hk.2) (.int .i64 ((ak l0 au).f0))) (fun _ hk => hk.2) (.string ((ak l0 au).f1))) (fun _ hk => hk.2) (.string ((ak l0 au).f2))) (fun _ hk => hk.2) (.string ((ak l0 au).f3))) (fun _ hk => hk.2) (.int .u32 ((ak l0 au).f4))) (fun _ hk => hk.2) (.int .u32 ((ak l0 au).f5.f0))) (fun _ hk => hk.2) (.int .i64 ((ak l0 au).f5.f1))) (fun _ hk => hk.2) (.int .i64 ((ak l0 au).f6))) (fun _ h_ => h_.1))) hb); replace bD := af.mk (gX (g := dB) (o := .cells #[.int .i64 ((ak l0 au).f0), .string ((ak l0 au).f1), .string ((ak l0 au).f2), .string ((ak l0 au).f3), .int .u32 ((ak l0 au).f4), .int .u32 ((ak l0 au).f5.f0), .int .i64 ((ak l0 au).f5.f1), .int .i64 ((ak l0 au).f6)] 42 (0, 0)) (by refine cO (cs := #[.int .i64 ((ak l0 au).f0), .string ((ak l0 au).f1), .string ((ak l0 au).f2), .string ((ak l0 au).f3), .int .u32 ((ak l0 au).f4), .int .u32 ((ak l0 au).f5.f0), .int .i64 ((ak l0 au).f5.f1), .int .i64 0]) ?_ 7 _ rfl; refine cO (cs := #[.int .i64 ((ak l0 au).f0), .string ((ak l0 au).f1), .string ((ak l0 au).f2), .string ((ak l0 au).f3), .int .u32 ((ak l0 au).f4), .int .u32 ((ak l0 au).f5.f0), .int .i64 0, .int .i64 0]) ?_ 6 _ rfl; refine cO (cs := #[.int .i64 ((ak l0 au).f0), .string ((ak l0 au).f1), .string ((ak l0 au).f2), .string ((ak l0 au).f3), .int .u32 ((ak l0 au).f4), .int .u32 0, .int .i64 0, .int .i64 0]) ?_ 5 _ rfl; refine cO (cs := #[.int .i64 ((ak l0 au).f0), .string ((ak l0 au).f1), .string ((ak l0 au).f2), .string ((ak l0 au).f3), .int .u32 0, .int .u32 0, .int .i64 0, .int .i64 0]) ?_ 4 _ rfl; refine cO (cs := #[.int .i64 ((ak l0 au).f0), .string ((ak l0 au).f1), .string ((ak l0 au).f2), .string (⟨#[]⟩ : ByteArray), .int .u32 0, .int .u32 0, .int .i64 0, .int .i64 0]) ?_ 3 _ rfl; refine cO (cs := #[.int .i64 ((ak l0 au).f0), .string ((ak l0 au).f1), .string (⟨#[]⟩ : ByteArray), .string (⟨#[]⟩ : ByteArray), .int .u32 0, .int .u32 0, .int .i64 0, .int .i64 0]) ?_ 2 _ rfl; refine cO (cs := #[.int .i64 ((ak l0 au).f0), .string (⟨#[]⟩ : ByteArray), .string (⟨#[]⟩ : ByteArray), .string (⟨#[]⟩ : ByteArray), .int .u32 0, .int .u32 0, .int .i64 0, .int .i64 0]) ?_ 1 _ rfl; refine cO (cs := #[.int .i64 0, .string (⟨#[]⟩ : ByteArray), .string (⟨#[]⟩ : ByteArray), .string (⟨#[]⟩ : ByteArray), .int .u32 0, .int .u32 0, .int .i64 0, .int .i64 0]) ?_ 0 _ rfl; (with_reducible repeat (first | refine fK ?_ _ | refine dC ?_ | refine fJ ?_ _)); exact bD.out) hb); replace HB := af.mk (ai (qw HB) hb); (try clear hb); (try clear hb2); (try clear hk); (try clear hi); have p12 : 0 ≤ (au : Int) := of_decide_eq_true qa; have q12 : (au : Int) < ((bO.length : Int) : Int) := of_decide_eq_true qa; obtain ⟨go12, jk, iy, jl, gl12, cl12, HG12⟩ := Kd.jg dN.out (by omega); (first | cases iy | (injection iy with ea_ en_ ec_; (first | subst ea_ | (injection ea_ with ea_; subst ea_)); subst ec_; clear en_)); have kV := af.mk jl; have GG12 := af.mk HG12; clear jl gl12 HG12; obtain ⟨hx12_0, hf12_0⟩ := Kd.fD (⟨#[]⟩ : ByteArray) dN.out (au : Int) p12 q12; replace p12 := eq_true p12; replace q12 := eq_true q12; obtain ⟨hy16_, hz16_⟩ := Kd.fD (⟨#[]⟩ : ByteArray) dN.out (au : Int) (of_decide_eq_true qa) (of_decide_eq_true qa); have HP16 := Kd.ji dN.out (au : Int) aX) | ((with_reducible refine fZ (t := 9) (p := 23) rfl ?_); refine fH (t := 9) (p := 23) (v := ?vo_w17) (w1 := (w15.setCell ⟨go12, (au : Int).toNat, none⟩ (.string aX))) ?hg ?ho ?hn ?hr ?_; (case ho => rfl); (case hg => rfl); (case hn => rfl); (case hr => first | (go_simp; done) | (go_simp; rfl)); intro w17 hw; have hg : w15.grownBy w17 (some go12) := (by rw [hw]; exact HP16.2); have hp_ : Kd.R Kd.string 9 w17 w.heap.size (fun _ => True) (.slice (some ⟨go12, 0, none⟩) bO.length jk) y107 := (by rw [hw, Ny107.out]; exact HP16.1); clear HP16; replace bD := af.mk (iQ (g := dB) (o := .cells #[.int .i64 ((ak l0 au).f0), .string ((ak l0 au).f1), .string ((ak l0 au).f2), .string ((ak l0 au).f3), .int .u32 ((ak l0 au).f4), .int .u32 ((ak l0 au).f5.f0), .int .i64 ((ak l0 au).f5.f1), .int .i64 ((ak l0 au).f6)] 42 (0, 0)) (qb bD) hg (Kd.pO dN.out bD.out (by decide))); replace dN := af.mk (hp_); replace HB := af.mk ((by rw [hw]; exact bi (HB.out) kV.out : Below w.heap.size w w17)); clear hg hw hp_))
         go_roundg k1
         case measure => have := HK1.out; omega
         case rel => exact ⟨(y107), (wrap64 (au + 1)), (by first | rfl | (simp; done) | (simp [*]; done)), H', ⟨by have := HK1.out; omega⟩, ⟨by (with_reducible repeat (first | apply Kd.cB | apply Kd.cK | apply Kd.dD)); exact dN.out⟩, ⟨by repeat (first | (with_reducible first | exact HB.out | apply aA | apply aj | apply av | refine bi ?_ jN.out) | exact HB.out)⟩⟩
        ·rw [if_neg c11] at H
         exact absurd H (by simp)
       ·rw [if_neg c9] at H
        exact absurd H (by simp)
      ·rw [if_neg c8] at H
       exact absurd H (by simp)
     ·rw [if_neg c7] at H
      have iZ : decide (au < (l0.length : Int)) = false := decide_eq_false c7
      clear c7
      obtain rfl := Option.some.inj H
      go_wp2
      go_ret
      exact ⟨_, by first | rfl | (simp [errW_none, errW_some] <;> rfl) | (simp [*, errW_none, errW_some] <;> rfl), by (with_reducible repeat (first | apply Kd.cB | apply Kd.cK | apply Kd.dD)); exact dN.out, by repeat (first | (with_reducible first | exact HB.out | apply aA | apply aj | apply av) | exact HB.out)⟩
  ·rw [if_neg c4] at H
   exact absurd H (by simp)
 ·rw [if_neg c3] at H
  exact absurd H (by simp)
end Go.Proofs.YthfphdbebnkdpaaDoor.P
end
section
namespace Go.Proofs.YthfphdbebnkdpaaDoor.P
open Go.RowKit Go.Proofs.YthfphdbebnkdpaaDoorW.aH Go.Proofs.YthfphdbebnkdpaaDoorW.aV Go.Proofs.YthfphdbebnkdpaaDoorW.bn
attribute [local go_sem] bR bS dn dw bB bC bU bV
set_option linter.unusedVariables false
set_option linter.unusedSimpArgs false
def fF.f (k : Nat) (l0 : List (S42)) : Option (ByteArray) := (eO.f k l0 qH).bind fun dG => ((strings_Join.f dG (⟨#[]⟩ : ByteArray)).bind fun bf => (some bf))
set_option maxHeartbeats 8000000 in
set_option maxRecDepth 100000 in
theorem fF.calls (k : Nat) (A0 : Option Addr) (c0 : Nat) (l0 : List (S42)) (r : ByteArray) (w : World) (hr0 : Kd.C k42 w A0 l0.length l0) (hc0 : l0.length ≤ c0) (h : fF.f k l0 = some r) (HGT : af (Go.Proofs.YthfphdbebnkdpaaDoorV.GT w)) :
  Calls Tryd.prog 19 #[.slice A0 l0.length c0] w fun e w' => e = .returned (.string r) ∧ Below w.heap.size w w' := by
 have HR0 := af.mk hr0
 have HC0 := af.mk hc0
 clear hr0 hc0
 have HB := af.mk (Below.refl w.heap.size w)
 have H : ((eO.f k l0 qH).bind fun dG => ((strings_Join.f dG (⟨#[]⟩ : ByteArray)).bind fun bf => (some bf))) = some r := h
 clear h
 replace H := Option.bind_eq_some_iff.mp H
 obtain ⟨dG, A20, H⟩ := H
 replace H : ((strings_Join.f dG (⟨#[]⟩ : ByteArray)).bind fun bf => (some bf)) = some r := H
 have A2 := af.mk A20
 clear A20
 replace H := Option.bind_eq_some_iff.mp H
 obtain ⟨bf, A30, H⟩ := H
 replace H : (some bf) = some r := H
 have A3 := af.mk A30
 clear A30
 obtain rfl := Option.some.inj H
 go_enter Tryd.func19, Tryd.ntmps19
 go_wp2_with (first | ((with_reducible refine aN (f := 46) rfl ?_); refine cu (some 4) rfl rfl Tryd.func46 (by kernel_rfl) rfl #[.slice A0 l0.length c0, .func (.func 47) #[] #[]] rfl qt ?_; (with_reducible refine (eO.calls k _ _ l0 qH dG _ ?bI ?bJ A2.out ?gt).mono ?_); (case gt => exact Go.Proofs.YthfphdbebnkdpaaDoorV.GT.below HGT (qw HB)); (case bI => exact qs (HR0.out)); (case bJ => exact HC0.out); rintro e w4 ⟨v102, rfl, ho0, hb⟩; refine ⟨_, rfl, ?_⟩; have eD := af.mk (Kd.dI ho0 (bg (qw HB))); replace HB := af.mk (ai (qw HB) hb); (try clear hb); (try clear hb2); (try clear hk); (try clear hi); (try clear ho0); obtain ⟨Ao5, co5, eo5⟩ := Kd.dW eD.out; subst eo5) | ((with_reducible refine aN (f := 45) rfl ?_); refine cu (some 5) rfl rfl Tryd.func45 (by kernel_rfl) rfl #[.slice Ao5 dG.length co5, .string (⟨#[]⟩ : ByteArray)] rfl qt ?_; (with_reducible refine (strings_Join.calls _ _ dG (⟨#[]⟩ : ByteArray) bf _ ?bI ?bJ A3.out).mono ?_); (case bI => exact qs ((Kd.aZ eD.out).2.2)); (case bJ => exact (Kd.aZ eD.out).2.1); rintro e w6 ⟨rfl, hb⟩; refine ⟨_, rfl, ?_⟩; replace eD := af.mk (Kd.bH (qr eD) hb); replace HB := af.mk (ai (qw HB) hb); (try clear hb); (try clear hb2); (try clear hk); (try clear hi)))
 go_ret
 exact ⟨by first | rfl | (simp [errW_none, errW_some] <;> rfl) | (simp [*, errW_none, errW_some] <;> rfl), by repeat (first | (with_reducible first | exact HB.out | apply aA | apply aj | apply av) | exact HB.out)⟩
end Go.Proofs.YthfphdbebnkdpaaDoor.P
end
section
namespace Go.Proofs.YthfphdbebnkdpaaDoor.P
open Go.RowKit Go.Proofs.YthfphdbebnkdpaaDoorW.aH Go.Proofs.YthfphdbebnkdpaaDoorW.aV Go.Proofs.YthfphdbebnkdpaaDoorW.bn
attribute [local go_sem] bR bS dn dw bB bC bU bV
set_option linter.unusedVariables false
set_option linter.unusedSimpArgs false
def gZ.f (a0 : Int) : Option (Int) := if a0 < 2 then (some 2) else (if a0 > 36 then (some 2) else (some 0))
set_option maxHeartbeats 8000000 in
set_option maxRecDepth 100000 in
theorem gZ.calls (a0 : Int) (r : Int) (w : World) (h : gZ.f a0 = some r) :
  Calls Tryd.prog 114 #[.int .i64 a0] w fun e w' => e = .returned (.int .i64 r) ∧ dL w w' := by
 have H : (if a0 < 2 then (some 2) else (if a0 > 36 then (some 2) else (some 0))) = some r := h
 clear h
 by_cases c2 : a0 < 2
 ·rw [if_pos c2] at H
  have jr : decide (a0 < 2) = true := decide_eq_true c2
  clear c2
  obtain rfl := Option.some.inj H
  go_enter Tryd.func114, Tryd.ntmps114
  go_wp2
  go_ret
  exact ⟨by first | rfl | (simp; done) | (simp [*]; done), by repeat (first | exact dL.refl _ | apply dL.step)⟩
 ·rw [if_neg c2] at H
  have jr : decide (a0 < 2) = false := decide_eq_false c2
  clear c2
  by_cases c3 : a0 > 36
  ·rw [if_pos c3] at H
   have gG : decide (36 < a0) = true := decide_eq_true c3
   clear c3
   obtain rfl := Option.some.inj H
   go_enter Tryd.func114, Tryd.ntmps114
   go_wp2
   go_ret
   exact ⟨by first | rfl | (simp; done) | (simp [*]; done), by repeat (first | exact dL.refl _ | apply dL.step)⟩
  ·rw [if_neg c3] at H
   have gG : decide (36 < a0) = false := decide_eq_false c3
   clear c3
   obtain rfl := Option.some.inj H
   go_enter Tryd.func114, Tryd.ntmps114
   go_wp2
   go_ret
   exact ⟨by first | rfl | (simp; done) | (simp [*]; done), by repeat (first | exact dL.refl _ | apply dL.step)⟩
end Go.Proofs.YthfphdbebnkdpaaDoor.P
end
section
namespace Go.Proofs.YthfphdbebnkdpaaDoor.P
open Go.RowKit Go.Proofs.YthfphdbebnkdpaaDoorW.aH Go.Proofs.YthfphdbebnkdpaaDoorW.aV Go.Proofs.YthfphdbebnkdpaaDoorW.bn
attribute [local go_sem] bR bS dn dw bB bC bU bV
set_option linter.unusedVariables false
set_option linter.unusedSimpArgs false
def bW.l0 : Nat → Int → Int → Int → Option (Int × Int)
 | 0, _, _, _ => none
 | k + 1, x0, x4, x5 => if (IntKind.u64.wrap (x4 * (IntKind.u64.wrap (x0)))) < 4294967296 then (bW.l0 k x0 (IntKind.u64.wrap (x4 * (IntKind.u64.wrap (x0)))) (wrap64 (x5 + 1))) else (some (x4, x5))
def bW.f (k : Nat) (a0 : Int) : Option (Int × Int) := bW.l0 k a0 (IntKind.u64.wrap (a0)) 1
theorem bW.dZ : ∀ k, (∀ y0 y1 y2, LeO (bW.l0 k y0 y1 y2) (bW.l0 (k + 1) y0 y1 y2))
 | 0 => fun _ _ _ r h => by simp [bW.l0] at h
 | k + 1 => by
  have ih0 := bW.dZ k
  ·intro y0 y1 y2
   unfold bW.l0
   repeat' first
   | (with_reducible exact ih0 _ _ _)
   | (with_reducible exact LeO.refl _)
   | (with_reducible exact LeO.none _)
   | (with_reducible refine LeO.ite ?_ ?_)
   | (with_reducible refine LeO.bind ?_ (fun _ => ?_))
   | exact ih0 _ _ _
   | exact LeO.none _
   | refine LeO.ite ?_ ?_
   | refine LeO.bind ?_ (fun _ => ?_)
theorem bW.mono : ∀ a0 k, LeO (bW.f k a0) (bW.f (k + 1) a0) := by
 intro a0 k
 have ih0 := bW.dZ k
 unfold bW.f
 repeat' first
   | (with_reducible exact ih0 _ _ _)
   | (with_reducible exact LeO.refl _)
   | (with_reducible exact LeO.none _)
   | (with_reducible refine LeO.ite ?_ ?_)
   | (with_reducible refine LeO.bind ?_ (fun _ => ?_))
   | exact ih0 _ _ _
   | exact LeO.none _
   | refine LeO.ite ?_ ?_
   | refine LeO.bind ?_ (fun _ => ?_)
set_option maxHeartbeats 8000000 in
set_option maxRecDepth 100000 in
theorem bW.calls (k : Nat) (a0 : Int) (r1 : Int) (r2 : Int) (w : World) (h : bW.f k a0 = some (r1, r2)) :
  Calls Tryd.prog 115 #[.int .i64 a0] w fun e w' => e = .returned (.tuple #[.int .u64 r1, .int .i64 r2]) ∧ dL w w' := by
 have H : (bW.l0 k a0 (IntKind.u64.wrap (a0)) 1) = some (r1, r2) := h
 clear h
 have H' := af.mk H
 clear H
 go_enter Tryd.func115, Tryd.ntmps115
 go_wp2
 go_loopg [4, 5] k (fun kq v4 v5 w' => ∃ (aI : Int) (bO : Int), v4 = .int .u64 aI ∧ v5 = .int .i64 bO ∧ af (bW.l0 kq a0 aI bO = some (r1, r2)) ∧ af (kq ≤ k) ∧ dL w w')
 case atStart => exact ⟨(IntKind.u64.wrap (a0)), (1), (by first | rfl | (simp; done) | (simp [*]; done)), (by first | rfl | (simp; done) | (simp [*]; done)), H', ⟨Nat.le_refl _⟩, by repeat (first | exact dL.refl _ | apply dL.step)⟩
 case round =>
  clear H'
  try clear c1
  obtain ⟨aI, bO, rfl, rfl, HA, HK1, ⟨m1, rfl⟩⟩ := hrel
  cases gk with
  | zero => exact absurd HA.out (by simp [bW.l0])
  | succ k1 =>
   have H := HA.out
   clear HA
   simp only [bW.l0] at H
   by_cases c2 : (IntKind.u64.wrap (aI * (IntKind.u64.wrap (a0)))) < 4294967296
   ·rw [if_pos c2] at H
    have jr : decide ((IntKind.u64.wrap (aI * (IntKind.u64.wrap (a0)))) < 4294967296) = true := decide_eq_true c2
    clear c2
    have H' := af.mk H
    clear H
    go_wp2
    go_roundg k1
    case measure => have := HK1.out; omega
    case rel => exact ⟨(IntKind.u64.wrap (aI * (IntKind.u64.wrap (a0)))), (wrap64 (bO + 1)), (by first | rfl | (simp; done) | (simp [*]; done)), (by first | rfl | (simp; done) | (simp [*]; done)), H', ⟨by have := HK1.out; omega⟩, by repeat (first | exact dL.refl _ | apply dL.step)⟩
   ·rw [if_neg c2] at H
    have jr : decide ((IntKind.u64.wrap (aI * (IntKind.u64.wrap (a0)))) < 4294967296) = false := decide_eq_false c2
    clear c2
    simp only [Option.some.injEq, Prod.mk.injEq] at H
    obtain ⟨rfl, rfl⟩ := H
    go_wp2
    go_ret2
    exact ⟨by first | rfl | (simp; done) | (simp [*]; done), by repeat (first | exact dL.refl _ | apply dL.step)⟩
end Go.Proofs.YthfphdbebnkdpaaDoor.P
end
section
namespace Go.Proofs.YthfphdbebnkdpaaDoor.P
open Go.RowKit Go.Proofs.YthfphdbebnkdpaaDoorW.aH Go.Proofs.YthfphdbebnkdpaaDoorW.aV Go.Proofs.YthfphdbebnkdpaaDoorW.bn
attribute [local go_sem] bR bS dn dw bB bC bU bV
set_option linter.unusedVariables false
set_option linter.unusedSimpArgs false
def bG.l0 : Nat → Int → Int → Int → List Int → Int → Int → Option (ByteArray)
 | 0, _, _, _, _, _, _ => none
 | k + 1, x0, x1, x2, x7, x11, x12 => if x12 < x11 then (if (IntKind.u64.wrap (x1)) = 0 then (none) else (if 0 ≤ (Int.tmod x0 (IntKind.u64.wrap (x1))) then (if (Int.tmod x0 (IntKind.u64.wrap (x1))) < 36 then (if 0 ≤ (wrap64 ((wrap64 (x2 - 1)) - x12)) then (if (wrap64 ((wrap64 (x2 - 1)) - x12)) < (x7.length : Int) then (bG.l0 k (IntKind.u64.wrap (Int.tdiv x0 (IntKind.u64.wrap (x1)))) x1 x2 (x7.set ((wrap64 ((wrap64 (x2 - 1)) - x12)) : Int).toNat (bt (⟨#[48, 49, 50, 51, 52, 53, 54, 55, 56, 57, 97, 98, 99, 100, 101, 102, 103, 104, 105, 106, 107, 108, 109, 110, 111, 112, 113, 114, 115, 116, 117, 118, 119, 120, 121, 122]⟩ : ByteArray) (Int.tmod x0 (IntKind.u64.wrap (x1))))) x11 (wrap64 (x12 + 1))) else (none)) else (none)) else (none)) else (none))) else (some (strOfNums x7))
def bG.f (k : Nat) (a0 : Int) (a1 : Int) (a2 : Int) : Option (ByteArray) := if 0 ≤ a2 then (if (a2 : Int).toNat ≤ 281474976710656 then (bG.l0 k a0 a1 a2 (List.replicate (a2 : Int).toNat 0) a2 0) else (none)) else (none)
theorem bG.dZ : ∀ k, (∀ y0 y1 y2 y3 y4 y5, LeO (bG.l0 k y0 y1 y2 y3 y4 y5) (bG.l0 (k + 1) y0 y1 y2 y3 y4 y5))
 | 0 => fun _ _ _ _ _ _ r h => by simp [bG.l0] at h
 | k + 1 => by
  have ih0 := bG.dZ k
  ·intro y0 y1 y2 y3 y4 y5
   unfold bG.l0
   repeat' first
   | (with_reducible exact ih0 _ _ _ _ _ _)
   | (with_reducible exact LeO.refl _)
   | (with_reducible exact LeO.none _)
   | (with_reducible refine LeO.ite ?_ ?_)
   | (with_reducible refine LeO.bind ?_ (fun _ => ?_))
   | exact ih0 _ _ _ _ _ _
   | exact LeO.none _
   | refine LeO.ite ?_ ?_
   | refine LeO.bind ?_ (fun _ => ?_)
theorem bG.mono : ∀ a0 a1 a2 k, LeO (bG.f k a0 a1 a2) (bG.f (k + 1) a0 a1 a2) := by
 intro a0 a1 a2 k
 have ih0 := bG.dZ k
 unfold bG.f
 repeat' first
   | (with_reducible exact ih0 _ _ _ _ _ _)
   | (with_reducible exact LeO.refl _)
   | (with_reducible exact LeO.none _)
   | (with_reducible refine LeO.ite ?_ ?_)
   | (with_reducible refine LeO.bind ?_ (fun _ => ?_))
   | exact ih0 _ _ _ _ _ _
   | exact LeO.none _
   | refine LeO.ite ?_ ?_
   | refine LeO.bind ?_ (fun _ => ?_)
set_option maxHeartbeats 8000000 in
set_option maxRecDepth 100000 in
theorem bG.calls (k : Nat) (a0 : Int) (a1 : Int) (a2 : Int) (r : ByteArray) (w : World) (h : bG.f k a0 a1 a2 = some r) :
  Calls Tryd.prog 116 #[.int .u64 a0, .int .i64 a1, .int .i64 a2] w fun e w' => e = .returned (.string r) ∧ Below w.heap.size w w' := by
 have HB := af.mk (Below.refl w.heap.size w)
 have H : (if 0 ≤ a2 then (if (a2 : Int).toNat ≤ 281474976710656 then (bG.l0 k a0 a1 a2 (List.replicate (a2 : Int).toNat 0) a2 0) else (none)) else (none)) = some r := h
 clear h
 by_cases c4 : 0 ≤ a2
 ·rw [if_pos c4] at H
  have ic := eq_true c4
  have iA : decide (0 ≤ a2) = true := decide_eq_true c4
  clear c4
  by_cases c5 : (a2 : Int).toNat ≤ 281474976710656
  ·rw [if_pos c5] at H
   have iL := eq_true c5
   have kC : decide ((a2 : Int).toNat ≤ 281474976710656) = true := decide_eq_true c5
   clear c5
   obtain ⟨y101, hy101⟩ : ∃ y_ : List Int, y_ = (List.replicate (a2 : Int).toNat 0) := ⟨_, rfl⟩
   replace H : (bG.l0 k a0 a1 a2 y101 a2 0) = some r := by first | (rw [hy101]; with_reducible exact H) | (have H2_ := (Option.bind_some _ _).symm.trans H; rw [hy101]; with_reducible exact H2_) | (have H2_ := (Option.bind_some _ _).symm.trans H; with_reducible exact H2_) | with_reducible exact H | (rw [hy101]; exact H) | exact H
   have Ny101 := af.mk hy101
   clear hy101
   have H' := af.mk H
   clear H
   go_enter Tryd.func116, Tryd.ntmps116
   go_wp2_with (first | ((with_reducible refine aU (N := 10) rfl ?_); refine Kd.jh (Kd.int .u8) _ 5 rfl (N := 10) rfl 102 _ _ rfl a2 rfl rfl Tryd.underlying102 (.int .u8 0) 1 info5 rfl (by decide) (by omega) 0 (ok := fun _ => True) (okp := fun _ => True) rfl (fun _ hk => hk) trivial (of_decide_eq_true qa) (Nat.le_trans (Nat.mul_le_mul_right _ (of_decide_eq_true qa : a2.toNat ≤ 281474976710656)) (by omega)) (Below.refl _ _) (Nat.le_refl _) ?_; intro v102 w6 ho7 hb hg_ hnew_; clear hg_ hnew_; (first | rw [← Ny101.out] at ho7 | (simp only [Int.reduceToNat] at ho7; rw [← Ny101.out] at ho7)); have eD := af.mk (Kd.dI ho7 (bg (qw HB))); replace HB := af.mk (ai (qw HB) hb); clear hb ho7))
   go_loopg [0, 12] k (fun kq v0 v12 w' => ∃ (pu : Int) (iM : List Int) (fu : Int), v0 = .int .u64 pu ∧ v12 = .int .i64 fu ∧ af (bG.l0 kq pu a1 a2 iM a2 fu = some r) ∧ af (kq ≤ k) ∧ af (Kd.R (Kd.int .u8) 5 w' w.heap.size (fun _ => True) v102 iM) ∧ af (Below w.heap.size w w'))
   case atStart => exact ⟨(a0), (y101), (0), (by first | rfl | (simp; done) | (simp [*]; done)), (by first | rfl | (simp; done) | (simp [*]; done)), H', ⟨Nat.le_refl _⟩, ⟨by (with_reducible repeat (first | apply Kd.cB | apply Kd.cK | apply Kd.dD)); exact eD.out⟩, ⟨by repeat (first | (with_reducible first | exact HB.out | apply aA | apply aj | apply av) | exact HB.out)⟩⟩
   case round =>
    clear H'
    try clear c1
    try clear p2
    try clear c4
    try clear ic
    try clear iA
    try clear c5
    try clear iL
    try clear kC
    obtain ⟨pu, iM, fu, rfl, rfl, HA, HK1, jH, HB⟩ := hrel
    cases gk with
    | zero => exact absurd HA.out (by simp [bG.l0])
    | succ k1 =>
     have H := HA.out
     clear HA
     simp only [bG.l0] at H
     by_cases c8 : fu < a2
     ·rw [if_pos c8] at H
      have jM : decide (fu < a2) = true := decide_eq_true c8
      clear c8
      by_cases c9 : (IntKind.u64.wrap (a1)) = 0
      ·rw [if_pos c9] at H
       exact absurd H (by simp)
      ·rw [if_neg c9] at H
       have kT : ((IntKind.u64.wrap (a1)) == 0) = false := beq_eq_false_iff_ne.mpr c9
       have tC : ((IntKind.u64.wrap (a1)) != 0) = true := bne_iff_ne.mpr c9
       obtain ⟨ji10, hji10⟩ : ∃ j_ : Int, (Int.tmod pu (IntKind.u64.wrap (a1))) = j_ := ⟨_, rfl⟩
       replace H : (if 0 ≤ (ji10) then (if (ji10) < 36 then (if 0 ≤ (wrap64 ((wrap64 (a2 - 1)) - fu)) then (if (wrap64 ((wrap64 (a2 - 1)) - fu)) < (iM.length : Int) then (bG.l0 k1 (IntKind.u64.wrap (Int.tdiv pu (IntKind.u64.wrap (a1)))) a1 a2 (iM.set ((wrap64 ((wrap64 (a2 - 1)) - fu)) : Int).toNat (bt (⟨#[48, 49, 50, 51, 52, 53, 54, 55, 56, 57, 97, 98, 99, 100, 101, 102, 103, 104, 105, 106, 107, 108, 109, 110, 111, 112, 113, 114, 115, 116, 117, 118, 119, 120, 121, 122]⟩ : ByteArray) (ji10))) a2 (wrap64 (fu + 1))) else (none)) else (none)) else (none)) else (none)) = some r := by first | (rw [hji10] at H; exact H) | (simp only [hji10] at H ⊢; exact H)
       by_cases c11 : 0 ≤ (ji10)
       ·rw [if_pos c11] at H
        have jC : decide (0 ≤ (ji10)) = true := decide_eq_true c11
        clear c11
        by_cases c12 : (ji10) < 36
        ·rw [if_pos c12] at H
         have qJ : decide ((ji10) < 36) = true := decide_eq_true c12
         clear c12
         obtain ⟨ji14, hji14⟩ : ∃ j_ : Int, (wrap64 ((wrap64 (a2 - 1)) - fu)) = j_ := ⟨_, rfl⟩
         (try (have hji14r := hji14; simp only [hji10] at hji14r))
         (try (have hji14wr := (iP _).trans hji14r))
         replace H : (if 0 ≤ (ji14) then (if (ji14) < (iM.length : Int) then (bG.l0 k1 (IntKind.u64.wrap (Int.tdiv pu (IntKind.u64.wrap (a1)))) a1 a2 (iM.set ((ji14) : Int).toNat (bt (⟨#[48, 49, 50, 51, 52, 53, 54, 55, 56, 57, 97, 98, 99, 100, 101, 102, 103, 104, 105, 106, 107, 108, 109, 110, 111, 112, 113, 114, 115, 116, 117, 118, 119, 120, 121, 122]⟩ : ByteArray) (ji10))) a2 (wrap64 (fu + 1))) else (none)) else (none)) = some r := by first | (rw [hji14] at H; exact H) | (simp only [hji14] at H ⊢; exact H)
         have hji14w : (IntKind.i64.wrap ((wrap64 (a2 - 1)) - fu)) = ji14 := (iP _).trans hji14
         by_cases c15 : 0 ≤ (ji14)
         ·rw [if_pos c15] at H
          have xE : decide (0 ≤ (ji14)) = true := decide_eq_true c15
          clear c15
          by_cases c16 : (ji14) < (iM.length : Int)
          ·rw [if_pos c16] at H
           have vH : decide ((ji14) < (iM.length : Int)) = true := decide_eq_true c16
           clear c16
           obtain ⟨y104, hy104⟩ : ∃ y_ : List Int, y_ = (iM.set ((ji14) : Int).toNat (bt (⟨#[48, 49, 50, 51, 52, 53, 54, 55, 56, 57, 97, 98, 99, 100, 101, 102, 103, 104, 105, 106, 107, 108, 109, 110, 111, 112, 113, 114, 115, 116, 117, 118, 119, 120, 121, 122]⟩ : ByteArray) (ji10))) := ⟨_, rfl⟩
           replace H : (bG.l0 k1 (IntKind.u64.wrap (Int.tdiv pu (IntKind.u64.wrap (a1)))) a1 a2 y104 a2 (wrap64 (fu + 1))) = some r := by first | (rw [hy104]; with_reducible exact H) | (have H2_ := (Option.bind_some _ _).symm.trans H; rw [hy104]; with_reducible exact H2_) | (have H2_ := (Option.bind_some _ _).symm.trans H; with_reducible exact H2_) | with_reducible exact H | (rw [hy104]; exact H) | exact H
           have Ny104 := af.mk hy104
           clear hy104
           have H' := af.mk H
           clear H
           have p13 : 0 ≤ ((ji10) : Int) := of_decide_eq_true qa
           have q13 : (ji10) < (36 : Int) := of_decide_eq_true qa
           have hx13 := wO (⟨#[48, 49, 50, 51, 52, 53, 54, 55, 56, 57, 97, 98, 99, 100, 101, 102, 103, 104, 105, 106, 107, 108, 109, 110, 111, 112, 113, 114, 115, 116, 117, 118, 119, 120, 121, 122]⟩ : ByteArray) (ji10)
           replace p13 := eq_true p13
           replace q13 := eq_true q13
           have p17 : 0 ≤ ((ji14) : Int) := of_decide_eq_true qa
           have q17 : ((ji14) : Int) < ((iM.length : Int) : Int) := of_decide_eq_true qa
           obtain ⟨go17, rF, qh, yc, gl17, cl17, HG17⟩ := Kd.jg jH.out (by omega)
           (first | cases qh | (injection qh with ea_ en_ ec_; (first | subst ea_ | (injection ea_ with ea_; subst ea_)); subst ec_; clear en_))
           have zn := af.mk yc
           have GG17 := af.mk HG17
           clear yc gl17 HG17
           obtain ⟨hx17_0, hf17_0⟩ := Kd.fD 0 jH.out ((ji14) : Int) p17 q17
           replace p17 := eq_true p17
           replace q17 := eq_true q17
           have HP18 := Kd.ji jH.out ((ji14) : Int) (bt (⟨#[48, 49, 50, 51, 52, 53, 54, 55, 56, 57, 97, 98, 99, 100, 101, 102, 103, 104, 105, 106, 107, 108, 109, 110, 111, 112, 113, 114, 115, 116, 117, 118, 119, 120, 121, 122]⟩ : ByteArray) (ji10))
           go_wp2_with (first | ((with_reducible refine fZ (t := 5) (p := 25) rfl ?_); refine fH (t := 5) (p := 25) (v := ?vo_w19) (w1 := (wr.setCell ⟨go17, ((ji14) : Int).toNat, none⟩ (.int .u8 (bt (⟨#[48, 49, 50, 51, 52, 53, 54, 55, 56, 57, 97, 98, 99, 100, 101, 102, 103, 104, 105, 106, 107, 108, 109, 110, 111, 112, 113, 114, 115, 116, 117, 118, 119, 120, 121, 122]⟩ : ByteArray) (ji10))))) ?hg ?ho ?hn ?hr ?_; (case ho => rfl); (case hg => rfl); (case hn => rfl); (case hr => first | (go_simp; done) | (go_simp; rfl)); intro w19 hw; have hg : wr.grownBy w19 (some go17) := (by rw [hw]; exact HP18.2); have hp_ : Kd.R (Kd.int .u8) 5 w19 w.heap.size (fun _ => True) (.slice (some ⟨go17, 0, none⟩) iM.length rF) y104 := (by rw [hw, Ny104.out]; exact HP18.1); clear HP18; replace jH := af.mk (hp_); replace HB := af.mk ((by rw [hw]; exact bi (HB.out) zn.out : Below w.heap.size w w19)); clear hg hw hp_))
           go_roundg k1
           case measure => have := HK1.out; omega
           case rel => exact ⟨(IntKind.u64.wrap (Int.tdiv pu (IntKind.u64.wrap (a1)))), (y104), (wrap64 (fu + 1)), (by first | rfl | (simp; done) | (simp [*]; done)), (by first | rfl | (simp; done) | (simp [*]; done)), H', ⟨by have := HK1.out; omega⟩, ⟨by (with_reducible repeat (first | apply Kd.cB | apply Kd.cK | apply Kd.dD)); exact jH.out⟩, ⟨by repeat (first | (with_reducible first | exact HB.out | apply aA | apply aj | apply av) | exact HB.out)⟩⟩
          ·rw [if_neg c16] at H
           exact absurd H (by simp)
         ·rw [if_neg c15] at H
          exact absurd H (by simp)
        ·rw [if_neg c12] at H
         exact absurd H (by simp)
       ·rw [if_neg c11] at H
        exact absurd H (by simp)
     ·rw [if_neg c8] at H
      have jM : decide (fu < a2) = false := decide_eq_false c8
      clear c8
      obtain rfl := Option.some.inj H
      have hcv20 := kJ (P := Tryd.prog) Tryd.underlying102 Tryd.underlying5 Tryd.underlying9 (Kd.jZ jH.out)
      go_wp2
      go_ret
      exact ⟨by first | rfl | (simp [errW_none, errW_some] <;> rfl) | (simp [*, errW_none, errW_some] <;> rfl), by repeat (first | (with_reducible first | exact HB.out | apply aA | apply aj | apply av) | exact HB.out)⟩
  ·rw [if_neg c5] at H
   exact absurd H (by simp)
 ·rw [if_neg c4] at H
  exact absurd H (by simp)
end Go.Proofs.YthfphdbebnkdpaaDoor.P
end
section
namespace Go.Proofs.YthfphdbebnkdpaaDoor.P
open Go.RowKit Go.Proofs.YthfphdbebnkdpaaDoorW.aH Go.Proofs.YthfphdbebnkdpaaDoorW.aV Go.Proofs.YthfphdbebnkdpaaDoorW.bn
attribute [local go_sem] bR bS dn dw bB bC bU bV
set_option linter.unusedVariables false
set_option linter.unusedSimpArgs false
def kg.f (a0 : Int) (a1 : Int) (a2 : Int) : Option (Int × Int × Int) := if (Go.bits .and .u64 a2 4294967295) = 0 then (some (0, 0, 3)) else (if (Go.bits .and .u64 a0 4294967295) ≥ (Go.bits .and .u64 a2 4294967295) then (some (0, 0, 2)) else (some (IntKind.u64.wrap (Int.tdiv (Go.bits .or .u64 (IntKind.u64.wrap ((Go.bits .and .u64 a0 4294967295) * 4294967296)) (Go.bits .and .u64 a1 4294967295)) (Go.bits .and .u64 a2 4294967295)), Int.tmod (Go.bits .or .u64 (IntKind.u64.wrap ((Go.bits .and .u64 a0 4294967295) * 4294967296)) (Go.bits .and .u64 a1 4294967295)) (Go.bits .and .u64 a2 4294967295), 0)))
set_option maxHeartbeats 8000000 in
set_option maxRecDepth 100000 in
theorem kg.calls (a0 : Int) (a1 : Int) (a2 : Int) (r1 : Int) (r2 : Int) (r3 : Int) (w : World) (h : kg.f a0 a1 a2 = some (r1, r2, r3)) :
  Calls Tryd.prog 86 #[.int .u64 a0, .int .u64 a1, .int .u64 a2] w fun e w' => e = .returned (.tuple #[.int .u64 r1, .int .u64 r2, .int .i64 r3]) ∧ dL w w' := by
 have H : (if (Go.bits .and .u64 a2 4294967295) = 0 then (some (0, 0, 3)) else (if (Go.bits .and .u64 a0 4294967295) ≥ (Go.bits .and .u64 a2 4294967295) then (some (0, 0, 2)) else (some (IntKind.u64.wrap (Int.tdiv (Go.bits .or .u64 (IntKind.u64.wrap ((Go.bits .and .u64 a0 4294967295) * 4294967296)) (Go.bits .and .u64 a1 4294967295)) (Go.bits .and .u64 a2 4294967295)), Int.tmod (Go.bits .or .u64 (IntKind.u64.wrap ((Go.bits .and .u64 a0 4294967295) * 4294967296)) (Go.bits .and .u64 a1 4294967295)) (Go.bits .and .u64 a2 4294967295), 0)))) = some (r1, r2, r3) := h
 clear h
 by_cases c4 : (Go.bits .and .u64 a2 4294967295) = 0
 ·rw [if_pos c4] at H
  have ic : ((Go.bits .and .u64 a2 4294967295) == 0) = true := beq_iff_eq.mpr c4
  have iA : ((Go.bits .and .u64 a2 4294967295) != 0) = false := bne_eq_false_iff_eq.mpr c4
  clear c4
  simp only [Option.some.injEq, Prod.mk.injEq] at H
  obtain ⟨rfl, rfl, rfl⟩ := H
  go_enter Tryd.func86, Tryd.ntmps86
  go_wp2
  repeat (go_quiet (fail); try go_wp2)
  go_ret3
  exact ⟨by first | rfl | (simp; done) | (simp [*]; done), by repeat (first | exact dL.refl _ | apply dL.step)⟩
 ·rw [if_neg c4] at H
  have ic : ((Go.bits .and .u64 a2 4294967295) == 0) = false := beq_eq_false_iff_ne.mpr c4
  have iA : ((Go.bits .and .u64 a2 4294967295) != 0) = true := bne_iff_ne.mpr c4
  by_cases c5 : (Go.bits .and .u64 a0 4294967295) ≥ (Go.bits .and .u64 a2 4294967295)
  ·rw [if_pos c5] at H
   have iL : decide ((Go.bits .and .u64 a2 4294967295) ≤ (Go.bits .and .u64 a0 4294967295)) = true := decide_eq_true c5
   clear c5
   simp only [Option.some.injEq, Prod.mk.injEq] at H
   obtain ⟨rfl, rfl, rfl⟩ := H
   go_enter Tryd.func86, Tryd.ntmps86
   go_wp2
   repeat (go_quiet (fail); try go_wp2)
   go_ret3
   exact ⟨by first | rfl | (simp; done) | (simp [*]; done), by repeat (first | exact dL.refl _ | apply dL.step)⟩
  ·rw [if_neg c5] at H
   have iL : decide ((Go.bits .and .u64 a2 4294967295) ≤ (Go.bits .and .u64 a0 4294967295)) = false := decide_eq_false c5
   clear c5
   simp only [Option.some.injEq, Prod.mk.injEq] at H
   obtain ⟨rfl, rfl, rfl⟩ := H
   go_enter Tryd.func86, Tryd.ntmps86
   go_wp2
   repeat (go_quiet (fail); try go_wp2)
   go_ret3
   exact ⟨by first | rfl | (simp; done) | (simp [*]; done), by repeat (first | exact dL.refl _ | apply dL.step)⟩
end Go.Proofs.YthfphdbebnkdpaaDoor.P
end
section
namespace Go.Proofs.YthfphdbebnkdpaaDoor.P
open Go.RowKit Go.Proofs.YthfphdbebnkdpaaDoorW.aH Go.Proofs.YthfphdbebnkdpaaDoorW.aV Go.Proofs.YthfphdbebnkdpaaDoorW.bn
attribute [local go_sem] bR bS dn dw bB bC bU bV
set_option linter.unusedVariables false
set_option linter.unusedSimpArgs false
def dM.l0 : Nat → List Int → Int → Option (List Int)
 | 0, _, _ => none
 | k + 1, x0, x3 => if x3 > 0 then (if 0 ≤ (wrap64 (x3 - 1)) then (if (wrap64 (x3 - 1)) < (x0.length : Int) then (if (rd x0 (wrap64 (x3 - 1))) = 0 then (dM.l0 k x0 (wrap64 (x3 - 1))) else (if 0 ≤ x3 then (if x3 ≤ (x0.length : Int) then (some (x0.take (x3 : Int).toNat)) else (none)) else (none))) else (none)) else (none)) else (if 0 ≤ x3 then (if x3 ≤ (x0.length : Int) then (some (x0.take (x3 : Int).toNat)) else (none)) else (none))
def dM.f (k : Nat) (l0 : List Int) : Option (List Int) := dM.l0 k l0 (l0.length : Int)
theorem dM.dZ : ∀ k, (∀ y0 y1, LeO (dM.l0 k y0 y1) (dM.l0 (k + 1) y0 y1))
 | 0 => fun _ _ r h => by simp [dM.l0] at h
 | k + 1 => by
  have ih0 := dM.dZ k
  ·intro y0 y1
   unfold dM.l0
   repeat' first
   | (with_reducible exact ih0 _ _)
   | (with_reducible exact LeO.refl _)
   | (with_reducible exact LeO.none _)
   | (with_reducible refine LeO.ite ?_ ?_)
   | (with_reducible refine LeO.bind ?_ (fun _ => ?_))
   | exact ih0 _ _
   | exact LeO.none _
   | refine LeO.ite ?_ ?_
   | refine LeO.bind ?_ (fun _ => ?_)
theorem dM.mono : ∀ a0 k, LeO (dM.f k a0) (dM.f (k + 1) a0) := by
 intro a0 k
 have ih0 := dM.dZ k
 unfold dM.f
 repeat' first
   | (with_reducible exact ih0 _ _)
   | (with_reducible exact LeO.refl _)
   | (with_reducible exact LeO.none _)
   | (with_reducible refine LeO.ite ?_ ?_)
   | (with_reducible refine LeO.bind ?_ (fun _ => ?_))
   | exact ih0 _ _
   | exact LeO.none _
   | refine LeO.ite ?_ ?_
   | refine LeO.bind ?_ (fun _ => ?_)
set_option maxHeartbeats 8000000 in
set_option maxRecDepth 100000 in
theorem dM.calls (k : Nat) (P0_ : Nat → Prop) (u9000_ : Value) (l0 : List Int) (r : List Int) (w0 w : World) (hB : Below w0.heap.size w0 w) (ho0 : Kd.R (Kd.int .u64) 64 w w0.heap.size P0_ u9000_ l0) (h : dM.f k l0 = some r) :
  Calls Tryd.prog 55 #[u9000_] w fun e w' => ∃ v0_ : Value, e = .returned (v0_) ∧ Kd.R (Kd.int .u64) 64 w' w0.heap.size (fun k_ => (P0_ k_ ∨ w.heap.size ≤ k_)) v0_ r ∧ Below w0.heap.size w0 w' ∧ Kept w w' (fun k_ => P0_ k_) := by
 have HO0 := af.mk (show Kd.R (Kd.int .u64) 64 w w0.heap.size (fun k_ => (P0_ k_ ∨ w.heap.size ≤ k_)) u9000_ l0 from Kd.fG ho0 (fun k_ hk => (.inl hk)))
 have HK := af.mk (Kept.refl w (fun k_ => P0_ k_))
 have HW0 := af.mk hB.size
 have HB := af.mk hB
 clear hB
 have H : (dM.l0 k l0 (l0.length : Int)) = some r := h
 clear h
 have H' := af.mk H
 clear H
 obtain ⟨Ao2, co2, eo2⟩ := Kd.dW HO0.out
 subst eo2
 go_enter Tryd.func55, Tryd.ntmps55
 go_wp2
 go_loopg [3] k (fun kq v3 w' => ∃ (dK : Int), v3 = .int .i64 dK ∧ af (dM.l0 kq l0 dK = some r) ∧ af (kq ≤ k) ∧ af (Kd.R (Kd.int .u64) 64 w' w0.heap.size (fun k_ => (P0_ k_ ∨ w.heap.size ≤ k_)) (.slice Ao2 l0.length co2) l0) ∧ af (Kept w w' (fun k_ => P0_ k_)) ∧ af (Below w0.heap.size w0 w'))
 case atStart => exact ⟨((l0.length : Int)), (by first | rfl | (simp; done) | (simp [*]; done)), H', ⟨Nat.le_refl _⟩, ⟨by (with_reducible repeat (first | apply Kd.cB | apply Kd.cK | apply Kd.dD)); exact HO0.out⟩, ⟨by repeat (first | (with_reducible first | exact HK.out | apply Kept.alloc | apply Kept.drewN | apply Kept.drew) | exact HK.out)⟩, ⟨by repeat (first | (with_reducible first | exact HB.out | apply aA | apply aj | apply av) | exact HB.out)⟩⟩
 case round =>
  clear H'
  try clear p2
  obtain ⟨dK, rfl, HA, HK1, oz, HK, HB⟩ := hrel
  cases gk with
  | zero => exact absurd HA.out (by simp [dM.l0])
  | succ k1 =>
   have H := HA.out
   clear HA
   simp only [dM.l0] at H
   by_cases c3 : dK > 0
   ·rw [if_pos c3] at H
    have gG : decide (0 < dK) = true := decide_eq_true c3
    clear c3
    obtain ⟨ji4, hji4⟩ : ∃ j_ : Int, (wrap64 (dK - 1)) = j_ := ⟨_, rfl⟩
    replace H : (if 0 ≤ (ji4) then (if (ji4) < (l0.length : Int) then (if (rd l0 (ji4)) = 0 then (dM.l0 k1 l0 ji4) else (if 0 ≤ dK then (if dK ≤ (l0.length : Int) then (some (l0.take (dK : Int).toNat)) else (none)) else (none))) else (none)) else (none)) = some r := by first | (rw [hji4] at H; exact H) | (simp only [hji4] at H ⊢; exact H)
    have hji4w : (IntKind.i64.wrap (dK - 1)) = ji4 := (iP _).trans hji4
    by_cases c5 : 0 ≤ (ji4)
    ·rw [if_pos c5] at H
     have iL : decide (0 ≤ (ji4)) = true := decide_eq_true c5
     clear c5
     by_cases c6 : (ji4) < (l0.length : Int)
     ·rw [if_pos c6] at H
      have lT : decide ((ji4) < (l0.length : Int)) = true := decide_eq_true c6
      clear c6
      by_cases c7 : (rd l0 (ji4)) = 0
      ·rw [if_pos c7] at H
       have iZ : ((rd l0 (ji4)) == 0) = true := beq_iff_eq.mpr c7
       have om : ((rd l0 (ji4)) != 0) = false := bne_eq_false_iff_eq.mpr c7
       clear c7
       have H' := af.mk H
       clear H
       have p101 : 0 ≤ ((ji4) : Int) := of_decide_eq_true qa
       have q101 : (ji4) < (l0.length : Int) := of_decide_eq_true qa
       obtain ⟨ad101, e101, hx101_0⟩ := Kd.iD (Kd.aZ oz.out).2.2 (ji4) p101 q101
       cases e101
       replace p101 := eq_true p101
       replace q101 := eq_true q101
       go_wp2
       go_roundg k1
       case measure => have := HK1.out; omega
       case rel => exact ⟨(ji4), (by first | rfl | (simp; done) | (simp only [← hji4] <;> (first | rfl | simp)) | (simp [*]; done)), H', ⟨by have := HK1.out; omega⟩, ⟨by (with_reducible repeat (first | apply Kd.cB | apply Kd.cK | apply Kd.dD)); exact oz.out⟩, ⟨by repeat (first | (with_reducible first | exact HK.out | apply Kept.alloc | apply Kept.drewN | apply Kept.drew) | exact HK.out)⟩, ⟨by repeat (first | (with_reducible first | exact HB.out | apply aA | apply aj | apply av) | exact HB.out)⟩⟩
      ·rw [if_neg c7] at H
       have iZ : ((rd l0 (ji4)) == 0) = false := beq_eq_false_iff_ne.mpr c7
       have om : ((rd l0 (ji4)) != 0) = true := bne_iff_ne.mpr c7
       by_cases c8 : 0 ≤ dK
       ·rw [if_pos c8] at H
        have jM := eq_true c8
        have qc : decide (0 ≤ dK) = true := decide_eq_true c8
        clear c8
        by_cases c9 : dK ≤ (l0.length : Int)
        ·rw [if_pos c9] at H
         have kT := eq_true c9
         have tC : decide (dK ≤ (l0.length : Int)) = true := decide_eq_true c9
         clear c9
         obtain ⟨y102, hy102⟩ : ∃ y_ : List Int, y_ = (l0.take (dK : Int).toNat) := ⟨_, rfl⟩
         replace H : (some y102) = some r := by first | (rw [hy102]; with_reducible exact H) | (have H2_ := (Option.bind_some _ _).symm.trans H; rw [hy102]; with_reducible exact H2_) | (have H2_ := (Option.bind_some _ _).symm.trans H; with_reducible exact H2_) | with_reducible exact H | (rw [hy102]; exact H) | exact H
         have Ny102 := af.mk hy102
         clear hy102
         obtain rfl := Option.some.inj H
         have p101 : 0 ≤ ((ji4) : Int) := of_decide_eq_true qa
         have q101 : (ji4) < (l0.length : Int) := of_decide_eq_true qa
         obtain ⟨ad101, e101, hx101_0⟩ := Kd.iD (Kd.aZ oz.out).2.2 (ji4) p101 q101
         cases e101
         replace p101 := eq_true p101
         replace q101 := eq_true q101
         have q10 : (dK : Int) ≤ ((l0.length : Int) : Int) := of_decide_eq_true qa
         obtain ⟨i010, hi010, _, hsz10, _⟩ := info_parts mP
         have hcut10 := r9 (P := Tryd.prog) 23 64 .i64 Tryd.underlying23 hi010 (some ad101) l0.length co2 dK (of_decide_eq_true qa) q10 (Kd.aZ oz.out).2.1
         have hr10 := Kd.si (m := (dK : Int).toNat) oz.out (by omega)
         have hy10 : y102.length = (dK : Int).toNat := (by rw [Ny102.out, List.length_take]; omega)
         rw [← Ny102.out] at hr10
         rw [← hy10] at hr10 hcut10
         clear hy10 hi010 hsz10 oz
         have eG := af.mk hr10
         clear hr10
         replace q10 := eq_true q10
         go_wp2
         go_ret
         exact ⟨_, by first | rfl | (simp [errW_none, errW_some] <;> rfl) | (simp only [← hji4]; first | rfl | (simp [errW_none, errW_some] <;> rfl)) | (simp [*, errW_none, errW_some] <;> rfl), by (with_reducible repeat (first | apply Kd.cB | apply Kd.cK | apply Kd.dD)); exact eG.out, by repeat (first | (with_reducible first | exact HB.out | apply aA | apply aj | apply av) | exact HB.out), by repeat (first | (with_reducible first | exact HK.out | apply Kept.alloc | apply Kept.drewN | apply Kept.drew) | exact HK.out)⟩
        ·rw [if_neg c9] at H
         exact absurd H (by simp)
       ·rw [if_neg c8] at H
        exact absurd H (by simp)
     ·rw [if_neg c6] at H
      exact absurd H (by simp)
    ·rw [if_neg c5] at H
     exact absurd H (by simp)
   ·rw [if_neg c3] at H
    have gG : decide (0 < dK) = false := decide_eq_false c3
    clear c3
    by_cases c11 : 0 ≤ dK
    ·rw [if_pos c11] at H
     have jC := eq_true c11
     have sZ : decide (0 ≤ dK) = true := decide_eq_true c11
     clear c11
     by_cases c12 : dK ≤ (l0.length : Int)
     ·rw [if_pos c12] at H
      have qJ := eq_true c12
      have yf : decide (dK ≤ (l0.length : Int)) = true := decide_eq_true c12
      clear c12
      obtain ⟨y105, hy105⟩ : ∃ y_ : List Int, y_ = (l0.take (dK : Int).toNat) := ⟨_, rfl⟩
      replace H : (some y105) = some r := by first | (rw [hy105]; with_reducible exact H) | (have H2_ := (Option.bind_some _ _).symm.trans H; rw [hy105]; with_reducible exact H2_) | (have H2_ := (Option.bind_some _ _).symm.trans H; with_reducible exact H2_) | with_reducible exact H | (rw [hy105]; exact H) | exact H
      have Ny105 := af.mk hy105
      clear hy105
      obtain rfl := Option.some.inj H
      have q13 : (dK : Int) ≤ ((l0.length : Int) : Int) := of_decide_eq_true qa
      obtain ⟨i013, hi013, _, hsz13, _⟩ := info_parts mP
      have hcut13 := r9 (P := Tryd.prog) 23 64 .i64 Tryd.underlying23 hi013 Ao2 l0.length co2 dK (of_decide_eq_true qa) q13 (Kd.aZ oz.out).2.1
      have hr13 := Kd.si (m := (dK : Int).toNat) oz.out (by omega)
      have hy13 : y105.length = (dK : Int).toNat := (by rw [Ny105.out, List.length_take]; omega)
      rw [← Ny105.out] at hr13
      rw [← hy13] at hr13 hcut13
      clear hy13 hi013 hsz13 oz
      have pz := af.mk hr13
      clear hr13
      replace q13 := eq_true q13
      go_wp2
      go_ret
      exact ⟨_, by first | rfl | (simp [errW_none, errW_some] <;> rfl) | (simp [*, errW_none, errW_some] <;> rfl), by (with_reducible repeat (first | apply Kd.cB | apply Kd.cK | apply Kd.dD)); exact pz.out, by repeat (first | (with_reducible first | exact HB.out | apply aA | apply aj | apply av) | exact HB.out), by repeat (first | (with_reducible first | exact HK.out | apply Kept.alloc | apply Kept.drewN | apply Kept.drew) | exact HK.out)⟩
     ·rw [if_neg c12] at H
      exact absurd H (by simp)
    ·rw [if_neg c11] at H
     exact absurd H (by simp)
end Go.Proofs.YthfphdbebnkdpaaDoor.P
end
section
namespace Go.Proofs.YthfphdbebnkdpaaDoor.P
open Go.RowKit Go.Proofs.YthfphdbebnkdpaaDoorW.aH Go.Proofs.YthfphdbebnkdpaaDoorW.aV Go.Proofs.YthfphdbebnkdpaaDoorW.bn
attribute [local go_sem] bR bS dn dw bB bC bU bV
set_option linter.unusedVariables false
set_option linter.unusedSimpArgs false
def dF.l0 : Nat → List Int → List Int → Int → Int → Option (List Int × Int)
 | 0, _, _, _, _ => none
 | k + 1, x4, x10, x11, x12 => if x12 < x11 then (if 0 ≤ x12 then (if x12 < (x10.length : Int) then (if (rd x10 x12) ≥ 4294967296 then (some (([] : List Int), 2)) else (if x4.length < 17592186044416 then (dF.l0 k (x4 ++ [rd x10 x12]) x10 x11 (wrap64 (x12 + 1))) else (none))) else (none)) else (none)) else ((dM.f k x4).bind fun jI => (some (jI, 0)))
def dF.f (k : Nat) (l0 : List Int) : Option (List Int × Int) := if 0 ≤ (l0.length : Int) then (if ((l0.length : Int) : Int).toNat ≤ 35184372088832 then (dF.l0 k (([] : List Int)) l0 (l0.length : Int) 0) else (none)) else (none)
theorem dF.dZ : ∀ k, (∀ y0 y1 y2 y3, LeO (dF.l0 k y0 y1 y2 y3) (dF.l0 (k + 1) y0 y1 y2 y3))
 | 0 => fun _ _ _ _ r h => by simp [dF.l0] at h
 | k + 1 => by
  have ih0 := dF.dZ k
  ·intro y0 y1 y2 y3
   unfold dF.l0
   repeat' first
   | (with_reducible exact ih0 _ _ _ _)
   | (with_reducible exact dM.mono _ _)
   | (with_reducible exact LeO.refl _)
   | (with_reducible exact LeO.none _)
   | (with_reducible refine LeO.ite ?_ ?_)
   | (with_reducible refine LeO.bind ?_ (fun _ => ?_))
   | exact ih0 _ _ _ _
   | exact dM.mono _ _
   | exact LeO.none _
   | refine LeO.ite ?_ ?_
   | refine LeO.bind ?_ (fun _ => ?_)
theorem dF.mono : ∀ a0 k, LeO (dF.f k a0) (dF.f (k + 1) a0) := by
 intro a0 k
 have ih0 := dF.dZ k
 unfold dF.f
 repeat' first
   | (with_reducible exact ih0 _ _ _ _)
   | (with_reducible exact dM.mono _ _)
   | (with_reducible exact LeO.refl _)
   | (with_reducible exact LeO.none _)
   | (with_reducible refine LeO.ite ?_ ?_)
   | (with_reducible refine LeO.bind ?_ (fun _ => ?_))
   | exact ih0 _ _ _ _
   | exact dM.mono _ _
   | exact LeO.none _
   | refine LeO.ite ?_ ?_
   | refine LeO.bind ?_ (fun _ => ?_)
set_option maxHeartbeats 8000000 in
set_option maxRecDepth 100000 in
theorem dF.calls (k : Nat) (A0 : Option Addr) (c0 : Nat) (l0 : List Int) (r1 : List Int) (r2 : Int) (w : World) (hr0 : Kd.C (Kd.int .u64) w A0 l0.length l0) (hc0 : l0.length ≤ c0) (h : dF.f k l0 = some (r1, r2)) :
  Calls Tryd.prog 36 #[.slice A0 l0.length c0] w fun e w' => ∃ v0_ : Value, e = .returned (.tuple #[v0_, .int .i64 r2]) ∧ Kd.R (Kd.int .u64) 64 w' w.heap.size (fun _ => True) v0_ r1 ∧ Below w.heap.size w w' := by
 have HR0 := af.mk hr0
 have HC0 := af.mk hc0
 clear hr0 hc0
 have HB := af.mk (Below.refl w.heap.size w)
 have H : (if 0 ≤ (l0.length : Int) then (if ((l0.length : Int) : Int).toNat ≤ 35184372088832 then (dF.l0 k (([] : List Int)) l0 (l0.length : Int) 0) else (none)) else (none)) = some (r1, r2) := h
 clear h
 by_cases c2 : 0 ≤ (l0.length : Int)
 ·rw [if_pos c2] at H
  have jr := eq_true c2
  have nG : decide (0 ≤ (l0.length : Int)) = true := decide_eq_true c2
  clear c2
  by_cases c3 : ((l0.length : Int) : Int).toNat ≤ 35184372088832
  ·rw [if_pos c3] at H
   have gG := eq_true c3
   have gY : decide (((l0.length : Int) : Int).toNat ≤ 35184372088832) = true := decide_eq_true c3
   clear c3
   obtain ⟨y101, hy101⟩ : ∃ y_ : List Int, y_ = (([] : List Int)) := ⟨_, rfl⟩
   replace H : (dF.l0 k y101 l0 (l0.length : Int) 0) = some (r1, r2) := by first | (rw [hy101]; with_reducible exact H) | (have H2_ := (Option.bind_some _ _).symm.trans H; rw [hy101]; with_reducible exact H2_) | (have H2_ := (Option.bind_some _ _).symm.trans H; with_reducible exact H2_) | with_reducible exact H | (rw [hy101]; exact H) | exact H
   have Ny101 := af.mk hy101
   clear hy101
   have H' := af.mk H
   clear H
   go_enter Tryd.func36, Tryd.ntmps36
   go_wp2_with (first | ((with_reducible refine aU (N := 9) rfl ?_); refine Go.Proofs.YthfphdbebnkdpaaDoorV.uH (Kd.int .u64) _ 64 rfl (N := 9) rfl 23 _ _ rfl (l0.length : Int) rfl rfl Tryd.underlying23 (.int .u64 0) 8 mP rfl (by decide) (by omega) (ok := fun _ => True) (okp := fun _ => True) trivial (of_decide_eq_true qa) (Nat.le_trans (Nat.mul_le_mul_right _ (of_decide_eq_true qa : (l0.length : Int).toNat ≤ 35184372088832)) (by omega)) (Below.refl _ _) (Nat.le_refl _) ?_; intro v102 w4 ho5 hb hg_ hnew_; clear hg_ hnew_; (first | rw [← Ny101.out] at ho5 | (simp only [Int.reduceToNat] at ho5; rw [← Ny101.out] at ho5)); have eD := af.mk (Kd.dI ho5 (bg (qw HB))); replace HB := af.mk (ai (qw HB) hb); clear hb ho5))
   go_loopg [4, 12] k (fun kq v4 v12 w' => ∃ (aI : List Int) (fu : Int), v12 = .int .i64 fu ∧ af (dF.l0 kq aI l0 (l0.length : Int) fu = some (r1, r2)) ∧ af (kq ≤ k) ∧ af (Kd.R (Kd.int .u64) 64 w' w.heap.size (fun _ => True) v4 aI) ∧ af (Below w.heap.size w w'))
   case atStart => exact ⟨(y101), (0), (by first | rfl | (simp; done) | (simp [*]; done)), H', ⟨Nat.le_refl _⟩, ⟨by (with_reducible repeat (first | apply Kd.cB | apply Kd.cK | apply Kd.dD)); exact eD.out⟩, ⟨by repeat (first | (with_reducible first | exact HB.out | apply aA | apply aj | apply av) | exact HB.out)⟩⟩
   case round =>
    clear H'
    try clear c2
    try clear jr
    try clear nG
    try clear p2
    try clear c3
    try clear gG
    try clear gY
    obtain ⟨aI, fu, rfl, HA, HK1, tV, HB⟩ := hrel
    cases gk with
    | zero => exact absurd HA.out (by simp [dF.l0])
    | succ k1 =>
     have H := HA.out
     clear HA
     simp only [dF.l0] at H
     by_cases c6 : fu < (l0.length : Int)
     ·rw [if_pos c6] at H
      have lT : decide (fu < (l0.length : Int)) = true := decide_eq_true c6
      clear c6
      by_cases c7 : 0 ≤ fu
      ·rw [if_pos c7] at H
       have iZ : decide (0 ≤ fu) = true := decide_eq_true c7
       clear c7
       by_cases c8 : fu < (l0.length : Int)
       ·rw [if_pos c8] at H
        have jM : decide (fu < (l0.length : Int)) = true := decide_eq_true c8
        clear c8
        by_cases c9 : (rd l0 fu) ≥ 4294967296
        ·rw [if_pos c9] at H
         have kT : decide (4294967296 ≤ (rd l0 fu)) = true := decide_eq_true c9
         clear c9
         simp only [Option.some.injEq, Prod.mk.injEq] at H
         obtain ⟨rfl, rfl⟩ := H
         have p104 : 0 ≤ (fu : Int) := of_decide_eq_true qa
         have q104 : fu < (l0.length : Int) := of_decide_eq_true qa
         obtain ⟨ad104, e104, hx104_0⟩ := Kd.iD HR0.out fu p104 q104
         cases e104
         replace hx104_0 := (HB.out.cell (World.block_lt_of_cell? w _ hx104_0)).trans hx104_0
         replace p104 := eq_true p104
         replace q104 := eq_true q104
         go_wp2
         go_ret2
         exact ⟨_, by first | rfl | (simp [errW_none, errW_some] <;> rfl) | (simp [*, errW_none, errW_some] <;> rfl), by first | exact Kd.rV _ _ _ _ _ | exact Kd.N_nil _ _ _ _ _ | exact Kd.V_nil _ _ _ _ _ | exact Kd.Q_nil _ _ _ _ _ | exact Kd.S_nil _ _ _ _ _, by repeat (first | (with_reducible first | exact HB.out | apply aA | apply aj | apply av) | exact HB.out)⟩
        ·rw [if_neg c9] at H
         have kT : decide (4294967296 ≤ (rd l0 fu)) = false := decide_eq_false c9
         clear c9
         by_cases c10 : aI.length < 17592186044416
         ·rw [if_pos c10] at H
          have LMc10 := af.mk c10
          clear c10
          obtain ⟨y105, hy105⟩ : ∃ y_ : List Int, y_ = (aI ++ [rd l0 fu]) := ⟨_, rfl⟩
          replace H : (dF.l0 k1 y105 l0 (l0.length : Int) (wrap64 (fu + 1))) = some (r1, r2) := by first | (rw [hy105]; with_reducible exact H) | (have H2_ := (Option.bind_some _ _).symm.trans H; rw [hy105]; with_reducible exact H2_) | (have H2_ := (Option.bind_some _ _).symm.trans H; with_reducible exact H2_) | with_reducible exact H | (rw [hy105]; exact H) | exact H
          have Ny105 := af.mk hy105
          clear hy105
          have H' := af.mk H
          clear H
          have p104 : 0 ≤ (fu : Int) := of_decide_eq_true qa
          have q104 : fu < (l0.length : Int) := of_decide_eq_true qa
          obtain ⟨ad104, e104, hx104_0⟩ := Kd.iD HR0.out fu p104 q104
          cases e104
          replace hx104_0 := (HB.out.cell (World.block_lt_of_cell? w _ hx104_0)).trans hx104_0
          replace p104 := eq_true p104
          replace q104 := eq_true q104
          go_wp2_with (first | ((with_reducible refine jc (b := .append) (xs := #[.tmp 18, .tmp 20]) rfl ?_); at_builtin; refine Kd.kZ (Kd.int .u64) (w0 := w) w.heap.size rfl (.tmp 18) (.tmp 20) 23 64 (.int .u64 0) 8 rfl Tryd.underlying23 mP rfl (by decide) (by omega) u4 aI (rd l0 fu) [.int .u64 (rd l0 fu)] (fun _ => True) (fun _ => False) rfl rfl ?aP (fun _ hk => hk.elim) ?aF ?aO ?aB ?aS ?aL ?_; (case aP => exact rfl); (case aB => exact (qw HB)); (case aF => exact (fun _ _ => trivial)); (case aO => exact (qr tV)); (case aS => exact (bg (qw HB))); (case aL => have := LMc10.out; omega); intro v106 w11 ho hb hg hat; rw [← Ny105.out] at ho; replace HB := af.mk (hb); have pz := af.mk (ho); clear tV; clear ho hb hg hat))
          go_roundg k1
          case measure => have := HK1.out; omega
          case rel => exact ⟨(y105), (wrap64 (fu + 1)), (by first | rfl | (simp; done) | (simp [*]; done)), H', ⟨by have := HK1.out; omega⟩, ⟨by (with_reducible repeat (first | apply Kd.cB | apply Kd.cK | apply Kd.dD)); exact pz.out⟩, ⟨by repeat (first | (with_reducible first | exact HB.out | apply aA | apply aj | apply av) | exact HB.out)⟩⟩
         ·rw [if_neg c10] at H
          exact absurd H (by simp)
       ·rw [if_neg c8] at H
        exact absurd H (by simp)
      ·rw [if_neg c7] at H
       exact absurd H (by simp)
     ·rw [if_neg c6] at H
      have lT : decide (fu < (l0.length : Int)) = false := decide_eq_false c6
      clear c6
      replace H := Option.bind_eq_some_iff.mp H
      obtain ⟨jI, A120, H⟩ := H
      replace H : (some (jI, 0)) = some (r1, r2) := H
      have A12 := af.mk A120
      clear A120
      simp only [Option.some.injEq, Prod.mk.injEq] at H
      obtain ⟨rfl, rfl⟩ := H
      obtain ⟨wF, uR, uS⟩ := Kd.dW tV.out
      subst uS
      go_wp2_with (first | ((with_reducible refine aN (f := 55) rfl ?_); refine cu (some 24) rfl rfl Tryd.func55 (by kernel_rfl) rfl #[.slice wF aI.length uR] rfl qt ?_; (with_reducible refine (dM.calls k1 (fun k_ => some k_ = (.slice wF aI.length uR : Value).ownBlock) (.slice wF aI.length uR) aI jI w _ ?bI ?bJ A12.out).mono ?_); (case bI => repeat (first | (with_reducible first | exact HB.out | apply aA | apply aj | apply av) | exact HB.out)); (case bJ => exact Kd.nW rfl tV.out); rintro e w14 ⟨v109, rfl, ho0, hb, hkp⟩; refine ⟨_, rfl, ?_⟩; have yg := af.mk (Kd.fG (ok' := fun k_ => True) ho0 (fun k_ hk_ => trivial)); replace HB := af.mk (hb); clear tV; (try clear hb); (try clear hkp); (try clear ho0)))
      go_ret2
      exact ⟨_, by first | rfl | (simp [errW_none, errW_some] <;> rfl) | (simp [*, errW_none, errW_some] <;> rfl), by (with_reducible repeat (first | apply Kd.cB | apply Kd.cK | apply Kd.dD)); exact yg.out, by repeat (first | (with_reducible first | exact HB.out | apply aA | apply aj | apply av) | exact HB.out)⟩
  ·rw [if_neg c3] at H
   exact absurd H (by simp)
 ·rw [if_neg c2] at H
  exact absurd H (by simp)
end Go.Proofs.YthfphdbebnkdpaaDoor.P
end
section
namespace Go.Proofs.YthfphdbebnkdpaaDoor.P
open Go.RowKit Go.Proofs.YthfphdbebnkdpaaDoorW.aH Go.Proofs.YthfphdbebnkdpaaDoorW.aV Go.Proofs.YthfphdbebnkdpaaDoorW.bn
attribute [local go_sem] bR bS dn dw bB bC bU bV
set_option linter.unusedVariables false
set_option linter.unusedSimpArgs false
def bK.l0 : Nat → List Int → Int → List Int → Int → Int → Int → Option (List Int × Int × Int)
 | 0, _, _, _, _, _, _ => none
 | k + 1, x0, x1, x7, x8, x20, x21 => if x21 < x20 then (if 0 ≤ (wrap64 ((wrap64 ((x0.length : Int) - 1)) - x21)) then (if (wrap64 ((wrap64 ((x0.length : Int) - 1)) - x21)) < (x0.length : Int) then ((kg.f x8 (rd x0 (wrap64 ((wrap64 ((x0.length : Int) - 1)) - x21))) x1).bind fun pE => (if (wrap64 ((wrap64 ((x0.length : Int) - 1)) - x21)) < (x7.length : Int) then (bK.l0 k x0 x1 (x7.set ((wrap64 ((wrap64 ((x0.length : Int) - 1)) - x21)) : Int).toNat pE.1) pE.2.1 x20 (wrap64 (x21 + 1))) else (none))) else (none)) else (none)) else ((dF.f k x7).bind fun yh => (some (yh.1, x8, 0)))
def bK.f (k : Nat) (l0 : List Int) (a1 : Int) : Option (List Int × Int × Int) := if (Int.tmod a1 4294967296) = 0 then (some (([] : List Int), 0, 3)) else (if 0 ≤ (l0.length : Int) then (if ((l0.length : Int) : Int).toNat ≤ 35184372088832 then (bK.l0 k l0 a1 (List.replicate ((l0.length : Int) : Int).toNat 0) 0 (l0.length : Int) 0) else (none)) else (none))
theorem bK.dZ : ∀ k, (∀ y0 y1 y2 y3 y4 y5, LeO (bK.l0 k y0 y1 y2 y3 y4 y5) (bK.l0 (k + 1) y0 y1 y2 y3 y4 y5))
 | 0 => fun _ _ _ _ _ _ r h => by simp [bK.l0] at h
 | k + 1 => by
  have ih0 := bK.dZ k
  ·intro y0 y1 y2 y3 y4 y5
   unfold bK.l0
   repeat' first
   | (with_reducible exact ih0 _ _ _ _ _ _)
   | (with_reducible exact dF.mono _ _)
   | (with_reducible exact LeO.refl _)
   | (with_reducible exact LeO.none _)
   | (with_reducible refine LeO.ite ?_ ?_)
   | (with_reducible refine LeO.bind ?_ (fun _ => ?_))
   | exact ih0 _ _ _ _ _ _
   | exact dF.mono _ _
   | exact LeO.none _
   | refine LeO.ite ?_ ?_
   | refine LeO.bind ?_ (fun _ => ?_)
theorem bK.mono : ∀ a0 a1 k, LeO (bK.f k a0 a1) (bK.f (k + 1) a0 a1) := by
 intro a0 a1 k
 have ih0 := bK.dZ k
 unfold bK.f
 repeat' first
   | (with_reducible exact ih0 _ _ _ _ _ _)
   | (with_reducible exact dF.mono _ _)
   | (with_reducible exact LeO.refl _)
   | (with_reducible exact LeO.none _)
   | (with_reducible refine LeO.ite ?_ ?_)
   | (with_reducible refine LeO.bind ?_ (fun _ => ?_))
   | exact ih0 _ _ _ _ _ _
   | exact dF.mono _ _
   | exact LeO.none _
   | refine LeO.ite ?_ ?_
   | refine LeO.bind ?_ (fun _ => ?_)
set_option maxHeartbeats 8000000 in
set_option maxRecDepth 100000 in
theorem bK.calls (k : Nat) (A0 : Option Addr) (c0 : Nat) (l0 : List Int) (a1 : Int) (r1 : List Int) (r2 : Int) (r3 : Int) (w : World) (hr0 : Kd.C (Kd.int .u64) w A0 l0.length l0) (hc0 : l0.length ≤ c0) (h : bK.f k l0 a1 = some (r1, r2, r3)) :
  Calls Tryd.prog 59 #[.slice A0 l0.length c0, .int .u64 a1] w fun e w' => ∃ v0_ : Value, e = .returned (.tuple #[v0_, .int .u64 r2, .int .i64 r3]) ∧ Kd.R (Kd.int .u64) 64 w' w.heap.size (fun _ => True) v0_ r1 ∧ Below w.heap.size w w' := by
 have HR0 := af.mk hr0
 have HC0 := af.mk hc0
 clear hr0 hc0
 have HB := af.mk (Below.refl w.heap.size w)
 have H : (if (Int.tmod a1 4294967296) = 0 then (some (([] : List Int), 0, 3)) else (if 0 ≤ (l0.length : Int) then (if ((l0.length : Int) : Int).toNat ≤ 35184372088832 then (bK.l0 k l0 a1 (List.replicate ((l0.length : Int) : Int).toNat 0) 0 (l0.length : Int) 0) else (none)) else (none))) = some (r1, r2, r3) := h
 clear h
 by_cases c3 : (Int.tmod a1 4294967296) = 0
 ·rw [if_pos c3] at H
  have gG : ((Int.tmod a1 4294967296) == 0) = true := beq_iff_eq.mpr c3
  have gY : ((Int.tmod a1 4294967296) != 0) = false := bne_eq_false_iff_eq.mpr c3
  clear c3
  simp only [Option.some.injEq, Prod.mk.injEq] at H
  obtain ⟨rfl, rfl, rfl⟩ := H
  go_enter Tryd.func59, Tryd.ntmps59
  go_wp2
  go_ret3
  exact ⟨_, by first | rfl | (simp [errW_none, errW_some] <;> rfl) | (simp [*, errW_none, errW_some] <;> rfl), by first | exact Kd.rV _ _ _ _ _ | exact Kd.N_nil _ _ _ _ _ | exact Kd.V_nil _ _ _ _ _ | exact Kd.Q_nil _ _ _ _ _ | exact Kd.S_nil _ _ _ _ _, by repeat (first | (with_reducible first | exact HB.out | apply aA | apply aj | apply av) | exact HB.out)⟩
 ·rw [if_neg c3] at H
  have gG : ((Int.tmod a1 4294967296) == 0) = false := beq_eq_false_iff_ne.mpr c3
  have gY : ((Int.tmod a1 4294967296) != 0) = true := bne_iff_ne.mpr c3
  by_cases c4 : 0 ≤ (l0.length : Int)
  ·rw [if_pos c4] at H
   have ic := eq_true c4
   have iA : decide (0 ≤ (l0.length : Int)) = true := decide_eq_true c4
   clear c4
   by_cases c5 : ((l0.length : Int) : Int).toNat ≤ 35184372088832
   ·rw [if_pos c5] at H
    have iL := eq_true c5
    have kC : decide (((l0.length : Int) : Int).toNat ≤ 35184372088832) = true := decide_eq_true c5
    clear c5
    obtain ⟨y101, hy101⟩ : ∃ y_ : List Int, y_ = (List.replicate ((l0.length : Int) : Int).toNat 0) := ⟨_, rfl⟩
    replace H : (bK.l0 k l0 a1 y101 0 (l0.length : Int) 0) = some (r1, r2, r3) := by first | (rw [hy101]; with_reducible exact H) | (have H2_ := (Option.bind_some _ _).symm.trans H; rw [hy101]; with_reducible exact H2_) | (have H2_ := (Option.bind_some _ _).symm.trans H; with_reducible exact H2_) | with_reducible exact H | (rw [hy101]; exact H) | exact H
    have Ny101 := af.mk hy101
    clear hy101
    have H' := af.mk H
    clear H
    go_enter Tryd.func59, Tryd.ntmps59
    go_wp2_with (first | ((with_reducible refine aU (N := 18) rfl ?_); refine Kd.jh (Kd.int .u64) _ 64 rfl (N := 18) rfl 22 _ _ rfl (l0.length : Int) rfl rfl Tryd.underlying22 (.int .u64 0) 8 mP rfl (by decide) (by omega) 0 (ok := fun _ => True) (okp := fun _ => True) rfl (fun _ hk => hk) trivial (of_decide_eq_true qa) (Nat.le_trans (Nat.mul_le_mul_right _ (of_decide_eq_true qa : (l0.length : Int).toNat ≤ 35184372088832)) (by omega)) (Below.refl _ _) (Nat.le_refl _) ?_; intro v102 w6 ho7 hb hg_ hnew_; clear hg_ hnew_; (first | rw [← Ny101.out] at ho7 | (simp only [Int.reduceToNat] at ho7; rw [← Ny101.out] at ho7)); have eD := af.mk (Kd.dI ho7 (bg (qw HB))); replace HB := af.mk (ai (qw HB) hb); clear hb ho7))
    go_loopg [8, 21] k (fun kq v8 v21 w' => ∃ (iM : List Int) (gH : Int) (jW : Int), v8 = .int .u64 gH ∧ v21 = .int .i64 jW ∧ af (bK.l0 kq l0 a1 iM gH (l0.length : Int) jW = some (r1, r2, r3)) ∧ af (kq ≤ k) ∧ af (Kd.R (Kd.int .u64) 64 w' w.heap.size (fun _ => True) v102 iM) ∧ af (Below w.heap.size w w'))
    case atStart => exact ⟨(y101), (0), (0), (by first | rfl | (simp; done) | (simp [*]; done)), (by first | rfl | (simp; done) | (simp [*]; done)), H', ⟨Nat.le_refl _⟩, ⟨by (with_reducible repeat (first | apply Kd.cB | apply Kd.cK | apply Kd.dD)); exact eD.out⟩, ⟨by repeat (first | (with_reducible first | exact HB.out | apply aA | apply aj | apply av) | exact HB.out)⟩⟩
    case round =>
     clear H'
     try clear p2
     try clear c3
     try clear gG
     try clear gY
     try clear c4
     try clear ic
     try clear iA
     try clear c5
     try clear iL
     try clear kC
     obtain ⟨iM, gH, jW, rfl, rfl, HA, HK1, jH, HB⟩ := hrel
     cases gk with
     | zero => exact absurd HA.out (by simp [bK.l0])
     | succ k1 =>
      have H := HA.out
      clear HA
      simp only [bK.l0] at H
      by_cases c8 : jW < (l0.length : Int)
      ·rw [if_pos c8] at H
       have jM : decide (jW < (l0.length : Int)) = true := decide_eq_true c8
       clear c8
       obtain ⟨ji9, hji9⟩ : ∃ j_ : Int, (wrap64 ((wrap64 ((l0.length : Int) - 1)) - jW)) = j_ := ⟨_, rfl⟩
       replace H : (if 0 ≤ (ji9) then (if (ji9) < (l0.length : Int) then ((kg.f gH (rd l0 (ji9)) a1).bind fun pE => (if (ji9) < (iM.length : Int) then (bK.l0 k1 l0 a1 (iM.set ((ji9) : Int).toNat pE.1) pE.2.1 (l0.length : Int) (wrap64 (jW + 1))) else (none))) else (none)) else (none)) = some (r1, r2, r3) := by first | (rw [hji9] at H; exact H) | (simp only [hji9] at H ⊢; exact H)
       have hji9w : (IntKind.i64.wrap ((wrap64 ((l0.length : Int) - 1)) - jW)) = ji9 := (iP _).trans hji9
       by_cases c10 : 0 ≤ (ji9)
       ·rw [if_pos c10] at H
        have vO : decide (0 ≤ (ji9)) = true := decide_eq_true c10
        clear c10
        by_cases c11 : (ji9) < (l0.length : Int)
        ·rw [if_pos c11] at H
         have jC : decide ((ji9) < (l0.length : Int)) = true := decide_eq_true c11
         clear c11
         replace H := Option.bind_eq_some_iff.mp H
         obtain ⟨⟨t105, aX, t107⟩, A120, H⟩ := H
         replace H : (if (ji9) < (iM.length : Int) then (bK.l0 k1 l0 a1 (iM.set ((ji9) : Int).toNat t105) aX (l0.length : Int) (wrap64 (jW + 1))) else (none)) = some (r1, r2, r3) := H
         have A12 := af.mk A120
         clear A120
         by_cases c13 : (ji9) < (iM.length : Int)
         ·rw [if_pos c13] at H
          have Bl : decide ((ji9) < (iM.length : Int)) = true := decide_eq_true c13
          clear c13
          obtain ⟨y108, hy108⟩ : ∃ y_ : List Int, y_ = (iM.set ((ji9) : Int).toNat t105) := ⟨_, rfl⟩
          replace H : (bK.l0 k1 l0 a1 y108 aX (l0.length : Int) (wrap64 (jW + 1))) = some (r1, r2, r3) := by first | (rw [hy108]; with_reducible exact H) | (have H2_ := (Option.bind_some _ _).symm.trans H; rw [hy108]; with_reducible exact H2_) | (have H2_ := (Option.bind_some _ _).symm.trans H; with_reducible exact H2_) | with_reducible exact H | (rw [hy108]; exact H) | exact H
          have Ny108 := af.mk hy108
          clear hy108
          have H' := af.mk H
          clear H
          have p104 : 0 ≤ ((ji9) : Int) := of_decide_eq_true qa
          have q104 : (ji9) < (l0.length : Int) := of_decide_eq_true qa
          obtain ⟨ad104, e104, hx104_0⟩ := Kd.iD HR0.out (ji9) p104 q104
          cases e104
          replace hx104_0 := (HB.out.cell (World.block_lt_of_cell? w _ hx104_0)).trans hx104_0
          replace p104 := eq_true p104
          replace q104 := eq_true q104
          go_wp2_with (first | ((with_reducible refine aN (f := 86) rfl ?_); refine cu (some 38) rfl rfl Tryd.func86 (by kernel_rfl) rfl #[.int .u64 gH, .int .u64 (rd l0 (ji9)), .int .u64 a1] rfl (by (try simp only [List.map_toArray, List.map_cons, List.map_nil]); first | done | (simp only [hji9]; rfl) | rfl | (simp only [List.length_drop, List.length_take]; rfl)) ?_; (with_reducible refine (kg.calls gH (rd l0 (ji9)) a1 t105 aX t107 _ A12.out).mono ?_); rintro e w' ⟨rfl, ⟨nd, rfl⟩⟩; refine ⟨_, rfl, ?_⟩; (try (rw [pW wr]; generalize hq_ : World.drewN wr _ = wr; replace jH : af (Kd.R (Kd.int .u64) 64 wr w.heap.size (fun _ => True) v102 iM) := ⟨by rw [← hq_]; exact (qr jH)⟩; replace HB : af (Below w.heap.size w wr) := ⟨by rw [← hq_]; exact (qw HB)⟩; clear hq_)); have p14 : 0 ≤ ((ji9) : Int) := of_decide_eq_true qa; have q14 : ((ji9) : Int) < ((iM.length : Int) : Int) := of_decide_eq_true qa; obtain ⟨go14, zo, yj, yl, gl14, cl14, HG14⟩ := Kd.jg jH.out (by omega); (first | cases yj | (injection yj with ea_ en_ ec_; (first | subst ea_ | (injection ea_ with ea_; subst ea_)); subst ec_; clear en_)); have zq := af.mk yl; have GG14 := af.mk HG14; clear yl gl14 HG14; obtain ⟨hx14_0, hf14_0⟩ := Kd.fD 0 jH.out ((ji9) : Int) p14 q14; replace p14 := eq_true p14; replace q14 := eq_true q14; obtain ⟨hy15_, hz15_⟩ := Kd.fD 0 jH.out ((ji9) : Int) (of_decide_eq_true qa) (of_decide_eq_true qa); have HP15 := Kd.ji jH.out ((ji9) : Int) t105) | ((with_reducible refine fZ (t := 64) (p := 42) rfl ?_); refine fH (t := 64) (p := 42) (v := ?vo_w16) (w1 := (wr.setCell ⟨go14, ((ji9) : Int).toNat, none⟩ (.int .u64 t105))) ?hg ?ho ?hn ?hr ?_; (case ho => rfl); (case hg => rfl); (case hn => rfl); (case hr => first | (go_simp; done) | (go_simp; rfl)); intro w16 hw; have hg : wr.grownBy w16 (some go14) := (by rw [hw]; exact HP15.2); have hp_ : Kd.R (Kd.int .u64) 64 w16 w.heap.size (fun _ => True) (.slice (some ⟨go14, 0, none⟩) iM.length zo) y108 := (by rw [hw, Ny108.out]; exact HP15.1); clear HP15; replace jH := af.mk (hp_); replace HB := af.mk ((by rw [hw]; exact bi (HB.out) zq.out : Below w.heap.size w w16)); clear hg hw hp_))
          go_roundg k1
          case measure => have := HK1.out; omega
          case rel => exact ⟨(y108), (aX), (wrap64 (jW + 1)), (by first | rfl | (simp; done) | (simp [*]; done)), (by first | rfl | (simp; done) | (simp [*]; done)), H', ⟨by have := HK1.out; omega⟩, ⟨by (with_reducible repeat (first | apply Kd.cB | apply Kd.cK | apply Kd.dD)); exact jH.out⟩, ⟨by repeat (first | (with_reducible first | exact HB.out | apply aA | apply aj | apply av) | exact HB.out)⟩⟩
         ·rw [if_neg c13] at H
          exact absurd H (by simp)
        ·rw [if_neg c11] at H
         exact absurd H (by simp)
       ·rw [if_neg c10] at H
        exact absurd H (by simp)
      ·rw [if_neg c8] at H
       have jM : decide (jW < (l0.length : Int)) = false := decide_eq_false c8
       clear c8
       replace H := Option.bind_eq_some_iff.mp H
       obtain ⟨⟨t109, fq⟩, A170, H⟩ := H
       replace H : (some (t109, gH, 0)) = some (r1, r2, r3) := H
       have A17 := af.mk A170
       clear A170
       simp only [Option.some.injEq, Prod.mk.injEq] at H
       obtain ⟨rfl, rfl, rfl⟩ := H
       obtain ⟨tX, tY, qi⟩ := Kd.dW jH.out
       subst qi
       go_wp2_with (first | ((with_reducible refine aN (f := 36) rfl ?_); refine cu (some 46) rfl rfl Tryd.func36 (by kernel_rfl) rfl #[.slice tX iM.length tY] rfl qt ?_; (with_reducible refine (dF.calls k1 _ _ iM t109 fq _ ?bI ?bJ A17.out).mono ?_); (case bI => exact qs ((Kd.aZ jH.out).2.2)); (case bJ => exact (Kd.aZ jH.out).2.1); rintro e w19 ⟨v111, rfl, ho0, hb⟩; refine ⟨_, rfl, ?_⟩; have jO := af.mk (Kd.dI (Kd.iE ho0 (Kd.kL (qr jH))) (bg (qw HB))); replace jH := af.mk (Kd.fV (qr jH) (Kd.iC ho0) hb); replace HB := af.mk (ai (qw HB) hb); (try clear hb); (try clear hb2); (try clear hk); (try clear hi); (try clear ho0)))
       go_ret3
       exact ⟨_, by first | rfl | (simp [errW_none, errW_some] <;> rfl) | (simp [*, errW_none, errW_some] <;> rfl), by (with_reducible repeat (first | apply Kd.cB | apply Kd.cK | apply Kd.dD)); exact Kd.fG jO.out (fun _ hk => trivial), by repeat (first | (with_reducible first | exact HB.out | apply aA | apply aj | apply av) | exact HB.out)⟩
   ·rw [if_neg c5] at H
    exact absurd H (by simp)
  ·rw [if_neg c4] at H
   exact absurd H (by simp)
end Go.Proofs.YthfphdbebnkdpaaDoor.P
end
section
namespace Go.Proofs.YthfphdbebnkdpaaDoor.P
open Go.Proofs.YthfphdbebnkdpaaDoorV Go.RowKit Go.Proofs.YthfphdbebnkdpaaDoorW.aH Go.Proofs.YthfphdbebnkdpaaDoorW.aV Go.Proofs.YthfphdbebnkdpaaDoorW.bn
attribute [local go_sem] bR bS dn dw bB bC bU bV
set_option linter.unusedVariables false
set_option linter.unusedSimpArgs false
theorem df.uX : (Tryd.prog.info? 9).map (fun i => (i.zero, i.size, i.bytes)) = some (some (.string ⟨#[]⟩), 1, 16) := by kernel_rfl
def je (ps : List ByteArray) : List UInt8 := (ps.reverse.map (fun b => b.data.toList)).flatten
theorem nQ (x : ByteArray) (l : List ByteArray) : je (x :: l) = je l ++ x.data.toList := by simp [je]
theorem oC (l : List ByteArray) : ∀ n, (je (l.drop n)).length ≤ (je l).length := by
 induction l with
 | nil => intro n; simp
 | cons x l ih =>
  intro n
  cases n with
  | zero => exact Nat.le_refl _
  | succ n => rw [List.drop_succ_cons, nQ, List.length_append]; have := ih n; omega
theorem rG (l : List ByteArray) (i : Nat) (j : Int) (h : i < l.length) (hj : j = ((l.length - 1 - i : Nat) : Int)) :
  je (l.drop (l.length - (i + 1))) = je (l.drop (l.length - i)) ++ (l9 ByteArray.empty l j).data.toList := by
 subst hj
 have h1 : l.length - (i + 1) = l.length - 1 - i := by omega
 have h2 : l.length - 1 - i < l.length := by omega
 rw [h1, List.drop_eq_getElem_cons h2, nQ, show l.length - 1 - i + 1 = l.length - i by omega]
 simp [l9, List.getElem?_eq_getElem h2]
def df.tail (ps : List ByteArray) : Option (ByteArray × Int) :=
 if (je ps).length ≤ 140737488355328 then some (if Lib.trimLeftB (je ps) 48 = [] then (⟨#[48]⟩ : ByteArray) else (⟨(Lib.trimLeftB (je ps) 48).toArray⟩ : ByteArray), 0) else none
def df.l0 : Nat → Int → Int → Int → List ByteArray → List Int → Option (ByteArray × Int)
 | 0, _, _, _, _, _ => none
 | k + 1, x1, x7, x8, x9, x10 => if (x10.length : Int) > 0 then ((bK.f k x10 x7).bind fun iJ => ((bG.f k iJ.2.1 x1 x8).bind fun fT => (if x9.length < 8796093022208 then (df.l0 k x1 x7 x8 (x9 ++ [fT]) iJ.1) else (none)))) else df.tail x9
def df.f (k : Nat) (l0 : List Int) (a1 : Int) : Option (ByteArray × Int) := (gZ.f a1).bind fun dG => (if dG = 0 then ((bW.f k a1).bind fun l7 => ((dF.f k l0).bind fun mZ => (df.l0 k a1 l7.1 l7.2 ([] : List ByteArray) mZ.1))) else (some ((⟨#[]⟩ : ByteArray), dG)))
theorem df.dZ : ∀ k, (∀ y0 y1 y2 y3 y4, LeO (df.l0 k y0 y1 y2 y3 y4) (df.l0 (k + 1) y0 y1 y2 y3 y4))
 | 0 => fun _ _ _ _ _ r h => by simp [df.l0] at h
 | k + 1 => by
  have ih0 := df.dZ k
  ·intro y0 y1 y2 y3 y4
   unfold df.l0
   repeat' first
   | (with_reducible exact ih0 _ _ _ _ _)
   | (with_reducible exact bW.mono _ _)
   | (with_reducible exact bG.mono _ _ _ _)
   | (with_reducible exact bK.mono _ _ _)
   | (with_reducible exact dF.mono _ _)
   | (with_reducible exact LeO.refl _)
   | (with_reducible exact LeO.none _)
   | (with_reducible refine LeO.ite ?_ ?_)
   | (with_reducible refine LeO.bind ?_ (fun _ => ?_))
   | exact ih0 _ _ _ _ _
   | exact bW.mono _ _
   | exact bG.mono _ _ _ _
   | exact bK.mono _ _ _
   | exact dF.mono _ _
   | exact LeO.none _
   | refine LeO.ite ?_ ?_
   | refine LeO.bind ?_ (fun _ => ?_)
theorem df.mono : ∀ a0 a1 k, LeO (df.f k a0 a1) (df.f (k + 1) a0 a1) := by
 intro a0 a1 k
 have ih0 := df.dZ k
 unfold df.f
 repeat' first
   | (with_reducible exact ih0 _ _ _ _ _)
   | (with_reducible exact bW.mono _ _)
   | (with_reducible exact bG.mono _ _ _ _)
   | (with_reducible exact bK.mono _ _ _)
   | (with_reducible exact dF.mono _ _)
   | (with_reducible exact LeO.refl _)
   | (with_reducible exact LeO.none _)
   | (with_reducible refine LeO.ite ?_ ?_)
   | (with_reducible refine LeO.bind ?_ (fun _ => ?_))
   | exact ih0 _ _ _ _ _
   | exact bW.mono _ _
   | exact bG.mono _ _ _ _
   | exact bK.mono _ _ _
   | exact dF.mono _ _
   | exact LeO.none _
   | refine LeO.ite ?_ ?_
   | refine LeO.bind ?_ (fun _ => ?_)
set_option maxHeartbeats 8000000 in
set_option maxRecDepth 100000 in
theorem df.calls (k : Nat) (A0 : Option Addr) (c0 : Nat) (l0 : List Int) (a1 : Int) (r1 : ByteArray) (r2 : Int) (w : World) (hr0 : Kd.C (Kd.int .u64) w A0 l0.length l0) (hc0 : l0.length ≤ c0) (h : df.f k l0 a1 = some (r1, r2)) :
  Calls Tryd.prog 81 #[.slice A0 l0.length c0, .int .i64 a1] w fun e w' => e = .returned (.tuple #[.string r1, .int .i64 r2]) ∧ Below w.heap.size w w' := by
 have HR0 := af.mk hr0
 have HC0 := af.mk hc0
 clear hr0 hc0
 have HB := af.mk (Below.refl w.heap.size w)
 have H : ((gZ.f a1).bind fun dG => (if dG = 0 then ((bW.f k a1).bind fun l7 => ((dF.f k l0).bind fun mZ => (df.l0 k a1 l7.1 l7.2 ([] : List ByteArray) mZ.1))) else (some ((⟨#[]⟩ : ByteArray), dG)))) = some (r1, r2) := h
 clear h
 replace H := Option.bind_eq_some_iff.mp H
 obtain ⟨dG, A30, H⟩ := H
 replace H : (if dG = 0 then ((bW.f k a1).bind fun l7 => ((dF.f k l0).bind fun mZ => (df.l0 k a1 l7.1 l7.2 ([] : List ByteArray) mZ.1))) else (some ((⟨#[]⟩ : ByteArray), dG))) = some (r1, r2) := H
 have A3 := af.mk A30
 clear A30
 by_cases c4 : dG = 0
 ·rw [if_pos c4] at H
  have ic : (dG == 0) = true := beq_iff_eq.mpr c4
  have iA : (dG != 0) = false := bne_eq_false_iff_eq.mpr c4
  clear c4
  replace H := Option.bind_eq_some_iff.mp H
  obtain ⟨⟨aQ, bu⟩, A50, H⟩ := H
  replace H : ((dF.f k l0).bind fun mZ => (df.l0 k a1 aQ bu ([] : List ByteArray) mZ.1)) = some (r1, r2) := H
  have A5 := af.mk A50
  clear A50
  replace H := Option.bind_eq_some_iff.mp H
  obtain ⟨⟨bf, t105⟩, A60, H⟩ := H
  replace H : (df.l0 k a1 aQ bu ([] : List ByteArray) bf) = some (r1, r2) := H
  have A6 := af.mk A60
  clear A60
  have H' := af.mk H
  clear H
  go_enter Tryd.func81, Tryd.ntmps81
  go_wp2_with (first | ((with_reducible refine aN (f := 114) rfl ?_); refine cu (some 19) rfl rfl Tryd.func114 (by kernel_rfl) rfl #[.int .i64 a1] rfl qt ?_; (with_reducible refine (gZ.calls a1 dG _ A3.out).mono ?_); rintro e w' ⟨rfl, ⟨nd, rfl⟩⟩; refine ⟨_, rfl, ?_⟩) | ((with_reducible refine aN (f := 115) rfl ?_); refine cu (some 25) rfl rfl Tryd.func115 (by kernel_rfl) rfl #[.int .i64 a1] rfl qt ?_; (with_reducible refine (bW.calls k a1 aQ bu _ A5.out).mono ?_); rintro e w' ⟨rfl, ⟨nd, rfl⟩⟩; refine ⟨_, rfl, ?_⟩) | ((with_reducible refine aN (f := 36) rfl ?_); refine cu (some 30) rfl rfl Tryd.func36 (by kernel_rfl) rfl #[.slice A0 l0.length c0] rfl qt ?_; (with_reducible refine (dF.calls k _ _ l0 bf t105 _ ?bI ?bJ A6.out).mono ?_); (case bI => exact qs (HR0.out)); (case bJ => exact HC0.out); rintro e w7 ⟨v106, rfl, ho0, hb⟩; refine ⟨_, rfl, ?_⟩; have pz := af.mk (Kd.dI ho0 (bg (qw HB))); replace HB := af.mk (ai (qw HB) hb); (try clear hb); (try clear hb2); (try clear hk); (try clear hi); (try clear ho0)))
  go_loopg [9, 10] k (fun kq v9 v10 w' => ∃ (gB : List ByteArray) (kG : List Int), af (df.l0 kq a1 aQ bu gB kG = some (r1, r2)) ∧ af (kq ≤ k) ∧ af (Kd.R Kd.string 9 w' w.heap.size (fun _ => True) v9 gB) ∧ af (Kd.R (Kd.int .u64) 64 w' w.heap.size (fun _ => True) v10 kG) ∧ af (Below w.heap.size w w'))
  case atStart => exact ⟨(([] : List ByteArray)), (bf), H', ⟨Nat.le_refl _⟩, ⟨by first | exact Kd.rV _ _ _ _ _ | exact Kd.N_nil _ _ _ _ _ | exact Kd.V_nil _ _ _ _ _ | exact Kd.Q_nil _ _ _ _ _ | exact Kd.S_nil _ _ _ _ _⟩, ⟨by (with_reducible repeat (first | apply Kd.cB | apply Kd.cK | apply Kd.dD)); exact pz.out⟩, ⟨by repeat (first | (with_reducible first | exact HB.out | apply aA | apply aj | apply av) | exact HB.out)⟩⟩
  case round =>
   clear H'
   try clear c1
   try clear p2
   try clear c3
   try clear c4
   try clear ic
   try clear iA
   obtain ⟨gB, kG, HA, HK1, ng, ko, HB⟩ := hrel
   cases gk with
   | zero => exact absurd HA.out (by simp [df.l0])
   | succ k1 =>
    have H := HA.out
    clear HA
    simp only [df.l0] at H
    by_cases c8 : (kG.length : Int) > 0
    ·rw [if_pos c8] at H
     have jM : decide (0 < (kG.length : Int)) = true := decide_eq_true c8
     have qc : decide (0 < kG.length) = true := decide_eq_true (by omega)
     clear c8
     replace H := Option.bind_eq_some_iff.mp H
     obtain ⟨⟨jI, t109, fq⟩, A90, H⟩ := H
     replace H : ((bG.f k1 t109 a1 bu).bind fun fT => (if gB.length < 8796093022208 then (df.l0 k1 a1 aQ bu (gB ++ [fT]) jI) else (none))) = some (r1, r2) := H
     have A9 := af.mk A90
     clear A90
     replace H := Option.bind_eq_some_iff.mp H
     obtain ⟨fT, A100, H⟩ := H
     replace H : (if gB.length < 8796093022208 then (df.l0 k1 a1 aQ bu (gB ++ [fT]) jI) else (none)) = some (r1, r2) := H
     have A10 := af.mk A100
     clear A100
     by_cases c11 : gB.length < 8796093022208
     ·rw [if_pos c11] at H
      have LMc11 := af.mk c11
      clear c11
      obtain ⟨y114, hy114⟩ : ∃ y_ : List ByteArray, y_ = (gB ++ [fT]) := ⟨_, rfl⟩
      replace H : (df.l0 k1 a1 aQ bu y114 jI) = some (r1, r2) := by first | (rw [hy114]; with_reducible exact H) | (have H2_ := (Option.bind_some _ _).symm.trans H; rw [hy114]; with_reducible exact H2_) | (have H2_ := (Option.bind_some _ _).symm.trans H; with_reducible exact H2_) | with_reducible exact H | (rw [hy114]; exact H) | exact H
      have Ny114 := af.mk hy114
      clear hy114
      have H' := af.mk H
      clear H
      obtain ⟨qg, jk, iy⟩ := Kd.dW ko.out
      subst iy
      go_wp2_with (first | ((with_reducible refine aN (f := 59) rfl ?_); refine cu (some 39) rfl rfl Tryd.func59 (by kernel_rfl) rfl #[.slice qg kG.length jk, .int .u64 aQ] rfl qt ?_; (with_reducible refine (bK.calls k1 _ _ kG aQ jI t109 fq _ ?bI ?bJ A9.out).mono ?_); (case bI => exact qs ((Kd.aZ ko.out).2.2)); (case bJ => exact (Kd.aZ ko.out).2.1); rintro e w13 ⟨v111, rfl, ho0, hb⟩; refine ⟨_, rfl, ?_⟩; replace ng := af.mk (Kd.bH (qr ng) hb); have jO := af.mk (Kd.dI (Kd.iE ho0 (Kd.kL (qr ko))) (bg (qw HB))); replace ko := af.mk (Kd.fV (qr ko) (Kd.iC ho0) hb); replace HB := af.mk (ai (qw HB) hb); (try clear hb); (try clear hb2); (try clear hk); (try clear hi); (try clear ho0)) | ((with_reducible refine aN (f := 116) rfl ?_); refine cu (some 47) rfl rfl Tryd.func116 (by kernel_rfl) rfl #[.int .u64 t109, .int .i64 a1, .int .i64 bu] rfl qt ?_; (with_reducible refine (bG.calls k1 t109 a1 bu fT _ A10.out).mono ?_); rintro e w14 ⟨rfl, hb⟩; refine ⟨_, rfl, ?_⟩; replace ng := af.mk (Kd.bH (qr ng) hb); replace ko := af.mk (Kd.bH (qr ko) hb); replace jO := af.mk (Kd.bH (qr jO) hb); replace HB := af.mk (ai (qw HB) hb); (try clear hb); (try clear hb2); (try clear hk); (try clear hi)) | ((with_reducible refine jc (b := .append) (xs := #[.tmp 43, .tmp 48]) rfl ?_); at_builtin; refine Kd.kZ Kd.string (w0 := w) w.heap.size rfl (.tmp 43) (.tmp 48) 72 9 (.string ⟨#[]⟩) 16 rfl Tryd.underlying72 df.uX rfl (by decide) (by omega) u9 gB fT [.string fT] (fun _ => True) (fun _ => False) rfl rfl ?aP (fun _ hk => hk.elim) ?aF ?aO ?aB ?aS ?aL ?_; (case aP => exact rfl); (case aB => exact (qw HB)); (case aF => exact (fun _ _ => trivial)); (case aO => exact (qr ng)); (case aS => exact (bg (qw HB))); (case aL => have := LMc11.out; omega); intro v115 w15 ho hb hg hat; rw [← Ny114.out] at ho; replace ko := af.mk (Kd.qC (qr ko) (Kd.qB (qr ng)) (by decide) hg); replace jO := af.mk (Kd.qC (qr jO) (Kd.qB (qr ng)) (by decide) hg); replace HB := af.mk (hb); have ym := af.mk (ho); clear ng; clear ho hb hg hat))
      go_roundg k1
      case measure => have := HK1.out; omega
      case rel => exact ⟨(y114), (jI), H', ⟨by have := HK1.out; omega⟩, ⟨by (with_reducible repeat (first | apply Kd.cB | apply Kd.cK | apply Kd.dD)); exact ym.out⟩, ⟨by (with_reducible repeat (first | apply Kd.cB | apply Kd.cK | apply Kd.dD)); exact Kd.fG jO.out (fun _ hk => trivial)⟩, ⟨by repeat (first | (with_reducible first | exact HB.out | apply aA | apply aj | apply av) | exact HB.out)⟩⟩
     ·rw [if_neg c11] at H
      exact absurd H (by simp)
    ·rw [if_neg c8] at H
     have jM : decide (0 < (kG.length : Int)) = false := decide_eq_false c8
     have qc : decide (0 < kG.length) = false := decide_eq_false (by omega)
     clear c8
     simp only [df.tail] at H
     by_cases cz : (je gB).length ≤ 140737488355328
     ·rw [if_pos cz] at H
      simp only [Option.some.injEq, Prod.mk.injEq] at H
      obtain ⟨h1, rfl⟩ := H
      have HR1 := Lib.hid h1
      have HCZ := Lib.hid cz
      clear h1 cz
      obtain ⟨Ao9, co9, eo9⟩ := Kd.dW ng.out
      subst eo9
      obtain ⟨yn, yo, wG⟩ := Kd.dW ko.out
      subst wG
      obtain ⟨wo, rfl⟩ : ∃ wo : World, wo = wr := ⟨_, rfl⟩
      obtain ⟨B, hBeq⟩ : ∃ B, B = wo.heap.size := ⟨_, rfl⟩
      obtain ⟨W1, hW1⟩ : ∃ W1, W1 = wo.alloc (.cells #[.pointer none, .slice none 0 0] 105) := ⟨_, rfl⟩
      have hbn := lZ wo 105 5
      rw [← hW1, ← hBeq] at hbn
      have hbw : Below B wo W1 := by rw [hW1, hBeq]; exact aA (Below.refl _ _) _
      have hbb : Below w.heap.size w W1 := by rw [hW1]; exact aA HB.out _
      have hsz : B < W1.heap.size := by rw [hW1, hBeq]; simp
      have hC9 := (Kd.aZ ng.out).2.2
      have HC9 := af.mk hC9
      have HBN := Lib.hid hbn
      have HBW := Lib.hid hbw
      have HBB0 := Lib.hid hbb
      have HEQ := Lib.hid hBeq
      have HW1 := Lib.hid hW1
      clear hbn hbw hBeq hW1 hC9 hbb
      go_wp2
      rw [← HW1.out, ← HEQ.out]
      go_loopw [53] (fun v53 w' => ∃ i : Nat, i ≤ gB.length ∧ v53 = .int .i64 i ∧ af (Lib.IsBuilder 105 5 B B (Lib.byteCells (je (gB.drop (gB.length - i)))) w') ∧ af (Below B wo w')) (fun v53 _ => gB.length - (intOf v53).toNat)
      case atStart => exact ⟨0, Nat.zero_le _, rfl, ⟨by simpa [je, Lib.byteCells] using HBN.out⟩, ⟨HBW.out⟩⟩
      case round =>
       obtain ⟨i, hi, rfl, HBI, HBB⟩ := hrel
       have HSZ := Lib.hid (show B ≤ wr.heap.size by have := HBB.out.size; rw [← HEQ.out] at this; exact this)
       by_cases hlt : i < gB.length
       ·have hC := Kd.eY HC9.out (show Below wo.heap.size wo wr by rw [← HEQ.out]; exact HBB.out)
        have hm := (Kd.aZ ng.out).2.1
        have hmx := hC.2.1
        obtain ⟨j, hj⟩ : ∃ j : Int, wrap64 (wrap64 ((gB.length : Int) - 1) - (i : Int)) = j := ⟨_, rfl⟩
        have hjv : j = ((gB.length - 1 - i : Nat) : Int) := by rw [← hj]; unfold wrap64; omega
        have hjw : IntKind.i64.wrap (wrap64 ((gB.length : Int) - 1) - (i : Int)) = j := (iP _).trans hj
        obtain ⟨ad, e, hx⟩ := Kd.nK hC j (by omega) (by omega)
        cases e
        have p0 : (0 ≤ j) = True := eq_true (by omega)
        have p1 : (j < (gB.length : Int)) = True := eq_true (by omega)
        have d0 : decide ((i : Int) < (gB.length : Int)) = true := decide_eq_true (by omega)
        have HST := Lib.hid (rG gB i j hlt hjv)
        have HLE := Lib.hid (show (Lib.byteCells (je (gB.drop (gB.length - i)))).length + (l9 ByteArray.empty gB j).size ≤ 140737488355328 by
         have h1 := oC gB (gB.length - (i + 1))
         rw [HST.out, List.length_append] at h1
         have h2 := HCZ.out
         rw [Lib.byteCells_length]
         simp only [Array.length_toList] at h1
         exact Nat.le_trans h1 h2)
        have hwi : wrap64 ((i : Int) + 1) = (i : Int) + 1 := by unfold wrap64; omega
        have hwiw : IntKind.i64.wrap ((i : Int) + 1) = (i : Int) + 1 := (iP _).trans hwi
        have HMX := Lib.hid hmx
        clear hC hm hmx hjv
        go_wp2_with ((with_reducible refine aN (f := 65) rfl ?_); refine cu (some 64) rfl rfl Tryd.func65 (by kernel_rfl) rfl #[.pointer (some ⟨B, 0, none⟩), .string (l9 ByteArray.empty gB j)] rfl (by (try simp only [List.map_toArray, List.map_cons, List.map_nil]); first | done | rfl) ?_; (with_reducible refine (Tryd.Builder_WriteString B B _ (l9 ByteArray.empty gB j) _ HBI.out HLE.out HSZ.out).mono ?_); rintro e w20 ⟨rfl, hat, hb⟩; refine ⟨_, rfl, ?_⟩; have HAT := af.mk hat; have HB20 := af.mk hb; clear hat hb)
        go_roundw
        case rel =>
         have hmx := HMX.out
         refine ⟨i + 1, by omega, by go_num, ⟨?_⟩, ⟨HBB.out.trans HB20.out⟩⟩
         rw [HST.out]
         have h := HAT.out
         have h2 : ∀ (l : List UInt8) (s : ByteArray), Lib.byteCells (l ++ s.data.toList) = Lib.byteCells l ++ Lib.strCells s := fun l s => by simp [Lib.byteCells, Lib.strCells]
         rw [h2]
         exact .inr h
        case measure => have hmx := HMX.out; simp [intOf]; omega
       ·obtain rfl : i = gB.length := by omega
        have d0 : decide (((gB.length : Nat) : Int) < (gB.length : Int)) = false := decide_eq_false (by omega)
        have d1 : decide (gB.length < gB.length) = false := decide_eq_false (by omega)
        clear hi hlt
        have hbi := HBI.out
        rw [Nat.sub_self, List.drop_zero] at hbi
        have HBI2 := Lib.hid hbi
        have HBB2 := Lib.hid (show Below w.heap.size w wr from ai HB.out (by have h := HBB.out; rw [HEQ.out] at h; exact h))
        clear hbi
        by_cases ht : Lib.trimLeftB (je gB) 48 = []
        ·have hr := HR1.out
         rw [if_pos ht] at hr
         have HR2 := Lib.hid hr
         have HT := Lib.hid ht
         clear hr ht
         go_wp2_with (first
          | ((with_reducible refine aN (f := 66) rfl ?_); refine cu (some 66) rfl rfl Tryd.func66 (by kernel_rfl) rfl #[.pointer (some ⟨B, 0, none⟩)] rfl (by (try simp only [List.map_toArray, List.map_cons, List.map_nil]); first | done | rfl) ?_; (with_reducible refine (Tryd.Builder_String_any B B (je gB) _ HBI2.out HSZ.out).mono ?_); rintro e w21 ⟨rfl, hb⟩; refine ⟨_, rfl, ?_⟩; have HB21 := Lib.hid hb; clear hb)
          | ((with_reducible refine aN (f := 117) rfl ?_); refine cu (some 67) rfl rfl Tryd.func117 (by kernel_rfl) rfl #[.string ⟨(je gB).toArray⟩, .string ⟨#[48]⟩] rfl (by (try simp only [List.map_toArray, List.map_cons, List.map_nil]); first | done | rfl) ?_; (with_reducible refine (Tryd.strings_TrimLeft_one ⟨(je gB).toArray⟩ 48 (by decide) _).mono ?_); rintro e w22 ⟨rfl, rfl⟩; refine ⟨_, rfl, ?_⟩; simp only [HT.out]))
         go_ret2
         exact ⟨by rw [← HR2.out]; rfl, ai HB.out (by rw [← HEQ.out]; exact HBB.out.trans HB21.out)⟩
        ·have hr := HR1.out
         rw [if_neg ht] at hr
         have HR2 := Lib.hid hr
         have hte : (Lib.trimLeftB (je gB) 48).isEmpty = false := by simp [ht]
         obtain ⟨T, hT⟩ : ∃ T, T = Lib.trimLeftB (je gB) 48 := ⟨_, rfl⟩
         rw [← hT] at hte ht
         have HT := Lib.hid hT
         clear hr hT
         go_wp2_with (first
          | ((with_reducible refine aN (f := 66) rfl ?_); refine cu (some 66) rfl rfl Tryd.func66 (by kernel_rfl) rfl #[.pointer (some ⟨B, 0, none⟩)] rfl (by (try simp only [List.map_toArray, List.map_cons, List.map_nil]); first | done | rfl) ?_; (with_reducible refine (Tryd.Builder_String_any B B (je gB) _ HBI2.out HSZ.out).mono ?_); rintro e w21 ⟨rfl, hb⟩; refine ⟨_, rfl, ?_⟩; have HB21 := Lib.hid hb; clear hb)
          | ((with_reducible refine aN (f := 117) rfl ?_); refine cu (some 67) rfl rfl Tryd.func117 (by kernel_rfl) rfl #[.string ⟨(je gB).toArray⟩, .string ⟨#[48]⟩] rfl (by (try simp only [List.map_toArray, List.map_cons, List.map_nil]); first | done | rfl) ?_; (with_reducible refine (Tryd.strings_TrimLeft_one ⟨(je gB).toArray⟩ 48 (by decide) _).mono ?_); rintro e w22 ⟨rfl, rfl⟩; refine ⟨_, rfl, ?_⟩; (try (have e_ := HT.out; simp only at e_)); rw [show Lib.trimLeftB (je gB) 48 = T from HT.out.symm]))
         go_ret2
         exact ⟨by rw [← HR2.out, ← HT.out]; rfl, ai HB.out (by rw [← HEQ.out]; exact HBB.out.trans HB21.out)⟩
     ·rw [if_neg cz] at H
      exact absurd H (by simp)
 ·rw [if_neg c4] at H
  have ic : (dG == 0) = false := beq_eq_false_iff_ne.mpr c4
  have iA : (dG != 0) = true := bne_iff_ne.mpr c4
  simp only [Option.some.injEq, Prod.mk.injEq] at H
  obtain ⟨rfl, rfl⟩ := H
  go_enter Tryd.func81, Tryd.ntmps81
  go_wp2_with (first | ((with_reducible refine aN (f := 114) rfl ?_); refine cu (some 19) rfl rfl Tryd.func114 (by kernel_rfl) rfl #[.int .i64 a1] rfl qt ?_; (with_reducible refine (gZ.calls a1 dG _ A3.out).mono ?_); rintro e w' ⟨rfl, ⟨nd, rfl⟩⟩; refine ⟨_, rfl, ?_⟩))
  go_ret2
  exact ⟨by first | rfl | (simp [errW_none, errW_some] <;> rfl) | (simp [*, errW_none, errW_some] <;> rfl), by repeat (first | (with_reducible first | exact HB.out | apply aA | apply aj | apply av) | exact HB.out)⟩
end Go.Proofs.YthfphdbebnkdpaaDoor.P
end
section
namespace Go.Proofs.YthfphdbebnkdpaaDoor.P
open Go.RowKit Go.Proofs.YthfphdbebnkdpaaDoorW.aH Go.Proofs.YthfphdbebnkdpaaDoorW.aV Go.Proofs.YthfphdbebnkdpaaDoorW.bn
attribute [local go_sem] bR bS dn dw bB bC bU bV
set_option linter.unusedVariables false
set_option linter.unusedSimpArgs false
def di.f (k : Nat) (l0 : List Int) : Option (ByteArray) := (df.f k l0 10).bind fun tZ => (some tZ.1)
theorem di.mono : ∀ a0 k, LeO (di.f k a0) (di.f (k + 1) a0) := by
 intro a0 k
 unfold di.f
 repeat' first
   | (with_reducible exact df.mono _ _ _)
   | (with_reducible exact LeO.refl _)
   | (with_reducible exact LeO.none _)
   | (with_reducible refine LeO.ite ?_ ?_)
   | (with_reducible refine LeO.bind ?_ (fun _ => ?_))
   | exact df.mono _ _ _
   | exact LeO.none _
   | refine LeO.ite ?_ ?_
   | refine LeO.bind ?_ (fun _ => ?_)
set_option maxHeartbeats 8000000 in
set_option maxRecDepth 100000 in
theorem di.calls (k : Nat) (A0 : Option Addr) (c0 : Nat) (l0 : List Int) (r : ByteArray) (w : World) (hr0 : Kd.C (Kd.int .u64) w A0 l0.length l0) (hc0 : l0.length ≤ c0) (h : di.f k l0 = some r) :
  Calls Tryd.prog 52 #[.slice A0 l0.length c0] w fun e w' => e = .returned (.string r) ∧ Below w.heap.size w w' := by
 have HR0 := af.mk hr0
 have HC0 := af.mk hc0
 clear hr0 hc0
 have HB := af.mk (Below.refl w.heap.size w)
 have H : ((df.f k l0 10).bind fun tZ => (some tZ.1)) = some r := h
 clear h
 replace H := Option.bind_eq_some_iff.mp H
 obtain ⟨⟨dG, aQ⟩, A20, H⟩ := H
 replace H : (some dG) = some r := H
 have A2 := af.mk A20
 clear A20
 obtain rfl := Option.some.inj H
 go_enter Tryd.func52, Tryd.ntmps52
 go_wp2_with (first | ((with_reducible refine aN (f := 81) rfl ?_); refine cu (some 7) rfl rfl Tryd.func81 (by kernel_rfl) rfl #[.slice A0 l0.length c0, .int .i64 10] rfl qt ?_; (with_reducible refine (df.calls k _ _ l0 10 dG aQ _ ?bI ?bJ A2.out).mono ?_); (case bI => exact qs (HR0.out)); (case bJ => exact HC0.out); rintro e w3 ⟨rfl, hb⟩; refine ⟨_, rfl, ?_⟩; replace HB := af.mk (ai (qw HB) hb); (try clear hb); (try clear hb2); (try clear hk); (try clear hi)))
 go_ret
 exact ⟨by first | rfl | (simp [errW_none, errW_some] <;> rfl) | (simp [*, errW_none, errW_some] <;> rfl), by repeat (first | (with_reducible first | exact HB.out | apply aA | apply aj | apply av) | exact HB.out)⟩
end Go.Proofs.YthfphdbebnkdpaaDoor.P
end
section
namespace Go.Proofs.YthfphdbebnkdpaaDoor.P
open Go.RowKit Go.Proofs.YthfphdbebnkdpaaDoorW.aH Go.Proofs.YthfphdbebnkdpaaDoorW.aV Go.Proofs.YthfphdbebnkdpaaDoorW.bn
attribute [local go_sem] bR bS dn dw bB bC bU bV
set_option linter.unusedVariables false
set_option linter.unusedSimpArgs false
def eT.l0 : Nat → List Int → List Int → Int → Option (Int)
 | 0, _, _, _ => none
 | k + 1, x0, x1, x5 => if x5 ≥ 0 then (if 0 ≤ x5 then (if x5 < (x0.length : Int) then (if x5 < (x1.length : Int) then (if (rd x0 x5) < (rd x1 x5) then (some (-1)) else (if (rd x0 x5) > (rd x1 x5) then (some 1) else (eT.l0 k x0 x1 (wrap64 (x5 - 1))))) else (none)) else (none)) else (none)) else (some 0)
def eT.f (k : Nat) (l0 : List Int) (l1 : List Int) : Option (Int) := if (l0.length : Int) < (l1.length : Int) then (some (-1)) else (if (l0.length : Int) > (l1.length : Int) then (some 1) else (eT.l0 k l0 l1 (wrap64 ((l0.length : Int) - 1))))
theorem eT.dZ : ∀ k, (∀ y0 y1 y2, LeO (eT.l0 k y0 y1 y2) (eT.l0 (k + 1) y0 y1 y2))
 | 0 => fun _ _ _ r h => by simp [eT.l0] at h
 | k + 1 => by
  have ih0 := eT.dZ k
  ·intro y0 y1 y2
   unfold eT.l0
   repeat' first
   | (with_reducible exact ih0 _ _ _)
   | (with_reducible exact LeO.refl _)
   | (with_reducible exact LeO.none _)
   | (with_reducible refine LeO.ite ?_ ?_)
   | (with_reducible refine LeO.bind ?_ (fun _ => ?_))
   | exact ih0 _ _ _
   | exact LeO.none _
   | refine LeO.ite ?_ ?_
   | refine LeO.bind ?_ (fun _ => ?_)
theorem eT.mono : ∀ a0 a1 k, LeO (eT.f k a0 a1) (eT.f (k + 1) a0 a1) := by
 intro a0 a1 k
 have ih0 := eT.dZ k
 unfold eT.f
 repeat' first
   | (with_reducible exact ih0 _ _ _)
   | (with_reducible exact LeO.refl _)
   | (with_reducible exact LeO.none _)
   | (with_reducible refine LeO.ite ?_ ?_)
   | (with_reducible refine LeO.bind ?_ (fun _ => ?_))
   | exact ih0 _ _ _
   | exact LeO.none _
   | refine LeO.ite ?_ ?_
   | refine LeO.bind ?_ (fun _ => ?_)
set_option maxHeartbeats 8000000 in
set_option maxRecDepth 100000 in
theorem eT.calls (k : Nat) (A0 : Option Addr) (c0 : Nat) (l0 : List Int) (A1 : Option Addr) (c1 : Nat) (l1 : List Int) (r : Int) (w : World) (hr0 : Kd.C (Kd.int .u64) w A0 l0.length l0) (hc0 : l0.length ≤ c0) (hr1 : Kd.C (Kd.int .u64) w A1 l1.length l1) (hc1 : l1.length ≤ c1) (h : eT.f k l0 l1 = some r) :
  Calls Tryd.prog 33 #[.slice A0 l0.length c0, .slice A1 l1.length c1] w fun e w' => e = .returned (.int .i64 r) ∧ dL w w' := by
 have HR0 := af.mk hr0
 have HC0 := af.mk hc0
 clear hr0 hc0
 have HR1 := af.mk hr1
 have HC1 := af.mk hc1
 clear hr1 hc1
 have H : (if (l0.length : Int) < (l1.length : Int) then (some (-1)) else (if (l0.length : Int) > (l1.length : Int) then (some 1) else (eT.l0 k l0 l1 (wrap64 ((l0.length : Int) - 1))))) = some r := h
 clear h
 by_cases c3 : (l0.length : Int) < (l1.length : Int)
 ·rw [if_pos c3] at H
  have gG : decide ((l0.length : Int) < (l1.length : Int)) = true := decide_eq_true c3
  have gY : decide (l0.length < l1.length) = true := decide_eq_true (Int.ofNat_lt.mp c3)
  clear c3
  obtain rfl := Option.some.inj H
  go_enter Tryd.func33, Tryd.ntmps33
  go_wp2
  repeat (go_quiet (fail); try go_wp2)
  go_ret
  exact ⟨by first | rfl | (simp; done) | (simp [*]; done), by repeat (first | exact dL.refl _ | apply dL.step)⟩
 ·rw [if_neg c3] at H
  have gG : decide ((l0.length : Int) < (l1.length : Int)) = false := decide_eq_false c3
  have gY : decide (l0.length < l1.length) = false := decide_eq_false (fun h => c3 (Int.ofNat_lt.mpr h))
  clear c3
  by_cases c4 : (l0.length : Int) > (l1.length : Int)
  ·rw [if_pos c4] at H
   have ic : decide ((l1.length : Int) < (l0.length : Int)) = true := decide_eq_true c4
   have iA : decide (l1.length < l0.length) = true := decide_eq_true (Int.ofNat_lt.mp c4)
   clear c4
   obtain rfl := Option.some.inj H
   go_enter Tryd.func33, Tryd.ntmps33
   go_wp2
   repeat (go_quiet (fail); try go_wp2)
   go_ret
   exact ⟨by first | rfl | (simp; done) | (simp [*]; done), by repeat (first | exact dL.refl _ | apply dL.step)⟩
  ·rw [if_neg c4] at H
   have ic : decide ((l1.length : Int) < (l0.length : Int)) = false := decide_eq_false c4
   have iA : decide (l1.length < l0.length) = false := decide_eq_false (fun h => c4 (Int.ofNat_lt.mpr h))
   clear c4
   have H' := af.mk H
   clear H
   go_enter Tryd.func33, Tryd.ntmps33
   go_wp2
   repeat (go_quiet (fail); try go_wp2)
   go_loopg [5] k (fun kq v5 w' => ∃ (bO : Int), v5 = .int .i64 bO ∧ af (eT.l0 kq l0 l1 bO = some r) ∧ af (kq ≤ k) ∧ dL w w')
   case atStart => exact ⟨(wrap64 ((l0.length : Int) - 1)), (by first | rfl | (simp; done) | (simp [*]; done)), H', ⟨Nat.le_refl _⟩, by repeat (first | exact dL.refl _ | apply dL.step)⟩
   case round =>
    clear H'
    try clear c1
    try clear p2
    try clear c3
    try clear gG
    try clear gY
    try clear c4
    try clear ic
    try clear iA
    obtain ⟨bO, rfl, HA, HK1, ⟨m1, rfl⟩⟩ := hrel
    cases gk with
    | zero => exact absurd HA.out (by simp [eT.l0])
    | succ k1 =>
     have H := HA.out
     clear HA
     simp only [eT.l0] at H
     by_cases c5 : bO ≥ 0
     ·rw [if_pos c5] at H
      have iL : decide (0 ≤ bO) = true := decide_eq_true c5
      clear c5
      by_cases c6 : 0 ≤ bO
      ·rw [if_pos c6] at H
       have lT : decide (0 ≤ bO) = true := decide_eq_true c6
       clear c6
       by_cases c7 : bO < (l0.length : Int)
       ·rw [if_pos c7] at H
        have iZ : decide (bO < (l0.length : Int)) = true := decide_eq_true c7
        clear c7
        by_cases c8 : bO < (l1.length : Int)
        ·rw [if_pos c8] at H
         have jM : decide (bO < (l1.length : Int)) = true := decide_eq_true c8
         clear c8
         by_cases c9 : (rd l0 bO) < (rd l1 bO)
         ·rw [if_pos c9] at H
          have kT : decide ((rd l0 bO) < (rd l1 bO)) = true := decide_eq_true c9
          clear c9
          obtain rfl := Option.some.inj H
          have p101 : 0 ≤ (bO : Int) := of_decide_eq_true qa
          have q101 : bO < (l0.length : Int) := of_decide_eq_true qa
          obtain ⟨ad101, e101, hx101_0⟩ := Kd.iD HR0.out bO p101 q101
          cases e101
          replace p101 := eq_true p101
          replace q101 := eq_true q101
          have p102 : 0 ≤ (bO : Int) := of_decide_eq_true qa
          have q102 : bO < (l1.length : Int) := of_decide_eq_true qa
          obtain ⟨ad102, e102, hx102_0⟩ := Kd.iD HR1.out bO p102 q102
          cases e102
          replace p102 := eq_true p102
          replace q102 := eq_true q102
          go_wp2
          repeat (go_quiet (fail); try go_wp2)
          go_ret
          exact ⟨by first | rfl | (simp; done) | (simp [*]; done), by repeat (first | exact dL.refl _ | apply dL.step)⟩
         ·rw [if_neg c9] at H
          have kT : decide ((rd l0 bO) < (rd l1 bO)) = false := decide_eq_false c9
          clear c9
          by_cases c10 : (rd l0 bO) > (rd l1 bO)
          ·rw [if_pos c10] at H
           have vO : decide ((rd l1 bO) < (rd l0 bO)) = true := decide_eq_true c10
           clear c10
           obtain rfl := Option.some.inj H
           have p101 : 0 ≤ (bO : Int) := of_decide_eq_true qa
           have q101 : bO < (l0.length : Int) := of_decide_eq_true qa
           obtain ⟨ad101, e101, hx101_0⟩ := Kd.iD HR0.out bO p101 q101
           cases e101
           replace p101 := eq_true p101
           replace q101 := eq_true q101
           have p102 : 0 ≤ (bO : Int) := of_decide_eq_true qa
           have q102 : bO < (l1.length : Int) := of_decide_eq_true qa
           obtain ⟨ad102, e102, hx102_0⟩ := Kd.iD HR1.out bO p102 q102
           cases e102
           replace p102 := eq_true p102
           replace q102 := eq_true q102
           have p103 : 0 ≤ (bO : Int) := of_decide_eq_true qa
           have q103 : bO < (l0.length : Int) := of_decide_eq_true qa
           obtain ⟨ad103, e103, hx103_0⟩ := Kd.iD HR0.out bO p103 q103
           obtain rfl : ad101 = ad103 := (by injection e103)
           replace p103 := eq_true p103
           replace q103 := eq_true q103
           have p104 : 0 ≤ (bO : Int) := of_decide_eq_true qa
           have q104 : bO < (l1.length : Int) := of_decide_eq_true qa
           obtain ⟨ad104, e104, hx104_0⟩ := Kd.iD HR1.out bO p104 q104
           obtain rfl : ad102 = ad104 := (by injection e104)
           replace p104 := eq_true p104
           replace q104 := eq_true q104
           go_wp2
           repeat (go_quiet (fail); try go_wp2)
           go_ret
           exact ⟨by first | rfl | (simp; done) | (simp [*]; done), by repeat (first | exact dL.refl _ | apply dL.step)⟩
          ·rw [if_neg c10] at H
           have vO : decide ((rd l1 bO) < (rd l0 bO)) = false := decide_eq_false c10
           clear c10
           have H' := af.mk H
           clear H
           have p101 : 0 ≤ (bO : Int) := of_decide_eq_true qa
           have q101 : bO < (l0.length : Int) := of_decide_eq_true qa
           obtain ⟨ad101, e101, hx101_0⟩ := Kd.iD HR0.out bO p101 q101
           cases e101
           replace p101 := eq_true p101
           replace q101 := eq_true q101
           have p102 : 0 ≤ (bO : Int) := of_decide_eq_true qa
           have q102 : bO < (l1.length : Int) := of_decide_eq_true qa
           obtain ⟨ad102, e102, hx102_0⟩ := Kd.iD HR1.out bO p102 q102
           cases e102
           replace p102 := eq_true p102
           replace q102 := eq_true q102
           have p103 : 0 ≤ (bO : Int) := of_decide_eq_true qa
           have q103 : bO < (l0.length : Int) := of_decide_eq_true qa
           obtain ⟨ad103, e103, hx103_0⟩ := Kd.iD HR0.out bO p103 q103
           obtain rfl : ad101 = ad103 := (by injection e103)
           replace p103 := eq_true p103
           replace q103 := eq_true q103
           have p104 : 0 ≤ (bO : Int) := of_decide_eq_true qa
           have q104 : bO < (l1.length : Int) := of_decide_eq_true qa
           obtain ⟨ad104, e104, hx104_0⟩ := Kd.iD HR1.out bO p104 q104
           obtain rfl : ad102 = ad104 := (by injection e104)
           replace p104 := eq_true p104
           replace q104 := eq_true q104
           go_wp2
           repeat (go_quiet (fail); try go_wp2)
           go_roundg k1
           case measure => have := HK1.out; omega
           case rel => exact ⟨(wrap64 (bO - 1)), (by first | rfl | (simp; done) | (simp [*]; done)), H', ⟨by have := HK1.out; omega⟩, by repeat (first | exact dL.refl _ | apply dL.step)⟩
        ·rw [if_neg c8] at H
         exact absurd H (by simp)
       ·rw [if_neg c7] at H
        exact absurd H (by simp)
      ·rw [if_neg c6] at H
       exact absurd H (by simp)
     ·rw [if_neg c5] at H
      have iL : decide (0 ≤ bO) = false := decide_eq_false c5
      clear c5
      obtain rfl := Option.some.inj H
      go_wp2
      repeat (go_quiet (fail); try go_wp2)
      go_ret
      exact ⟨by first | rfl | (simp; done) | (simp [*]; done), by repeat (first | exact dL.refl _ | apply dL.step)⟩
end Go.Proofs.YthfphdbebnkdpaaDoor.P
end
section
namespace Go.Proofs.YthfphdbebnkdpaaDoor.P
open Go.RowKit Go.Proofs.YthfphdbebnkdpaaDoorW.aH Go.Proofs.YthfphdbebnkdpaaDoorW.aV Go.Proofs.YthfphdbebnkdpaaDoorW.bn
attribute [local go_sem] bR bS dn dw bB bC bU bV
set_option linter.unusedVariables false
set_option linter.unusedSimpArgs false
def iW.f (k : Nat) (a0 : Int) : Option (List Int) := (dM.f k (([Int.tmod a0 4294967296, a0 / 4294967296] : List Int))).bind fun bf => (some bf)
theorem iW.mono : ∀ a0 k, LeO (iW.f k a0) (iW.f (k + 1) a0) := by
 intro a0 k
 unfold iW.f
 repeat' first
   | (with_reducible exact dM.mono _ _)
   | (with_reducible exact LeO.refl _)
   | (with_reducible exact LeO.none _)
   | (with_reducible refine LeO.ite ?_ ?_)
   | (with_reducible refine LeO.bind ?_ (fun _ => ?_))
   | exact dM.mono _ _
   | exact LeO.none _
   | refine LeO.ite ?_ ?_
   | refine LeO.bind ?_ (fun _ => ?_)
set_option maxHeartbeats 8000000 in
set_option maxRecDepth 100000 in
theorem iW.calls (k : Nat) (a0 : Int) (r : List Int) (w : World) (h : iW.f k a0 = some r) :
  Calls Tryd.prog 35 #[.int .u64 a0] w fun e w' => ∃ v0_ : Value, e = .returned (v0_) ∧ Kd.R (Kd.int .u64) 64 w' w.heap.size (fun _ => True) v0_ r ∧ Below w.heap.size w w' := by
 have HB := af.mk (Below.refl w.heap.size w)
 have H : ((dM.f k (([Int.tmod a0 4294967296, a0 / 4294967296] : List Int))).bind fun bf => (some bf)) = some r := h
 clear h
 obtain ⟨y101, hy101⟩ : ∃ y_ : List Int, y_ = (([Int.tmod a0 4294967296, a0 / 4294967296] : List Int)) := ⟨_, rfl⟩
 replace H : ((dM.f k y101).bind fun bf => (some bf)) = some r := by first | (rw [hy101]; with_reducible exact H) | (have H2_ := (Option.bind_some _ _).symm.trans H; rw [hy101]; with_reducible exact H2_) | (have H2_ := (Option.bind_some _ _).symm.trans H; with_reducible exact H2_) | with_reducible exact H | (rw [hy101]; exact H) | exact H
 have Ny101 := af.mk hy101
 clear hy101
 replace H := Option.bind_eq_some_iff.mp H
 obtain ⟨bf, A20, H⟩ := H
 replace H : (some bf) = some r := H
 have A2 := af.mk A20
 clear A20
 obtain rfl := Option.some.inj H
 go_enter Tryd.func35, Tryd.ntmps35
 go_wp2_with (first | ((with_reducible refine aU (N := 7) rfl ?_); refine Kd.jw (Kd.int .u64) _ 64 ?hg (N := 7) ?hd (xs := ([Int.tmod a0 4294967296, a0 / 4294967296] : List Int)) (inner := [.int .u64 (Int.tmod a0 4294967296), .int .u64 (a0 / 4294967296)]) (ok := fun _ => True) (okp := fun _ => True) ?hr ?hp (fun _ hk => hk) trivial (Below.refl _ _) (Nat.le_refl _) (by simp) ?_; (case hd => rfl); (case hg => rfl); (case hr => first | (go_simp; done) | (go_simp; rfl)); (case hp => exact (bZ.one (show Kd.M (Kd.int .u64) _ _ _ (Int.tmod a0 4294967296) [.int .u64 (Int.tmod a0 4294967296)] from rfl) (bZ.one (show Kd.M (Kd.int .u64) _ _ _ (a0 / 4294967296) [.int .u64 (a0 / 4294967296)] from rfl) (bZ.none _ _)))); intro v102 w3 ho4 hb hg_ hnew_; clear hg_ hnew_; (first | rw [← Ny101.out] at ho4 | (simp only [Int.reduceToNat] at ho4; rw [← Ny101.out] at ho4)); have eD := af.mk (Kd.dI ho4 (bg (qw HB))); replace HB := af.mk (ai (qw HB) hb); clear hb ho4; obtain ⟨Ao5, co5, eo5⟩ := Kd.dW eD.out; subst eo5) | ((with_reducible refine aN (f := 55) rfl ?_); refine cu (some 8) rfl rfl Tryd.func55 (by kernel_rfl) rfl #[.slice Ao5 y101.length co5] rfl qt ?_; (with_reducible refine (dM.calls k (fun k_ => some k_ = (.slice Ao5 y101.length co5 : Value).ownBlock) (.slice Ao5 y101.length co5) y101 bf w _ ?bI ?bJ A2.out).mono ?_); (case bI => repeat (first | (with_reducible first | exact HB.out | apply aA | apply aj | apply av) | exact HB.out)); (case bJ => exact Kd.nW rfl eD.out); rintro e w6 ⟨v105, rfl, ho0, hb, hkp⟩; refine ⟨_, rfl, ?_⟩; have lv := af.mk (Kd.fG (ok' := fun k_ => True) ho0 (fun k_ hk_ => trivial)); replace HB := af.mk (hb); clear eD; (try clear hb); (try clear hkp); (try clear ho0)))
 go_ret
 exact ⟨_, by first | rfl | (simp [errW_none, errW_some] <;> rfl) | (simp [*, errW_none, errW_some] <;> rfl), by (with_reducible repeat (first | apply Kd.cB | apply Kd.cK | apply Kd.dD)); exact lv.out, by repeat (first | (with_reducible first | exact HB.out | apply aA | apply aj | apply av) | exact HB.out)⟩
end Go.Proofs.YthfphdbebnkdpaaDoor.P
end
section
namespace Go.Proofs.YthfphdbebnkdpaaDoor.P
open Go.RowKit Go.Proofs.YthfphdbebnkdpaaDoorW.aH Go.Proofs.YthfphdbebnkdpaaDoorW.aV Go.Proofs.YthfphdbebnkdpaaDoorW.bn
attribute [local go_sem] bR bS dn dw bB bC bU bV
set_option linter.unusedVariables false
set_option linter.unusedSimpArgs false
def fA.f (k : Nat) (aJ : Bool) (eB : List Int) : Option (ByteArray) := if aJ = true then ((di.f k eB).bind fun aQ => (if 1 + aQ.size ≤ 9223372036854775807 then (some ((⟨#[45]⟩ : ByteArray) ++ aQ)) else (none))) else ((di.f k eB).bind fun bu => (some bu))
theorem fA.mono : ∀ a0 a1 k, LeO (fA.f k a0 a1) (fA.f (k + 1) a0 a1) := by
 intro a0 a1 k
 unfold fA.f
 repeat' first
   | (with_reducible exact di.mono _ _)
   | (with_reducible exact LeO.refl _)
   | (with_reducible exact LeO.none _)
   | (with_reducible refine LeO.ite ?_ ?_)
   | (with_reducible refine LeO.bind ?_ (fun _ => ?_))
   | exact di.mono _ _
   | exact LeO.none _
   | refine LeO.ite ?_ ?_
   | refine LeO.bind ?_ (fun _ => ?_)
set_option maxHeartbeats 8000000 in
set_option maxRecDepth 100000 in
theorem fA.calls (k : Nat) (aJ : Bool) (gP : Option Addr) (c0_1 : Nat) (eB : List Int) (r : ByteArray) (w : World) (hr0_1 : Kd.C (Kd.int .u64) w gP eB.length eB) (hc0_1 : eB.length ≤ c0_1) (h : fA.f k aJ eB = some r) :
  Calls Tryd.prog 26 #[.agg #[.bool aJ, .slice gP eB.length c0_1]] w fun e w' => e = .returned (.string r) ∧ Below w.heap.size w w' := by
 have hu25 := Tryd.underlying25
 have lC := af.mk hr0_1
 have lD := af.mk hc0_1
 clear hr0_1 hc0_1
 have HB := af.mk (Below.refl w.heap.size w)
 have H : (if aJ = true then ((di.f k eB).bind fun aQ => (if 1 + aQ.size ≤ 9223372036854775807 then (some ((⟨#[45]⟩ : ByteArray) ++ aQ)) else (none))) else ((di.f k eB).bind fun bu => (some bu))) = some r := h
 clear h
 by_cases c2 : aJ = true
 ·subst c2
  have H1 : ((di.f k eB).bind fun aQ => (if 1 + aQ.size ≤ 9223372036854775807 then (some ((⟨#[45]⟩ : ByteArray) ++ aQ)) else (none))) = some r := by rw [if_pos rfl] at H; exact H
  clear H
  have H := H1
  clear H1
  replace H := Option.bind_eq_some_iff.mp H
  obtain ⟨aQ, A30, H⟩ := H
  replace H : (if 1 + aQ.size ≤ 9223372036854775807 then (some ((⟨#[45]⟩ : ByteArray) ++ aQ)) else (none)) = some r := H
  have A3 := af.mk A30
  clear A30
  by_cases c4 : 1 + aQ.size ≤ 9223372036854775807
  ·rw [if_pos c4] at H
   have ic := eq_true c4
   have iA : decide (1 + aQ.size ≤ 9223372036854775807) = true := decide_eq_true c4
   try have xD : (9223372036854775807 < 1 + aQ.size) = False := eq_false (Nat.not_lt.2 c4)
   obtain rfl := Option.some.inj H
   go_enter Tryd.func26, Tryd.ntmps26
   go_wp2_with (first | ((with_reducible refine aU (N := 1) rfl ?_); refine bz ?hg (N := 1) ?hd (cs := #[.bool true, .slice gP eB.length c0_1]) (t := 25) ?hr ?_; (case hd => rfl); (case hg => rfl); (case hr => first | (go_simp; done) | (go_simp; rfl)); intro ax hg w5 hbox hb; have ag := af.mk (hbox); have GW101 := qge HB hg; have dE := qge HB hg; replace HB := af.mk (ai (qw HB) hb); clear hb hbox hg; have hcz6_0 : w5.cell? ⟨ax, 0, none⟩ = some (.bool true) := (ae ag.out 0).trans rfl; have hcz6_1 : w5.cell? ⟨ax, 1, none⟩ = some (.slice gP eB.length c0_1) := (ae ag.out 1).trans rfl; have hfz6_0 := ah ag.out 0; have hfz6_1 := ah ag.out 1) | ((with_reducible refine aN (f := 52) rfl ?_); refine cu (some 7) rfl rfl Tryd.func52 (by kernel_rfl) rfl #[.slice gP eB.length c0_1] rfl qt ?_; (with_reducible refine (di.calls k _ _ eB aQ _ ?bI ?bJ A3.out).mono ?_); (case bI => exact qs ((Kd.eY lC.out HB.out))); (case bJ => exact lD.out); rintro e w7 ⟨rfl, hb⟩; refine ⟨_, rfl, ?_⟩; replace ag := qbb ag hb; replace HB := af.mk (ai (qw HB) hb); (try clear hb); (try clear hb2); (try clear hk); (try clear hi)))
   go_ret
   exact ⟨by first | rfl | (simp [errW_none, errW_some] <;> rfl) | (simp [*, errW_none, errW_some] <;> rfl), by repeat (first | (with_reducible first | exact HB.out | apply aA | apply aj | apply av | refine bi ?_ dE.out) | exact HB.out)⟩
  ·rw [if_neg c4] at H
   exact absurd H (by simp)
 ·replace c2 := Bool.eq_false_iff.mpr c2
  subst c2
  have H1 : ((di.f k eB).bind fun bu => (some bu)) = some r := by rw [if_neg (show ¬ (false = true) by decide)] at H; exact H
  clear H
  have H := H1
  clear H1
  replace H := Option.bind_eq_some_iff.mp H
  obtain ⟨bu, A80, H⟩ := H
  replace H : (some bu) = some r := H
  have A8 := af.mk A80
  clear A80
  obtain rfl := Option.some.inj H
  go_enter Tryd.func26, Tryd.ntmps26
  go_wp2_with (first | ((with_reducible refine aU (N := 1) rfl ?_); refine bz ?hg (N := 1) ?hd (cs := #[.bool false, .slice gP eB.length c0_1]) (t := 25) ?hr ?_; (case hd => rfl); (case hg => rfl); (case hr => first | (go_simp; done) | (go_simp; rfl)); intro ax hg w9 hbox hb; have ag := af.mk (hbox); have GW101 := qge HB hg; have dE := qge HB hg; replace HB := af.mk (ai (qw HB) hb); clear hb hbox hg; have hcz10_0 : w9.cell? ⟨ax, 0, none⟩ = some (.bool false) := (ae ag.out 0).trans rfl; have hcz10_1 : w9.cell? ⟨ax, 1, none⟩ = some (.slice gP eB.length c0_1) := (ae ag.out 1).trans rfl; have hfz10_0 := ah ag.out 0; have hfz10_1 := ah ag.out 1) | ((with_reducible refine aN (f := 52) rfl ?_); refine cu (some 11) rfl rfl Tryd.func52 (by kernel_rfl) rfl #[.slice gP eB.length c0_1] rfl qt ?_; (with_reducible refine (di.calls k _ _ eB bu _ ?bI ?bJ A8.out).mono ?_); (case bI => exact qs ((Kd.eY lC.out HB.out))); (case bJ => exact lD.out); rintro e w11 ⟨rfl, hb⟩; refine ⟨_, rfl, ?_⟩; replace ag := qbb ag hb; replace HB := af.mk (ai (qw HB) hb); (try clear hb); (try clear hb2); (try clear hk); (try clear hi)))
  go_ret
  exact ⟨by first | rfl | (simp [errW_none, errW_some] <;> rfl) | (simp [*, errW_none, errW_some] <;> rfl), by repeat (first | (with_reducible first | exact HB.out | apply aA | apply aj | apply av | refine bi ?_ dE.out) | exact HB.out)⟩
end Go.Proofs.YthfphdbebnkdpaaDoor.P
end
section
namespace Go.Proofs.YthfphdbebnkdpaaDoor.P
open Go.RowKit Go.Proofs.YthfphdbebnkdpaaDoorW.aH Go.Proofs.YthfphdbebnkdpaaDoorW.aV Go.Proofs.YthfphdbebnkdpaaDoorW.bn
attribute [local go_sem] bR bS dn dw bB bC bU bV
set_option linter.unusedVariables false
set_option linter.unusedSimpArgs false
def fI.f (k : Nat) (aJ : Bool) (eB : List Int) (gq : List Int) : Option (ByteArray) := (fA.f k aJ eB).bind fun aQ => ((iW.f k 1).bind fun bu => ((eT.f k gq bu).bind fun aX => (if aX = 0 then (some aQ) else (if aQ.size + 1 ≤ 9223372036854775807 then ((di.f k gq).bind fun t107 => (if (aQ ++ (⟨#[47]⟩ : ByteArray)).size + t107.size ≤ 9223372036854775807 then (some ((aQ ++ (⟨#[47]⟩ : ByteArray)) ++ t107)) else (none))) else (none)))))
theorem fI.mono : ∀ a0 a1 a2 k, LeO (fI.f k a0 a1 a2) (fI.f (k + 1) a0 a1 a2) := by
 intro a0 a1 a2 k
 unfold fI.f
 repeat' first
   | (with_reducible exact di.mono _ _)
   | (with_reducible exact eT.mono _ _ _)
   | (with_reducible exact iW.mono _ _)
   | (with_reducible exact fA.mono _ _ _)
   | (with_reducible exact LeO.refl _)
   | (with_reducible exact LeO.none _)
   | (with_reducible refine LeO.ite ?_ ?_)
   | (with_reducible refine LeO.bind ?_ (fun _ => ?_))
   | exact di.mono _ _
   | exact eT.mono _ _ _
   | exact iW.mono _ _
   | exact fA.mono _ _ _
   | exact LeO.none _
   | refine LeO.ite ?_ ?_
   | refine LeO.bind ?_ (fun _ => ?_)
set_option maxHeartbeats 8000000 in
set_option maxRecDepth 100000 in
theorem fI.calls (k : Nat) (aJ : Bool) (gP : Option Addr) (c0_1 : Nat) (eB : List Int) (jP : Option Addr) (c0_2 : Nat) (gq : List Int) (r : ByteArray) (w : World) (hr0_1 : Kd.C (Kd.int .u64) w gP eB.length eB) (hc0_1 : eB.length ≤ c0_1) (hr0_2 : Kd.C (Kd.int .u64) w jP gq.length gq) (hc0_2 : gq.length ≤ c0_2) (h : fI.f k aJ eB gq = some r) :
  Calls Tryd.prog 129 #[.agg #[.bool aJ, .slice gP eB.length c0_1, .slice jP gq.length c0_2]] w fun e w' => e = .returned (.string r) ∧ Below w.heap.size w w' := by
 have hu149 := Tryd.underlying149
 have hu25 := Tryd.underlying25
 have lC := af.mk hr0_1
 have lD := af.mk hc0_1
 clear hr0_1 hc0_1
 have pF := af.mk hr0_2
 have pG := af.mk hc0_2
 clear hr0_2 hc0_2
 have HB := af.mk (Below.refl w.heap.size w)
 have H : ((fA.f k aJ eB).bind fun aQ => ((iW.f k 1).bind fun bu => ((eT.f k gq bu).bind fun aX => (if aX = 0 then (some aQ) else (if aQ.size + 1 ≤ 9223372036854775807 then ((di.f k gq).bind fun t107 => (if (aQ ++ (⟨#[47]⟩ : ByteArray)).size + t107.size ≤ 9223372036854775807 then (some ((aQ ++ (⟨#[47]⟩ : ByteArray)) ++ t107)) else (none))) else (none)))))) = some r := h
 clear h
 replace H := Option.bind_eq_some_iff.mp H
 obtain ⟨aQ, A20, H⟩ := H
 replace H : ((iW.f k 1).bind fun bu => ((eT.f k gq bu).bind fun aX => (if aX = 0 then (some aQ) else (if aQ.size + 1 ≤ 9223372036854775807 then ((di.f k gq).bind fun t107 => (if (aQ ++ (⟨#[47]⟩ : ByteArray)).size + t107.size ≤ 9223372036854775807 then (some ((aQ ++ (⟨#[47]⟩ : ByteArray)) ++ t107)) else (none))) else (none))))) = some r := H
 have A2 := af.mk A20
 clear A20
 replace H := Option.bind_eq_some_iff.mp H
 obtain ⟨bu, A30, H⟩ := H
 replace H : ((eT.f k gq bu).bind fun aX => (if aX = 0 then (some aQ) else (if aQ.size + 1 ≤ 9223372036854775807 then ((di.f k gq).bind fun t107 => (if (aQ ++ (⟨#[47]⟩ : ByteArray)).size + t107.size ≤ 9223372036854775807 then (some ((aQ ++ (⟨#[47]⟩ : ByteArray)) ++ t107)) else (none))) else (none)))) = some r := H
 have A3 := af.mk A30
 clear A30
 replace H := Option.bind_eq_some_iff.mp H
 obtain ⟨aX, A40, H⟩ := H
 replace H : (if aX = 0 then (some aQ) else (if aQ.size + 1 ≤ 9223372036854775807 then ((di.f k gq).bind fun t107 => (if (aQ ++ (⟨#[47]⟩ : ByteArray)).size + t107.size ≤ 9223372036854775807 then (some ((aQ ++ (⟨#[47]⟩ : ByteArray)) ++ t107)) else (none))) else (none))) = some r := H
 have A4 := af.mk A40
 clear A40
 by_cases c5 : aX = 0
 ·rw [if_pos c5] at H
  have iL : (aX == 0) = true := beq_iff_eq.mpr c5
  have kC : (aX != 0) = false := bne_eq_false_iff_eq.mpr c5
  clear c5
  obtain rfl := Option.some.inj H
  go_enter Tryd.func129, Tryd.ntmps129
  try go_wp2_with (first | ((with_reducible refine aU (N := 1) rfl ?_); refine bz ?hg (N := 1) ?hd (cs := #[.bool aJ, .slice gP eB.length c0_1, .slice jP gq.length c0_2]) (t := 149) ?hr ?_; (case hd => rfl); (case hg => rfl); (case hr => first | (go_simp; done) | (go_simp; rfl)); intro ax hg w6 hbox hb; have ag := af.mk (hbox); have GW101 := qge HB hg; have dE := qge HB hg; replace HB := af.mk (ai (qw HB) hb); clear hb hbox hg; have hcz7_0 : w6.cell? ⟨ax, 0, none⟩ = some (.bool aJ) := (ae ag.out 0).trans rfl; have hcz7_1 : w6.cell? ⟨ax, 1, none⟩ = some (.slice gP eB.length c0_1) := (ae ag.out 1).trans rfl; have hcz7_2 : w6.cell? ⟨ax, 2, none⟩ = some (.slice jP gq.length c0_2) := (ae ag.out 2).trans rfl; have hfz7_0 := ah ag.out 0; have hfz7_1 := ah ag.out 1; have hfz7_2 := ah ag.out 2) | ((with_reducible refine aN (f := 26) rfl ?_); refine cu (some 6) rfl rfl Tryd.func26 (by kernel_rfl) rfl #[.agg #[.bool aJ, .slice gP eB.length c0_1]] rfl qt ?_; (with_reducible refine (fA.calls k aJ _ _ eB aQ _ ?bI ?bJ A2.out).mono ?_); (case bI => exact qs ((Kd.eY lC.out HB.out))); (case bJ => exact lD.out); rintro e w8 ⟨rfl, hb⟩; refine ⟨_, rfl, ?_⟩; replace ag := qbb ag hb; replace HB := af.mk (ai (qw HB) hb); (try clear hb); (try clear hb2); (try clear hk); (try clear hi)))
  replace ag := af.mk (dC ag.out)
  replace HB := af.mk (av HB.out)
  refine gm (n := 5) (S := fun w' => w'.cell? ⟨ax, 0, none⟩ = some (.bool aJ) ∧ w'.cell? ⟨ax, 1, none⟩ = some (.slice gP eB.length c0_1) ∧ w'.cell? ⟨ax, 2, none⟩ = some (.slice jP gq.length c0_2)) (ds := []) #[bF,bF,bF,bF,bF] (by kernel_rfl) rfl rfl ⟨(ae ag.out 0).trans rfl, (ae ag.out 1).trans rfl, (ae ag.out 2).trans rfl⟩ (fun hHeld => ?_)
  generalize w8.drew = w9 at ag HB hHeld ⊢
  refine nL (i := 0) (N := some 7) (v := ?_) (a' := ?_) #[bT,bF,bF,bF,bF] rfl rfl (by kernel_rfl) (fun _ _ _ h => h) (Or.inl ⟨by rfl, ?_⟩) ?_ ?_
  rotate_left
  ·intro w'
   go_simp
   with_reducible rfl
  rotate_left
  ·exact rf
  refine oM (i := 1) (N := some 8) (v := ?_) (a' := ?_) #[bT,bT,bF,bF,bF] rfl rfl (by kernel_rfl) (fun _ _ _ h => h) (Or.inl ⟨by rfl, ?_⟩) hHeld ?_ ?_
  rotate_left
  ·rintro w' ⟨s0, s1, s2⟩
   go_simp
   with_reducible rfl
  rotate_left
  ·exact rf
  refine sj (i := 2) (N := some 9) #[bT,bT,bT,bF,bF] rfl rfl (by kernel_rfl) (by decide) (fun K hK => ?_)
  refine fe Tryd.func35 #[.int .u64 1] ?_
  with_reducible refine (iW.calls k 1 bu _ A3.out).mono ?_
  rintro e w10 ⟨v104, rfl, ho0, hb⟩
  refine ⟨_, rfl, ?_⟩
  have eQ := af.mk (Kd.dI ho0 (bg (qw HB)))
  replace ag := qbb ag hb
  replace HB := af.mk (ai (qw HB) hb)
  (try clear hb)
  (try clear hb2)
  (try clear hk)
  (try clear hi)
  (try clear ho0)
  obtain ⟨wH, wI, uY⟩ := Kd.dW eQ.out
  (first | subst uY | (injection uY with f1_ f2_ f3_; have f4_ := f1_.symm; have f5_ := f3_.symm; clear f1_ f2_ f3_; subst f4_; subst f5_))
  refine hK.out _ _ ⟨(ae ag.out 0).trans rfl, (ae ag.out 1).trans rfl, (ae ag.out 2).trans rfl⟩ (fun hHeld => ?_)
  clear hK K
  refine eX (some 9) ?_
  refine sj (i := 3) (N := some 10) #[bT,bT,bT,bT,bF] rfl rfl (by kernel_rfl) (by decide) (fun K hK => ?_)
  refine fe Tryd.func33 #[.slice jP gq.length c0_2, .slice wH bu.length wI] ?_
  with_reducible refine (eT.calls k _ _ gq _ _ bu aX _ ?bI ?bJ ?lF ?lG A4.out).mono ?_
  (case bI => exact qs ((Kd.eY pF.out HB.out)))
  (case bJ => exact pG.out)
  (case lF => exact qs ((Kd.aZ eQ.out).2.2))
  (case lG => exact (Kd.aZ eQ.out).2.1)
  rintro e w' ⟨rfl, ⟨nd, rfl⟩⟩
  refine ⟨_, rfl, ?_⟩
  refine hK.out _ _ ⟨(ae ag.out 0).trans rfl, (ae ag.out 1).trans rfl, (ae ag.out 2).trans rfl⟩ (fun hHeld => ?_)
  clear hK K
  refine eX (some 10) ?_
  refine nL (i := 4) (N := some 11) (v := ?_) (a' := ?_) #[bT,bT,bT,bT,bT] rfl rfl (by kernel_rfl) (fun _ _ _ h => h) (Or.inl ⟨by rfl, ?_⟩) ?_ ?_
  rotate_left
  ·intro w'
   go_simp
   with_reducible rfl
  rotate_left
  ·exact rf
  refine su (by kernel_rfl) ?_
  try go_wp2
  go_ret
  exact ⟨by first | rfl | (simp [errW_none, errW_some] <;> rfl) | (simp [*, errW_none, errW_some] <;> rfl), by repeat (first | (with_reducible first | exact HB.out | apply aA | apply aj | apply av | refine bi ?_ dE.out) | exact HB.out)⟩
 ·rw [if_neg c5] at H
  have iL : (aX == 0) = false := beq_eq_false_iff_ne.mpr c5
  have kC : (aX != 0) = true := bne_iff_ne.mpr c5
  by_cases c12 : aQ.size + 1 ≤ 9223372036854775807
  ·rw [if_pos c12] at H
   have qJ := eq_true c12
   have yf : decide (aQ.size + 1 ≤ 9223372036854775807) = true := decide_eq_true c12
   try have Bn : (9223372036854775807 < aQ.size + 1) = False := eq_false (Nat.not_lt.2 c12)
   replace H := Option.bind_eq_some_iff.mp H
   obtain ⟨t107, A130, H⟩ := H
   replace H : (if (aQ ++ (⟨#[47]⟩ : ByteArray)).size + t107.size ≤ 9223372036854775807 then (some ((aQ ++ (⟨#[47]⟩ : ByteArray)) ++ t107)) else (none)) = some r := H
   have A13 := af.mk A130
   clear A130
   by_cases c14 : (aQ ++ (⟨#[47]⟩ : ByteArray)).size + t107.size ≤ 9223372036854775807
   ·rw [if_pos c14] at H
    have nP := eq_true c14
    have mY : decide ((aQ ++ (⟨#[47]⟩ : ByteArray)).size + t107.size ≤ 9223372036854775807) = true := decide_eq_true c14
    try have Bo : (9223372036854775807 < (aQ ++ (⟨#[47]⟩ : ByteArray)).size + t107.size) = False := eq_false (Nat.not_lt.2 c14)
    (try (have Bp : (9223372036854775807 < aQ.size + 1 + t107.size) = False := eq_false (Nat.not_lt.2 (by have h_ := mY; simp only [ByteArray.size_append, decide_eq_true_eq] at h_; first | exact h_ | (simp at h_; omega)))))
    obtain rfl := Option.some.inj H
    go_enter Tryd.func129, Tryd.ntmps129
    try go_wp2_with (first | ((with_reducible refine aU (N := 1) rfl ?_); refine bz ?hg (N := 1) ?hd (cs := #[.bool aJ, .slice gP eB.length c0_1, .slice jP gq.length c0_2]) (t := 149) ?hr ?_; (case hd => rfl); (case hg => rfl); (case hr => first | (go_simp; done) | (go_simp; rfl)); intro ax hg w15 hbox hb; have ag := af.mk (hbox); have GW101 := qge HB hg; have dE := qge HB hg; replace HB := af.mk (ai (qw HB) hb); clear hb hbox hg; have hcz16_0 : w15.cell? ⟨ax, 0, none⟩ = some (.bool aJ) := (ae ag.out 0).trans rfl; have hcz16_1 : w15.cell? ⟨ax, 1, none⟩ = some (.slice gP eB.length c0_1) := (ae ag.out 1).trans rfl; have hcz16_2 : w15.cell? ⟨ax, 2, none⟩ = some (.slice jP gq.length c0_2) := (ae ag.out 2).trans rfl; have hfz16_0 := ah ag.out 0; have hfz16_1 := ah ag.out 1; have hfz16_2 := ah ag.out 2) | ((with_reducible refine aN (f := 26) rfl ?_); refine cu (some 6) rfl rfl Tryd.func26 (by kernel_rfl) rfl #[.agg #[.bool aJ, .slice gP eB.length c0_1]] rfl qt ?_; (with_reducible refine (fA.calls k aJ _ _ eB aQ _ ?bI ?bJ A2.out).mono ?_); (case bI => exact qs ((Kd.eY lC.out HB.out))); (case bJ => exact lD.out); rintro e w17 ⟨rfl, hb⟩; refine ⟨_, rfl, ?_⟩; replace ag := qbb ag hb; replace HB := af.mk (ai (qw HB) hb); (try clear hb); (try clear hb2); (try clear hk); (try clear hi)))
    replace ag := af.mk (dC ag.out)
    replace HB := af.mk (av HB.out)
    refine gm (n := 5) (S := fun w' => w'.cell? ⟨ax, 0, none⟩ = some (.bool aJ) ∧ w'.cell? ⟨ax, 1, none⟩ = some (.slice gP eB.length c0_1) ∧ w'.cell? ⟨ax, 2, none⟩ = some (.slice jP gq.length c0_2)) (ds := []) #[bF,bF,bF,bF,bF] (by kernel_rfl) rfl rfl ⟨(ae ag.out 0).trans rfl, (ae ag.out 1).trans rfl, (ae ag.out 2).trans rfl⟩ (fun hHeld => ?_)
    generalize w17.drew = w18 at ag HB hHeld ⊢
    refine nL (i := 0) (N := some 7) (v := ?_) (a' := ?_) #[bT,bF,bF,bF,bF] rfl rfl (by kernel_rfl) (fun _ _ _ h => h) (Or.inl ⟨by rfl, ?_⟩) ?_ ?_
    rotate_left
    ·intro w'
     go_simp
     with_reducible rfl
    rotate_left
    ·exact rf
    refine oM (i := 1) (N := some 8) (v := ?_) (a' := ?_) #[bT,bT,bF,bF,bF] rfl rfl (by kernel_rfl) (fun _ _ _ h => h) (Or.inl ⟨by rfl, ?_⟩) hHeld ?_ ?_
    rotate_left
    ·rintro w' ⟨s0, s1, s2⟩
     go_simp
     with_reducible rfl
    rotate_left
    ·exact rf
    refine sj (i := 2) (N := some 9) #[bT,bT,bT,bF,bF] rfl rfl (by kernel_rfl) (by decide) (fun K hK => ?_)
    refine fe Tryd.func35 #[.int .u64 1] ?_
    with_reducible refine (iW.calls k 1 bu _ A3.out).mono ?_
    rintro e w19 ⟨v104, rfl, ho0, hb⟩
    refine ⟨_, rfl, ?_⟩
    have eQ := af.mk (Kd.dI ho0 (bg (qw HB)))
    replace ag := qbb ag hb
    replace HB := af.mk (ai (qw HB) hb)
    (try clear hb)
    (try clear hb2)
    (try clear hk)
    (try clear hi)
    (try clear ho0)
    obtain ⟨wJ, wK, uZ⟩ := Kd.dW eQ.out
    (first | subst uZ | (injection uZ with f1_ f2_ f3_; have f4_ := f1_.symm; have f5_ := f3_.symm; clear f1_ f2_ f3_; subst f4_; subst f5_))
    refine hK.out _ _ ⟨(ae ag.out 0).trans rfl, (ae ag.out 1).trans rfl, (ae ag.out 2).trans rfl⟩ (fun hHeld => ?_)
    clear hK K
    refine eX (some 9) ?_
    refine sj (i := 3) (N := some 10) #[bT,bT,bT,bT,bF] rfl rfl (by kernel_rfl) (by decide) (fun K hK => ?_)
    refine fe Tryd.func33 #[.slice jP gq.length c0_2, .slice wJ bu.length wK] ?_
    with_reducible refine (eT.calls k _ _ gq _ _ bu aX _ ?bI ?bJ ?lF ?lG A4.out).mono ?_
    (case bI => exact qs ((Kd.eY pF.out HB.out)))
    (case bJ => exact pG.out)
    (case lF => exact qs ((Kd.aZ eQ.out).2.2))
    (case lG => exact (Kd.aZ eQ.out).2.1)
    rintro e w' ⟨rfl, ⟨nd, rfl⟩⟩
    refine ⟨_, rfl, ?_⟩
    refine hK.out _ _ ⟨(ae ag.out 0).trans rfl, (ae ag.out 1).trans rfl, (ae ag.out 2).trans rfl⟩ (fun hHeld => ?_)
    clear hK K
    refine eX (some 10) ?_
    refine nL (i := 4) (N := some 11) (v := ?_) (a' := ?_) #[bT,bT,bT,bT,bT] rfl rfl (by kernel_rfl) (fun _ _ _ h => h) (Or.inl ⟨by rfl, ?_⟩) ?_ ?_
    rotate_left
    ·intro w'
     go_simp
     with_reducible rfl
    rotate_left
    ·exact rf
    refine su (by kernel_rfl) ?_
    have hcz21_0 : w19.cell? ⟨ax, 0, none⟩ = some (.bool aJ) := (ae ag.out 0).trans rfl
    have hcz21_1 : w19.cell? ⟨ax, 1, none⟩ = some (.slice gP eB.length c0_1) := (ae ag.out 1).trans rfl
    have hcz21_2 : w19.cell? ⟨ax, 2, none⟩ = some (.slice jP gq.length c0_2) := (ae ag.out 2).trans rfl
    have hfz21_0 := ah ag.out 0
    have hfz21_1 := ah ag.out 1
    have hfz21_2 := ah ag.out 2
    try go_wp2_with (first | ((with_reducible refine aN (f := 52) rfl ?_); refine cu (some 17) rfl rfl Tryd.func52 (by kernel_rfl) rfl #[.slice jP gq.length c0_2] rfl qt ?_; (with_reducible refine (di.calls k _ _ gq t107 _ ?bI ?bJ A13.out).mono ?_); (case bI => repeat (first | exact (Kd.eY pF.out (qw HB)) | (with_reducible refine Kd.qz ?_ _) | (with_reducible refine Kd.qA ?_ _) | (with_reducible refine Kd.rY ?_))); (case bJ => exact pG.out); rintro e w22 ⟨rfl, hb⟩; refine ⟨_, rfl, ?_⟩; replace eQ := af.mk (Kd.bH (qr eQ) hb); replace ag := qbb ag hb; replace HB := af.mk (ai (qw HB) hb); (try clear hb); (try clear hb2); (try clear hk); (try clear hi)))
    go_ret
    exact ⟨by first | rfl | (simp [errW_none, errW_some] <;> rfl) | (simp [*, errW_none, errW_some] <;> rfl), by repeat (first | (with_reducible first | exact HB.out | apply aA | apply aj | apply av | refine bi ?_ dE.out) | exact HB.out)⟩
   ·rw [if_neg c14] at H
    exact absurd H (by simp)
  ·rw [if_neg c12] at H
   exact absurd H (by simp)
end Go.Proofs.YthfphdbebnkdpaaDoor.P
end
section
namespace Go.Proofs.YthfphdbebnkdpaaDoor.P
open Go.RowKit Go.Proofs.YthfphdbebnkdpaaDoorW.aH Go.Proofs.YthfphdbebnkdpaaDoorW.aV Go.Proofs.YthfphdbebnkdpaaDoorW.bn
attribute [local go_sem] bR bS dn dw bB bC bU bV
set_option linter.unusedVariables false
set_option linter.unusedSimpArgs false
def ek.f (k : Nat) (aJ : ByteArray) (aD : ByteArray) (bL : ByteArray) (aR : Bool) (ig : List Int) (mh : List Int) : Option (ByteArray) := (fI.f k aR ig mh).bind fun aQ => ((aM.f (([(⟨#[108, 105, 110, 107]⟩ : ByteArray), aJ, aD, bL, (⟨#[102, 97, 105, 108]⟩ : ByteArray), aQ] : List ByteArray))).bind fun aX => (if aX.size + 1 ≤ 9223372036854775807 then (some (aX ++ (⟨#[59]⟩ : ByteArray))) else (none)))
theorem ek.mono : ∀ a0 a1 a2 a3 a4 a5 k, LeO (ek.f k a0 a1 a2 a3 a4 a5) (ek.f (k + 1) a0 a1 a2 a3 a4 a5) := by
 intro a0 a1 a2 a3 a4 a5 k
 unfold ek.f
 repeat' first
   | (with_reducible exact fI.mono _ _ _ _)
   | (with_reducible exact LeO.refl _)
   | (with_reducible exact LeO.none _)
   | (with_reducible refine LeO.ite ?_ ?_)
   | (with_reducible refine LeO.bind ?_ (fun _ => ?_))
   | exact fI.mono _ _ _ _
   | exact LeO.none _
   | refine LeO.ite ?_ ?_
   | refine LeO.bind ?_ (fun _ => ?_)
def ek.T1 : Bool × List (List Nat × List Nat) := (true, [([], []), ([0], [0]), ([], []), ([2], [2]), ([], []), ([4], [4]), ([], []), ([6], [6]), ([7], [7]), ([1, 3, 5, 8], [1, 3, 5, 8]), ([9, 8], [9]), ([10], [10]), ([11, 10, 0, 1, 2, 3, 4, 5, 6, 7, 8, 9, 10, 11], [11])])
def ek.B1 : List Nat := [0, 1, 0, 4, 0, 16, 0, 64, 192, 511, 1023, 2047, 4095]
theorem ek.mg : gK .any (opsOf Tryd.f101 1) = ek.T1 := by kernel_rfl
theorem ek.jV : fM ek.T1.2 ek.B1 = true := by kernel_rfl
set_option maxHeartbeats 8000000 in
set_option maxRecDepth 100000 in
theorem ek.calls (k : Nat) (aJ : ByteArray) (aD : ByteArray) (bL : ByteArray) (aR : Bool) (kW : Option Addr) (c0_4 : Nat) (ig : List Int) (uf : Option Addr) (c0_5 : Nat) (mh : List Int) (r : ByteArray) (w : World) (hr0_4 : Kd.C (Kd.int .u64) w kW ig.length ig) (hc0_4 : ig.length ≤ c0_4) (hr0_5 : Kd.C (Kd.int .u64) w uf mh.length mh) (hc0_5 : mh.length ≤ c0_5) (h : ek.f k aJ aD bL aR ig mh = some r) :
  Calls Tryd.prog 101 #[.agg #[.string aJ, .string aD, .string bL, .bool aR, .slice kW ig.length c0_4, .slice uf mh.length c0_5]] w fun e w' => e = .returned (.string r) ∧ Below w.heap.size w w' := by
 have hu151 := Tryd.underlying151
 have hu149 := Tryd.underlying149
 have ug := af.mk hr0_4
 have uh := af.mk hc0_4
 clear hr0_4 hc0_4
 have yt := af.mk hr0_5
 have yu := af.mk hc0_5
 clear hr0_5 hc0_5
 have HB := af.mk (Below.refl w.heap.size w)
 have H : ((fI.f k aR ig mh).bind fun aQ => ((aM.f (([(⟨#[108, 105, 110, 107]⟩ : ByteArray), aJ, aD, bL, (⟨#[102, 97, 105, 108]⟩ : ByteArray), aQ] : List ByteArray))).bind fun aX => (if aX.size + 1 ≤ 9223372036854775807 then (some (aX ++ (⟨#[59]⟩ : ByteArray))) else (none)))) = some r := h
 clear h
 replace H := Option.bind_eq_some_iff.mp H
 obtain ⟨aQ, A20, H⟩ := H
 replace H : ((aM.f (([(⟨#[108, 105, 110, 107]⟩ : ByteArray), aJ, aD, bL, (⟨#[102, 97, 105, 108]⟩ : ByteArray), aQ] : List ByteArray))).bind fun aX => (if aX.size + 1 ≤ 9223372036854775807 then (some (aX ++ (⟨#[59]⟩ : ByteArray))) else (none))) = some r := H
 have A2 := af.mk A20
 clear A20
 obtain ⟨y103, hy103⟩ : ∃ y_ : List ByteArray, y_ = (([(⟨#[108, 105, 110, 107]⟩ : ByteArray), aJ, aD, bL, (⟨#[102, 97, 105, 108]⟩ : ByteArray), aQ] : List ByteArray)) := ⟨_, rfl⟩
 replace H : ((aM.f y103).bind fun aX => (if aX.size + 1 ≤ 9223372036854775807 then (some (aX ++ (⟨#[59]⟩ : ByteArray))) else (none))) = some r := by first | (rw [hy103]; with_reducible exact H) | (have H2_ := (Option.bind_some _ _).symm.trans H; rw [hy103]; with_reducible exact H2_) | (have H2_ := (Option.bind_some _ _).symm.trans H; with_reducible exact H2_) | with_reducible exact H | (rw [hy103]; exact H) | exact H
 have Ny103 := af.mk hy103
 clear hy103
 replace H := Option.bind_eq_some_iff.mp H
 obtain ⟨aX, A30, H⟩ := H
 replace H : (if aX.size + 1 ≤ 9223372036854775807 then (some (aX ++ (⟨#[59]⟩ : ByteArray))) else (none)) = some r := H
 have A3 := af.mk A30
 clear A30
 by_cases c4 : aX.size + 1 ≤ 9223372036854775807
 ·rw [if_pos c4] at H
  have ic := eq_true c4
  have iA : decide (aX.size + 1 ≤ 9223372036854775807) = true := decide_eq_true c4
  try have xD : (9223372036854775807 < aX.size + 1) = False := eq_false (Nat.not_lt.2 c4)
  obtain rfl := Option.some.inj H
  go_enter Tryd.func101, Tryd.ntmps101
  try go_wp2_with (first | ((with_reducible refine aU (N := 1) rfl ?_); refine bz ?hg (N := 1) ?hd (cs := #[.string aJ, .string aD, .string bL, .bool aR, .slice kW ig.length c0_4, .slice uf mh.length c0_5]) (t := 151) ?hr ?_; (case hd => rfl); (case hg => rfl); (case hr => first | (go_simp; done) | (go_simp; rfl)); intro ax hg w5 hbox hb; have ag := af.mk (hbox); have GW101 := qge HB hg; have dE := qge HB hg; replace HB := af.mk (ai (qw HB) hb); clear hb hbox hg))
  replace ag := af.mk (dC ag.out)
  replace HB := af.mk (av HB.out)
  refine gm (n := 13) (S := fun w' => w'.cell? ⟨ax, 0, none⟩ = some (.string aJ) ∧ w'.cell? ⟨ax, 1, none⟩ = some (.string aD) ∧ w'.cell? ⟨ax, 2, none⟩ = some (.string bL) ∧ w'.cell? ⟨ax, 3, none⟩ = some (.bool aR) ∧ w'.cell? ⟨ax, 4, none⟩ = some (.slice kW ig.length c0_4) ∧ w'.cell? ⟨ax, 5, none⟩ = some (.slice uf mh.length c0_5)) (ds := []) #[bF,bF,bF,bF,bF,bF,bF,bF,bF,bF,bF,bF,bF] (by kernel_rfl) rfl rfl ⟨(ae ag.out 0).trans rfl, (ae ag.out 1).trans rfl, (ae ag.out 2).trans rfl, (ae ag.out 3).trans rfl, (ae ag.out 4).trans rfl, (ae ag.out 5).trans rfl⟩ (fun hHeld => ?_); refine eH ek.mg ek.jV (fun HT_ HW_ => ?_)
  generalize w5.drew = w6 at ag HB hHeld ⊢
  refine aY 0 (some 3) HT_ ?_
  refine aY 2 (some 5) HT_ ?_
  refine aY 4 (some 7) HT_ ?_
  refine aY 6 (some 9) HT_ ?_
  refine d9 1 (some 4) HT_ HW_ hHeld ?_
  refine d9 3 (some 6) HT_ HW_ hHeld ?_
  refine d9 5 (some 8) HT_ HW_ hHeld ?_
  refine d9 7 (some 10) HT_ HW_ hHeld ?_
  refine gF 8 (some 11) HT_ (fun K hK => ?_)
  refine fe Tryd.func129 #[.agg #[.bool aR, .slice kW ig.length c0_4, .slice uf mh.length c0_5]] ?_
  with_reducible refine (fI.calls k aR _ _ ig _ _ mh aQ _ ?bI ?bJ ?lF ?lG A2.out).mono ?_
  (case bI => exact qs ((Kd.eY ug.out HB.out)))
  (case bJ => exact uh.out)
  (case lF => exact qs ((Kd.eY yt.out HB.out)))
  (case lG => exact yu.out)
  rintro e w7 ⟨rfl, hb⟩
  refine ⟨_, rfl, ?_⟩
  replace ag := qbb ag hb
  replace HB := af.mk (ai (qw HB) hb)
  (try clear hb)
  (try clear hb2)
  (try clear hk)
  (try clear hi)
  refine hK.out _ _ ⟨(ae ag.out 0).trans rfl, (ae ag.out 1).trans rfl, (ae ag.out 2).trans rfl, (ae ag.out 3).trans rfl, (ae ag.out 4).trans rfl, (ae ag.out 5).trans rfl⟩ (fun hHeld => ?_)
  clear hK K
  refine eX (some 11) ?_
  refine gF 9 (some 12) HT_ (fun K hK => ?_)
  refine Kd.iT Kd.string _ 9 ?hg (N := 12) ?hd (xs := ([(⟨#[108, 105, 110, 107]⟩ : ByteArray), aJ, aD, bL, (⟨#[102, 97, 105, 108]⟩ : ByteArray), aQ] : List ByteArray)) (inner := [.string (⟨#[108, 105, 110, 107]⟩ : ByteArray), .string aJ, .string aD, .string bL, .string (⟨#[102, 97, 105, 108]⟩ : ByteArray), .string aQ]) (ok := fun _ => True) (okp := fun _ => True) ?hr ?hp (fun _ hk => hk) trivial (Below.refl _ _) (Nat.le_refl _) (by simp) ?_; (case hd => rfl); (case hg => rfl); (case hr => first | (go_simp; done) | (go_simp; rfl)); (case hp => exact (bZ.one (show Kd.M Kd.string _ _ _ (⟨#[108, 105, 110, 107]⟩ : ByteArray) [.string (⟨#[108, 105, 110, 107]⟩ : ByteArray)] from rfl) (bZ.one (show Kd.M Kd.string _ _ _ aJ [.string aJ] from rfl) (bZ.one (show Kd.M Kd.string _ _ _ aD [.string aD] from rfl) (bZ.one (show Kd.M Kd.string _ _ _ bL [.string bL] from rfl) (bZ.one (show Kd.M Kd.string _ _ _ (⟨#[102, 97, 105, 108]⟩ : ByteArray) [.string (⟨#[102, 97, 105, 108]⟩ : ByteArray)] from rfl) (bZ.one (show Kd.M Kd.string _ _ _ aQ [.string aQ] from rfl) (bZ.none _ _))))))))
  intro v104 w8 ho9 hb hg_ hnew_
  clear hg_ hnew_
  (first | rw [← Ny103.out] at ho9 | (simp only [Int.reduceToNat] at ho9; rw [← Ny103.out] at ho9))
  have eQ := af.mk (Kd.dI ho9 (bg (qw HB)))
  replace ag := qbb ag hb
  replace HB := af.mk (ai (qw HB) hb)
  clear hb ho9
  obtain ⟨zt, zu, yw⟩ := Kd.dW eQ.out
  (first | subst yw | (injection yw with f1_ f2_ f3_; have f4_ := f1_.symm; have f5_ := f3_.symm; clear f1_ f2_ f3_; subst f4_; subst f5_))
  refine hK.out _ _ ⟨(ae ag.out 0).trans rfl, (ae ag.out 1).trans rfl, (ae ag.out 2).trans rfl, (ae ag.out 3).trans rfl, (ae ag.out 4).trans rfl, (ae ag.out 5).trans rfl⟩ (fun hHeld => ?_)
  clear hK K
  refine eX (some 12) ?_
  refine gF 10 (some 13) HT_ (fun K hK => ?_)
  refine fe Tryd.func39 #[.slice zt y103.length zu] ?_
  with_reducible refine (aM.calls _ _ y103 aX _ ?bI ?bJ A3.out).mono ?_
  (case bI => exact qs ((Kd.aZ eQ.out).2.2))
  (case bJ => exact (Kd.aZ eQ.out).2.1)
  rintro e w11 ⟨rfl, hb⟩
  refine ⟨_, rfl, ?_⟩
  replace eQ := af.mk (Kd.bH (qr eQ) hb)
  replace ag := qbb ag hb
  replace HB := af.mk (ai (qw HB) hb)
  (try clear hb)
  (try clear hb2)
  (try clear hk)
  (try clear hi)
  refine hK.out _ _ ⟨(ae ag.out 0).trans rfl, (ae ag.out 1).trans rfl, (ae ag.out 2).trans rfl, (ae ag.out 3).trans rfl, (ae ag.out 4).trans rfl, (ae ag.out 5).trans rfl⟩ (fun hHeld => ?_)
  clear hK K
  refine eX (some 13) ?_
  refine aY 11 (some 14) HT_ ?_
  refine aY 12 (some 2) HT_ ?_
  refine iq HT_ ?_
  try go_wp2
  go_ret
  exact ⟨by first | rfl | (simp [errW_none, errW_some] <;> rfl) | (simp [*, errW_none, errW_some] <;> rfl), by repeat (first | (with_reducible first | exact HB.out | apply aA | apply aj | apply av | refine bi ?_ dE.out) | exact HB.out)⟩
 ·rw [if_neg c4] at H
  exact absurd H (by simp)
end Go.Proofs.YthfphdbebnkdpaaDoor.P
end
section
namespace Go.Proofs.YthfphdbebnkdpaaDoor.P
open Go.RowKit Go.Proofs.YthfphdbebnkdpaaDoorW.aH Go.Proofs.YthfphdbebnkdpaaDoorW.aV Go.Proofs.YthfphdbebnkdpaaDoorW.bn
attribute [local go_sem] bR bS dn dw bB bC bU bV
set_option linter.unusedVariables false
set_option linter.unusedSimpArgs false
def dQ.l0 : Nat → List ByteArray → List (jo) → Int → Int → Option (List ByteArray)
 | 0, _, _, _, _ => none
 | k + 1, x5, x11, x12, x13 => if x13 < x12 then (if 0 ≤ x13 then (if x13 < (x11.length : Int) then ((ek.f k ((bE x11 x13).f0) ((bE x11 x13).f1) ((bE x11 x13).f2) ((bE x11 x13).f3.f0.f0) ((bE x11 x13).f3.f0.f1) ((bE x11 x13).f3.f1)).bind fun aX => (if x13 < (x5.length : Int) then (dQ.l0 k (x5.set (x13 : Int).toNat aX) x11 x12 (wrap64 (x13 + 1))) else (none))) else (none)) else (none)) else (some x5)
def dQ.f (k : Nat) (l0 : List (jo)) (a1 : Bool) : Option (List ByteArray) := if 0 ≤ (l0.length : Int) then (if ((l0.length : Int) : Int).toNat ≤ 17592186044416 then (dQ.l0 k (List.replicate ((l0.length : Int) : Int).toNat (⟨#[]⟩ : ByteArray)) l0 (l0.length : Int) 0) else (none)) else (none)
theorem dQ.dZ : ∀ k, (∀ y0 y1 y2 y3, LeO (dQ.l0 k y0 y1 y2 y3) (dQ.l0 (k + 1) y0 y1 y2 y3))
 | 0 => fun _ _ _ _ r h => by simp [dQ.l0] at h
 | k + 1 => by
  have ih0 := dQ.dZ k
  ·intro y0 y1 y2 y3
   unfold dQ.l0
   repeat' first
   | (with_reducible exact ih0 _ _ _ _)
   | (with_reducible exact ek.mono _ _ _ _ _ _ _)
   | (with_reducible exact LeO.refl _)
   | (with_reducible exact LeO.none _)
   | (with_reducible refine LeO.ite ?_ ?_)
   | (with_reducible refine LeO.bind ?_ (fun _ => ?_))
   | exact ih0 _ _ _ _
   | exact ek.mono _ _ _ _ _ _ _
   | exact LeO.none _
   | refine LeO.ite ?_ ?_
   | refine LeO.bind ?_ (fun _ => ?_)
theorem dQ.mono : ∀ a0 a1 k, LeO (dQ.f k a0 a1) (dQ.f (k + 1) a0 a1) := by
 intro a0 a1 k
 have ih0 := dQ.dZ k
 unfold dQ.f
 repeat' first
   | (with_reducible exact ih0 _ _ _ _)
   | (with_reducible exact ek.mono _ _ _ _ _ _ _)
   | (with_reducible exact LeO.refl _)
   | (with_reducible exact LeO.none _)
   | (with_reducible refine LeO.ite ?_ ?_)
   | (with_reducible refine LeO.bind ?_ (fun _ => ?_))
   | exact ih0 _ _ _ _
   | exact ek.mono _ _ _ _ _ _ _
   | exact LeO.none _
   | refine LeO.ite ?_ ?_
   | refine LeO.bind ?_ (fun _ => ?_)
set_option maxHeartbeats 8000000 in
set_option maxRecDepth 100000 in
theorem dQ.calls (k : Nat) (A0 : Option Addr) (c0 : Nat) (l0 : List (jo)) (a1 : Bool) (r : List ByteArray) (w : World) (hr0 : Kd.C oh w A0 l0.length l0) (hc0 : l0.length ≤ c0) (h : dQ.f k l0 a1 = some r) :
  Calls Tryd.prog 100 #[.slice A0 l0.length c0, .func (.func 101) #[] #[]] w fun e w' => ∃ v0_ : Value, e = .returned (v0_) ∧ Kd.R Kd.string 9 w' w.heap.size (fun _ => True) v0_ r ∧ Below w.heap.size w w' := by
 have hu151 := Tryd.underlying151
 have HR0 := af.mk hr0
 have HC0 := af.mk hc0
 clear hr0 hc0
 have HB := af.mk (Below.refl w.heap.size w)
 have H : (if 0 ≤ (l0.length : Int) then (if ((l0.length : Int) : Int).toNat ≤ 17592186044416 then (dQ.l0 k (List.replicate ((l0.length : Int) : Int).toNat (⟨#[]⟩ : ByteArray)) l0 (l0.length : Int) 0) else (none)) else (none)) = some r := h
 clear h
 by_cases c3 : 0 ≤ (l0.length : Int)
 ·rw [if_pos c3] at H
  have gG := eq_true c3
  have gY : decide (0 ≤ (l0.length : Int)) = true := decide_eq_true c3
  clear c3
  by_cases c4 : ((l0.length : Int) : Int).toNat ≤ 17592186044416
  ·rw [if_pos c4] at H
   have ic := eq_true c4
   have iA : decide (((l0.length : Int) : Int).toNat ≤ 17592186044416) = true := decide_eq_true c4
   clear c4
   obtain ⟨y101, hy101⟩ : ∃ y_ : List ByteArray, y_ = (List.replicate ((l0.length : Int) : Int).toNat (⟨#[]⟩ : ByteArray)) := ⟨_, rfl⟩
   replace H : (dQ.l0 k y101 l0 (l0.length : Int) 0) = some r := by first | (rw [hy101]; with_reducible exact H) | (have H2_ := (Option.bind_some _ _).symm.trans H; rw [hy101]; with_reducible exact H2_) | (have H2_ := (Option.bind_some _ _).symm.trans H; with_reducible exact H2_) | with_reducible exact H | (rw [hy101]; exact H) | exact H
   have Ny101 := af.mk hy101
   clear hy101
   have H' := af.mk H
   clear H
   go_enter Tryd.func100, Tryd.ntmps100
   go_wp2_with (first | ((with_reducible refine aU (N := 10) rfl ?_); refine Kd.jh Kd.string _ 9 rfl (N := 10) rfl 72 _ _ rfl (l0.length : Int) rfl rfl Tryd.underlying72 (.string ⟨#[]⟩) 16 lq rfl (by decide) (by omega) (⟨#[]⟩ : ByteArray) (ok := fun _ => True) (okp := fun _ => True) rfl (fun _ hk => hk) trivial (of_decide_eq_true qa) (Nat.le_trans (Nat.mul_le_mul_right _ (of_decide_eq_true qa : (l0.length : Int).toNat ≤ 17592186044416)) (by omega)) (Below.refl _ _) (Nat.le_refl _) ?_; intro v102 w5 ho6 hb hg_ hnew_; clear hg_ hnew_; (first | rw [← Ny101.out] at ho6 | (simp only [Int.reduceToNat] at ho6; rw [← Ny101.out] at ho6)); have eD := af.mk (Kd.dI ho6 (bg (qw HB))); replace HB := af.mk (ai (qw HB) hb); clear hb ho6))
   go_loopg [13] k (fun kq v13 w' => ∃ (bO : List ByteArray) (au : Int), v13 = .int .i64 au ∧ af (dQ.l0 kq bO l0 (l0.length : Int) au = some r) ∧ af (kq ≤ k) ∧ af (Kd.R Kd.string 9 w' w.heap.size (fun _ => True) v102 bO) ∧ af (Below w.heap.size w w'))
   case atStart => exact ⟨(y101), (0), (by first | rfl | (simp; done) | (simp [*]; done)), H', ⟨Nat.le_refl _⟩, ⟨by (with_reducible repeat (first | apply Kd.cB | apply Kd.cK | apply Kd.dD)); exact eD.out⟩, ⟨by repeat (first | (with_reducible first | exact HB.out | apply aA | apply aj | apply av) | exact HB.out)⟩⟩
   case round =>
    clear H'
    try clear c1
    try clear p2
    try clear c3
    try clear gG
    try clear gY
    try clear c4
    try clear ic
    try clear iA
    obtain ⟨bO, au, rfl, HA, HK1, dN, HB⟩ := hrel
    cases gk with
    | zero => exact absurd HA.out (by simp [dQ.l0])
    | succ k1 =>
     have H := HA.out
     clear HA
     simp only [dQ.l0] at H
     by_cases c7 : au < (l0.length : Int)
     ·rw [if_pos c7] at H
      have iZ : decide (au < (l0.length : Int)) = true := decide_eq_true c7
      clear c7
      by_cases c8 : 0 ≤ au
      ·rw [if_pos c8] at H
       have jM : decide (0 ≤ au) = true := decide_eq_true c8
       clear c8
       by_cases c9 : au < (l0.length : Int)
       ·rw [if_pos c9] at H
        have kT : decide (au < (l0.length : Int)) = true := decide_eq_true c9
        clear c9
        replace H := Option.bind_eq_some_iff.mp H
        obtain ⟨aX, A100, H⟩ := H
        replace H : (if au < (bO.length : Int) then (dQ.l0 k1 (bO.set (au : Int).toNat aX) l0 (l0.length : Int) (wrap64 (au + 1))) else (none)) = some r := H
        have A10 := af.mk A100
        clear A100
        by_cases c11 : au < (bO.length : Int)
        ·rw [if_pos c11] at H
         have jC : decide (au < (bO.length : Int)) = true := decide_eq_true c11
         clear c11
         obtain ⟨y107, hy107⟩ : ∃ y_ : List ByteArray, y_ = (bO.set (au : Int).toNat aX) := ⟨_, rfl⟩
         replace H : (dQ.l0 k1 y107 l0 (l0.length : Int) (wrap64 (au + 1))) = some r := by first | (rw [hy107]; with_reducible exact H) | (have H2_ := (Option.bind_some _ _).symm.trans H; rw [hy107]; with_reducible exact H2_) | (have H2_ := (Option.bind_some _ _).symm.trans H; with_reducible exact H2_) | with_reducible exact H | (rw [hy107]; exact H) | exact H
         have Ny107 := af.mk hy107
         clear hy107
         have H' := af.mk H
         clear H
         have p104 : 0 ≤ (au : Int) := of_decide_eq_true qa
         have q104 : au < (l0.length : Int) := of_decide_eq_true qa
         obtain ⟨ad104, jJ, c104_4, oD, c104_5, e104, hx104_0, hx104_1, hx104_2, hx104_3, hx104_4, hx104_5, hl104_4, hi104_4, hl104_5, hi104_5⟩ := uL HR0.out au p104 q104
         cases e104
         replace hx104_0 := (HB.out.cell (World.block_lt_of_cell? w _ hx104_0)).trans hx104_0
         replace hx104_1 := (HB.out.cell (World.block_lt_of_cell? w _ hx104_1)).trans hx104_1
         replace hx104_2 := (HB.out.cell (World.block_lt_of_cell? w _ hx104_2)).trans hx104_2
         replace hx104_3 := (HB.out.cell (World.block_lt_of_cell? w _ hx104_3)).trans hx104_3
         replace hx104_4 := (HB.out.cell (World.block_lt_of_cell? w _ hx104_4)).trans hx104_4
         replace hx104_5 := (HB.out.cell (World.block_lt_of_cell? w _ hx104_5)).trans hx104_5
         have oG := af.mk hi104_4
         have oH := af.mk hl104_4
         clear hi104_4 hl104_4
         have u6 := af.mk hi104_5
         have u7 := af.mk hl104_5
         clear hi104_5 hl104_5
         replace p104 := eq_true p104
         replace q104 := eq_true q104
         go_wp2_with (first | ((with_reducible refine aU (N := 7) rfl ?_); refine bz ?hg (N := 7) ?hd (cs := #[.string (⟨#[]⟩ : ByteArray), .string (⟨#[]⟩ : ByteArray), .string (⟨#[]⟩ : ByteArray), .bool false, .slice none 0 0, .slice none 0 0]) (t := 151) ?hr ?_; (case hd => rfl); (case hg => rfl); (case hr => first | (go_simp; done) | (go_simp; rfl)); intro dB hg w13 hbox hb; replace dN := af.mk (Kd.bH (qr dN) hb); have bD := af.mk (hbox); have GW105 := qge HB hg; have jN := qge HB hg; replace HB := af.mk (ai (qw HB) hb); clear hb hbox hg; have hcz14_0 : w13.cell? ⟨dB, 0, none⟩ = some (.string (⟨#[]⟩ : ByteArray)) := (ae bD.out 0).trans rfl; have hcz14_1 : w13.cell? ⟨dB, 1, none⟩ = some (.string (⟨#[]⟩ : ByteArray)) := (ae bD.out 1).trans rfl; have hcz14_2 : w13.cell? ⟨dB, 2, none⟩ = some (.string (⟨#[]⟩ : ByteArray)) := (ae bD.out 2).trans rfl; have hcz14_3 : w13.cell? ⟨dB, 3, none⟩ = some (.bool false) := (ae bD.out 3).trans rfl; have hcz14_4 : w13.cell? ⟨dB, 4, none⟩ = some (.slice none 0 0) := (ae bD.out 4).trans rfl; have hcz14_5 : w13.cell? ⟨dB, 5, none⟩ = some (.slice none 0 0) := (ae bD.out 5).trans rfl; have hfz14_0 := ah bD.out 0; have hfz14_1 := ah bD.out 1; have hfz14_2 := ah bD.out 2; have hfz14_3 := ah bD.out 3; have hfz14_4 := ah bD.out 4; have hfz14_5 := ah bD.out 5) | ((with_reducible refine Go.Proofs.YthfphdbebnkdpaaDoorV.gz (s := 20) rfl ?_); refine Go.Proofs.YthfphdbebnkdpaaDoorV.jB (some 22) rfl rfl Tryd.func101 (by kernel_rfl) rfl #[.agg #[.string ((bE l0 au).f0), .string ((bE l0 au).f1), .string ((bE l0 au).f2), .bool ((bE l0 au).f3.f0.f0), .slice jJ ((bE l0 au).f3.f0.f1).length c104_4, .slice oD ((bE l0 au).f3.f1).length c104_5]] rfl qt ?_; (with_reducible refine (ek.calls k1 ((bE l0 au).f0) ((bE l0 au).f1) ((bE l0 au).f2) ((bE l0 au).f3.f0.f0) _ _ ((bE l0 au).f3.f0.f1) _ _ ((bE l0 au).f3.f1) aX _ ?bI ?bJ ?lF ?lG A10.out).mono ?_); (case bI => exact Kd.eY oG.out (qw HB)); (case bJ => exact oH.out); (case lF => exact Kd.eY u6.out (qw HB)); (case lG => exact u7.out); rintro e w15 ⟨rfl, hb⟩; refine ⟨_, rfl, ?_⟩; replace dN := af.mk (Kd.bH (by (with_reducible repeat (first | apply Kd.cB | apply Kd.cK | apply Kd.dD)); exact (Kd.fG (Kd.gy (p := ⟨dB, 5, none⟩) (Kd.gy (p := ⟨dB, 4, none⟩) (Kd.gy (p := ⟨dB, 3, none⟩) (Kd.gy (p := ⟨dB, 2, none⟩) (Kd.gy (p := ⟨dB, 1, none⟩) (Kd.gy (p := ⟨dB, 0, none⟩) (Kd.jR dN.out bD.out (by decide)) (fun _ hk => hk.2) (.string ((bE l0 au).f0))) (fun _ hk => hk.2) (.string ((bE l0 au).f1))) (fun _ hk => hk.2) (.string ((bE l0 au).f2))) (fun _ hk => hk.2) (.bool ((bE l0 au).f3.f0.f0))) (fun _ hk => hk.2) (.slice jJ ((bE l0 au).f3.f0.f1).length c104_4)) (fun _ hk => hk.2) (.slice oD ((bE l0 au).f3.f1).length c104_5)) (fun _ h_ => h_.1))) hb); replace bD := af.mk (gX (g := dB) (o := .cells #[.string ((bE l0 au).f0), .string ((bE l0 au).f1), .string ((bE l0 au).f2), .bool ((bE l0 au).f3.f0.f0), .slice jJ ((bE l0 au).f3.f0.f1).length c104_4, .slice oD ((bE l0 au).f3.f1).length c104_5] 151 (0, 0)) (by refine cO (cs := #[.string ((bE l0 au).f0), .string ((bE l0 au).f1), .string ((bE l0 au).f2), .bool ((bE l0 au).f3.f0.f0), .slice jJ ((bE l0 au).f3.f0.f1).length c104_4, .slice none 0 0]) ?_ 5 _ rfl; refine cO (cs := #[.string ((bE l0 au).f0), .string ((bE l0 au).f1), .string ((bE l0 au).f2), .bool ((bE l0 au).f3.f0.f0), .slice none 0 0, .slice none 0 0]) ?_ 4 _ rfl; refine cO (cs := #[.string ((bE l0 au).f0), .string ((bE l0 au).f1), .string ((bE l0 au).f2), .bool false, .slice none 0 0, .slice none 0 0]) ?_ 3 _ rfl; refine cO (cs := #[.string ((bE l0 au).f0), .string ((bE l0 au).f1), .string (⟨#[]⟩ : ByteArray), .bool false, .slice none 0 0, .slice none 0 0]) ?_ 2 _ rfl; refine cO (cs := #[.string ((bE l0 au).f0), .string (⟨#[]⟩ : ByteArray), .string (⟨#[]⟩ : ByteArray), .bool false, .slice none 0 0, .slice none 0 0]) ?_ 1 _ rfl; refine cO (cs := #[.string (⟨#[]⟩ : ByteArray), .string (⟨#[]⟩ : ByteArray), .string (⟨#[]⟩ : ByteArray), .bool false, .slice none 0 0, .slice none 0 0]) ?_ 0 _ rfl; (with_reducible repeat (first | refine fK ?_ _ | refine dC ?_ | refine fJ ?_ _)); exact bD.out) hb); replace HB := af.mk (ai (qw HB) hb); (try clear hb); (try clear hb2); (try clear hk); (try clear hi); have p12 : 0 ≤ (au : Int) := of_decide_eq_true qa; have q12 : (au : Int) < ((bO.length : Int) : Int) := of_decide_eq_true qa; obtain ⟨go12, jk, iy, jl, gl12, cl12, HG12⟩ := Kd.jg dN.out (by omega); (first | cases iy | (injection iy with ea_ en_ ec_; (first | subst ea_ | (injection ea_ with ea_; subst ea_)); subst ec_; clear en_)); have kV := af.mk jl; have GG12 := af.mk HG12; clear jl gl12 HG12; obtain ⟨hx12_0, hf12_0⟩ := Kd.fD (⟨#[]⟩ : ByteArray) dN.out (au : Int) p12 q12; replace p12 := eq_true p12; replace q12 := eq_true q12; obtain ⟨hy16_, hz16_⟩ := Kd.fD (⟨#[]⟩ : ByteArray) dN.out (au : Int) (of_decide_eq_true qa) (of_decide_eq_true qa); have HP16 := Kd.ji dN.out (au : Int) aX) | ((with_reducible refine fZ (t := 9) (p := 23) rfl ?_); refine fH (t := 9) (p := 23) (v := ?vo_w17) (w1 := (w15.setCell ⟨go12, (au : Int).toNat, none⟩ (.string aX))) ?hg ?ho ?hn ?hr ?_; (case ho => rfl); (case hg => rfl); (case hn => rfl); (case hr => first | (go_simp; done) | (go_simp; rfl)); intro w17 hw; have hg : w15.grownBy w17 (some go12) := (by rw [hw]; exact HP16.2); have hp_ : Kd.R Kd.string 9 w17 w.heap.size (fun _ => True) (.slice (some ⟨go12, 0, none⟩) bO.length jk) y107 := (by rw [hw, Ny107.out]; exact HP16.1); clear HP16; replace bD := af.mk (iQ (g := dB) (o := .cells #[.string ((bE l0 au).f0), .string ((bE l0 au).f1), .string ((bE l0 au).f2), .bool ((bE l0 au).f3.f0.f0), .slice jJ ((bE l0 au).f3.f0.f1).length c104_4, .slice oD ((bE l0 au).f3.f1).length c104_5] 151 (0, 0)) (qb bD) hg (Kd.pO dN.out bD.out (by decide))); replace dN := af.mk (hp_); replace HB := af.mk ((by rw [hw]; exact bi (HB.out) kV.out : Below w.heap.size w w17)); clear hg hw hp_))
         go_roundg k1
         case measure => have := HK1.out; omega
         case rel => exact ⟨(y107), (wrap64 (au + 1)), (by first | rfl | (simp; done) | (simp [*]; done)), H', ⟨by have := HK1.out; omega⟩, ⟨by (with_reducible repeat (first | apply Kd.cB | apply Kd.cK | apply Kd.dD)); exact dN.out⟩, ⟨by repeat (first | (with_reducible first | exact HB.out | apply aA | apply aj | apply av | refine bi ?_ jN.out) | exact HB.out)⟩⟩
        ·rw [if_neg c11] at H
         exact absurd H (by simp)
       ·rw [if_neg c9] at H
        exact absurd H (by simp)
      ·rw [if_neg c8] at H
       exact absurd H (by simp)
     ·rw [if_neg c7] at H
      have iZ : decide (au < (l0.length : Int)) = false := decide_eq_false c7
      clear c7
      obtain rfl := Option.some.inj H
      go_wp2
      go_ret
      exact ⟨_, by first | rfl | (simp [errW_none, errW_some] <;> rfl) | (simp [*, errW_none, errW_some] <;> rfl), by (with_reducible repeat (first | apply Kd.cB | apply Kd.cK | apply Kd.dD)); exact dN.out, by repeat (first | (with_reducible first | exact HB.out | apply aA | apply aj | apply av) | exact HB.out)⟩
  ·rw [if_neg c4] at H
   exact absurd H (by simp)
 ·rw [if_neg c3] at H
  exact absurd H (by simp)
end Go.Proofs.YthfphdbebnkdpaaDoor.P
end
