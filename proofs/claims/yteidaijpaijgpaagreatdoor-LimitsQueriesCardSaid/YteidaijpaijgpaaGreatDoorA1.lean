/- Part 1 of a proof that was merged by a program. -/
import Derived.Below
import Derived.Deep.Draws
import Derived.Deep.AppendLies
import Derived.Maps.AppendAt
import Derived.OwnWalk
import Derived.Laws.BytesArg
import Derived.Laws.MakeOwn
import Derived.Laws.OwnMore
import Derived.Deep.OwnRows
import Derived.Tactics
import Derived.Lib.ConvBytes
import Derived.Laws.Slices
import Derived.WalkKit
import Derived.KernelRfl
import Derived.RowKit3
import Derived.Deep.LoopGhost
import Derived.Deep.QuietTactic
import Derived.BigQuiet
import Derived.WideLaws
import Derived.Deep.DeepCutAuto
import Derived.Deep.CutBlock
import Derived.Deep.RegionHeld3
import Derived.Laws.Rows
import Derived.Lib.AppendStr
import Derived.ArgAppend
import Derived.Laws.IdiomCopy
import Derived.RowKit
import Derived.OrdersHeld
import Derived.Laws.BitsLemmas
import Derived.Laws.CopyOwn
import Derived.Lib.Builder
import Derived.Lib.LaidTab
import Derived.Lib.OthersKept
import Derived.Lib.FrozenHead
import Derived.Lib.ItoaNum
import Derived.Test.YteidaijpaijgpaaGreatDoorProg
import Derived.Test.YteidaijpaijgpaaGreatDoorRows
import Derived.PinnedBridge
import Derived.LaidHandle
import Derived.LaidLaws
import Derived.MakeChecks
import Derived.Stop.LaidErr
import Derived.ProofKit
import Derived.Laws.StructEq
import Derived.OpenShut
import Derived.ChangeArms
import Derived.DataReads
import Derived.DataElems
import Derived.Shelf.Strings.Builder1
import Derived.Shelf.Strings.Builder2
import Derived.Shelf.Strings.OnBuilder
import Derived.Shelf.Strings.Trim
import Derived.Shelf.Small.Utf8
import Derived.Shelf.Small.Strs
import Derived.Shelf.Strings.BuilderF
import Derived.Shelf.Strings.BuilderK
import Derived.Shelf.Strings.Builder2Cap
import Derived.Shelf.Strconv.Itoa0
import Derived.Shelf.Strconv.Itoa1
import Derived.Shelf.LaysM
import Derived.Shelf.Strconv.Itoa2
import Derived.Shelf.Strconv.Itoa3
import Derived.Shelf.Strings.Search1
import Derived.Shelf.Unicode.Decode
import Derived.Shelf.Strings.Runes
import Derived.Shelf.Strings.AsciiSet
import Derived.Shelf.Unicode.DecodeSlow
import Derived.Shelf.Unicode.DecodeAny
import Derived.Shelf.Strings.BuilderCap
import Derived.Lib.ItoaLen
import Derived.Lib.ItoaMem
import Derived.Laws.BitsAllLaws
import Derived.Lib.Hide
import Derived.ShutString
import Derived.ChangeOld
import Derived.Carry
import Derived.SizedLaws
import Derived.Test.YteidaijpaijgpaaGreatDoorCards
import Derived.Test.YteidaijpaijgpaaGreatDoorTie
import Derived.SevenTiedAt
import Derived.Test.YteidaijpaijgpaaGreatDoorA0
section
namespace Go.Proofs.YteidaijpaijgpaaGreatDoor.P
open Go.RowKit Go.Proofs.YteidaijpaijgpaaGreatDoorW.ay Go.Proofs.YteidaijpaijgpaaGreatDoorW.aQ Go.Proofs.YteidaijpaijgpaaGreatDoorW.aZ
attribute [local go_sem] bz bA bP bQ bq bu bB bC
set_option linter.unusedVariables false
set_option linter.unusedSimpArgs false
def dz.f (k : Nat) (aD : Int) (aA : ByteArray) (bU : ByteArray) (bf : ByteArray) (eu : Int) (fq : Int) (fA : Int) (fe : Int) : Option (ByteArray) := (bO.f k eu).bind fun aJ => (if aD = 1 then ((aN.f (([(⟨#[112, 114, 111, 98]⟩ : ByteArray), aA, bf, aJ] : List ByteArray))).bind fun bG => (if bG.size + 1 ≤ 9223372036854775807 then (some (bG ++ (⟨#[59]⟩ : ByteArray))) else (none))) else (if aD = 2 then ((aN.f (([(⟨#[104, 111, 112, 115]⟩ : ByteArray), aA, bf, aJ] : List ByteArray))).bind fun gV => (if gV.size + 1 ≤ 9223372036854775807 then (some (gV ++ (⟨#[59]⟩ : ByteArray))) else (none))) else (if aD = 3 then ((strconv_Itoa.f fe).bind fun ja => ((aN.f (([(⟨#[119, 105, 116, 104, 105, 110]⟩ : ByteArray), aA, bf, aJ, ja] : List ByteArray))).bind fun kW => (if kW.size + 1 ≤ 9223372036854775807 then (some (kW ++ (⟨#[59]⟩ : ByteArray))) else (none)))) else (if aD = 4 then ((dV.f k fq fA).bind fun t116 => ((aN.f (([(⟨#[99, 111, 109, 112, 97, 114, 101]⟩ : ByteArray), aA, bU, bf, t116] : List ByteArray))).bind fun kX => (if kX.size + 1 ≤ 9223372036854775807 then (some (kX ++ (⟨#[59]⟩ : ByteArray))) else (none)))) else (some (⟨#[]⟩ : ByteArray))))))
theorem dz.mono : ∀ a0 a1 a2 a3 a4 a5 a6 a7 k, LeO (dz.f k a0 a1 a2 a3 a4 a5 a6 a7) (dz.f (k + 1) a0 a1 a2 a3 a4 a5 a6 a7) := by
 intro a0 a1 a2 a3 a4 a5 a6 a7 k
 unfold dz.f
 repeat' first
   | (with_reducible exact bO.mono _ _)
   | (with_reducible exact dV.mono _ _ _)
   | (with_reducible exact LeO.refl _)
   | (with_reducible exact LeO.none _)
   | (with_reducible refine LeO.ite ?_ ?_)
   | (with_reducible refine LeO.bind ?_ (fun _ => ?_))
   | exact bO.mono _ _
   | exact dV.mono _ _ _
   | exact LeO.none _
   | refine LeO.ite ?_ ?_
   | refine LeO.bind ?_ (fun _ => ?_)
def dz.T8 : Bool × List (List Nat × List Nat) := (true, [([], []), ([0], [0]), ([], []), ([2], [2]), ([], []), ([], []), ([5], [5]), ([6], [6]), ([1, 3, 4, 7], [1, 3, 4, 7]), ([8, 7], [8]), ([9], [9]), ([10, 9, 0, 1, 2, 3, 4, 5, 6, 7, 8, 9, 10], [10])])
def dz.B8 : List Nat := [0, 1, 0, 4, 0, 0, 32, 96, 255, 511, 1023, 2047]
theorem dz.zt : iV .any (opsOf Tryz.f81 8) = dz.T8 := by kernel_rfl
theorem dz.wN : iA dz.T8.2 dz.B8 = true := by kernel_rfl
def dz.T10 : Bool × List (List Nat × List Nat) := (true, [([], []), ([0], [0]), ([], []), ([2], [2]), ([], []), ([4], [4]), ([], []), ([6], [6]), ([7], [7]), ([1, 3, 5, 8], [1, 3, 5, 8]), ([9, 8], [9]), ([10], [10]), ([11, 10, 0, 1, 2, 3, 4, 5, 6, 7, 8, 9, 10, 11], [11])])
def dz.B10 : List Nat := [0, 1, 0, 4, 0, 16, 0, 64, 192, 511, 1023, 2047, 4095]
theorem dz.zT : iV .any (opsOf Tryz.f81 10) = dz.T10 := by kernel_rfl
theorem dz.zu : iA dz.T10.2 dz.B10 = true := by kernel_rfl
set_option maxHeartbeats 8000000 in
set_option maxRecDepth 100000 in
theorem dz.calls (k : Nat) (aD : Int) (aA : ByteArray) (bU : ByteArray) (bf : ByteArray) (eu : Int) (fq : Int) (fA : Int) (fe : Int) (r : ByteArray) (w : World) (h : dz.f k aD aA bU bf eu fq fA fe = some r) (HGT : ae (Go.Proofs.YteidaijpaijgpaaGreatDoorV.GT w)) :
  Calls Tryz.prog 81 #[.agg #[.int .i64 aD, .string aA, .string bU, .string bf, .int .u32 eu, .int .u32 fq, .int .i64 fA, .int .i64 fe]] w fun e w' => e = .returned (.string r) ∧ Below w.heap.size w w' := by
 have hu45 := Tryz.underlying45
 have hu25 := Tryz.underlying25
 have HB := ae.mk (Below.refl w.heap.size w)
 have H : ((bO.f k eu).bind fun aJ => (if aD = 1 then ((aN.f (([(⟨#[112, 114, 111, 98]⟩ : ByteArray), aA, bf, aJ] : List ByteArray))).bind fun bG => (if bG.size + 1 ≤ 9223372036854775807 then (some (bG ++ (⟨#[59]⟩ : ByteArray))) else (none))) else (if aD = 2 then ((aN.f (([(⟨#[104, 111, 112, 115]⟩ : ByteArray), aA, bf, aJ] : List ByteArray))).bind fun gV => (if gV.size + 1 ≤ 9223372036854775807 then (some (gV ++ (⟨#[59]⟩ : ByteArray))) else (none))) else (if aD = 3 then ((strconv_Itoa.f fe).bind fun ja => ((aN.f (([(⟨#[119, 105, 116, 104, 105, 110]⟩ : ByteArray), aA, bf, aJ, ja] : List ByteArray))).bind fun kW => (if kW.size + 1 ≤ 9223372036854775807 then (some (kW ++ (⟨#[59]⟩ : ByteArray))) else (none)))) else (if aD = 4 then ((dV.f k fq fA).bind fun t116 => ((aN.f (([(⟨#[99, 111, 109, 112, 97, 114, 101]⟩ : ByteArray), aA, bU, bf, t116] : List ByteArray))).bind fun kX => (if kX.size + 1 ≤ 9223372036854775807 then (some (kX ++ (⟨#[59]⟩ : ByteArray))) else (none)))) else (some (⟨#[]⟩ : ByteArray))))))) = some r := h
 clear h
 replace H := Option.bind_eq_some_iff.mp H
 obtain ⟨aJ, A20, H⟩ := H
 replace H : (if aD = 1 then ((aN.f (([(⟨#[112, 114, 111, 98]⟩ : ByteArray), aA, bf, aJ] : List ByteArray))).bind fun bG => (if bG.size + 1 ≤ 9223372036854775807 then (some (bG ++ (⟨#[59]⟩ : ByteArray))) else (none))) else (if aD = 2 then ((aN.f (([(⟨#[104, 111, 112, 115]⟩ : ByteArray), aA, bf, aJ] : List ByteArray))).bind fun gV => (if gV.size + 1 ≤ 9223372036854775807 then (some (gV ++ (⟨#[59]⟩ : ByteArray))) else (none))) else (if aD = 3 then ((strconv_Itoa.f fe).bind fun ja => ((aN.f (([(⟨#[119, 105, 116, 104, 105, 110]⟩ : ByteArray), aA, bf, aJ, ja] : List ByteArray))).bind fun kW => (if kW.size + 1 ≤ 9223372036854775807 then (some (kW ++ (⟨#[59]⟩ : ByteArray))) else (none)))) else (if aD = 4 then ((dV.f k fq fA).bind fun t116 => ((aN.f (([(⟨#[99, 111, 109, 112, 97, 114, 101]⟩ : ByteArray), aA, bU, bf, t116] : List ByteArray))).bind fun kX => (if kX.size + 1 ≤ 9223372036854775807 then (some (kX ++ (⟨#[59]⟩ : ByteArray))) else (none)))) else (some (⟨#[]⟩ : ByteArray)))))) = some r := H
 have A2 := ae.mk A20
 clear A20
 by_cases c3 : aD = 1
 ·rw [if_pos c3] at H
  have gN : (aD == 1) = true := beq_iff_eq.mpr c3
  have jk : (aD != 1) = false := bne_eq_false_iff_eq.mpr c3
  clear c3
  obtain ⟨y103, hy103⟩ : ∃ y_ : List ByteArray, y_ = (([(⟨#[112, 114, 111, 98]⟩ : ByteArray), aA, bf, aJ] : List ByteArray)) := ⟨_, rfl⟩
  replace H : ((aN.f y103).bind fun bG => (if bG.size + 1 ≤ 9223372036854775807 then (some (bG ++ (⟨#[59]⟩ : ByteArray))) else (none))) = some r := by first | (rw [hy103]; with_reducible exact H) | (have H2_ := (Option.bind_some _ _).symm.trans H; rw [hy103]; with_reducible exact H2_) | (have H2_ := (Option.bind_some _ _).symm.trans H; with_reducible exact H2_) | with_reducible exact H | (rw [hy103]; exact H) | exact H
  have Ny103 := ae.mk hy103
  clear hy103
  replace H := Option.bind_eq_some_iff.mp H
  obtain ⟨bG, A40, H⟩ := H
  replace H : (if bG.size + 1 ≤ 9223372036854775807 then (some (bG ++ (⟨#[59]⟩ : ByteArray))) else (none)) = some r := H
  have A4 := ae.mk A40
  clear A40
  by_cases c5 : bG.size + 1 ≤ 9223372036854775807
  ·rw [if_pos c5] at H
   have jG := eq_true c5
   have lS : decide (bG.size + 1 ≤ 9223372036854775807) = true := decide_eq_true c5
   try have tJ : (9223372036854775807 < bG.size + 1) = False := eq_false (Nat.not_lt.2 c5)
   obtain rfl := Option.some.inj H
   go_enter Tryz.func81, Tryz.ntmps81
   go_wp2_with (first | ((with_reducible refine bg (N := 1) rfl ?_); refine bE ?hg (N := 1) ?hd (cs := #[.int .i64 aD, .string aA, .string bU, .string bf, .int .u32 eu, .int .u32 fq, .int .i64 fA, .int .i64 fe]) (t := 45) ?hr ?_; (case hd => rfl); (case hg => rfl); (case hr => first | (go_simp; done) | (go_simp; rfl)); intro av hg w6 hbox hb; have ag := ae.mk (hbox); have GW101 := qge HB hg; have dh := qge HB hg; replace HB := ae.mk (aj (qw HB) hb); clear hb hbox hg; have hcz7_0 : w6.cell? ⟨av, 0, none⟩ = some (.int .i64 aD) := (af ag.out 0).trans rfl; have hcz7_1 : w6.cell? ⟨av, 1, none⟩ = some (.string aA) := (af ag.out 1).trans rfl; have hcz7_2 : w6.cell? ⟨av, 2, none⟩ = some (.string bU) := (af ag.out 2).trans rfl; have hcz7_3 : w6.cell? ⟨av, 3, none⟩ = some (.string bf) := (af ag.out 3).trans rfl; have hcz7_4 : w6.cell? ⟨av, 4, none⟩ = some (.int .u32 eu) := (af ag.out 4).trans rfl; have hcz7_5 : w6.cell? ⟨av, 5, none⟩ = some (.int .u32 fq) := (af ag.out 5).trans rfl; have hcz7_6 : w6.cell? ⟨av, 6, none⟩ = some (.int .i64 fA) := (af ag.out 6).trans rfl; have hcz7_7 : w6.cell? ⟨av, 7, none⟩ = some (.int .i64 fe) := (af ag.out 7).trans rfl; have hfz7_0 := ah ag.out 0; have hfz7_1 := ah ag.out 1; have hfz7_2 := ah ag.out 2; have hfz7_3 := ah ag.out 3; have hfz7_4 := ah ag.out 4; have hfz7_5 := ah ag.out 5; have hfz7_6 := ah ag.out 6; have hfz7_7 := ah ag.out 7) | ((with_reducible refine aH (f := 66) rfl ?_); refine bN (some 6) rfl rfl Tryz.func66 (by kernel_rfl) rfl #[.int .u32 eu] rfl qt ?_; (with_reducible refine (bO.calls k eu aJ _ A2.out ?gt).mono ?_); (case gt => exact Go.Proofs.YteidaijpaijgpaaGreatDoorV.GT.below HGT (qw HB)); rintro e w8 ⟨rfl, hb⟩; refine ⟨_, rfl, ?_⟩; replace ag := qbb ag hb; replace HB := ae.mk (aj (qw HB) hb); (try clear hb); (try clear hb2); (try clear hk); (try clear hi); have hcz9_0 : w8.cell? ⟨av, 0, none⟩ = some (.int .i64 aD) := (af ag.out 0).trans rfl; have hcz9_1 : w8.cell? ⟨av, 1, none⟩ = some (.string aA) := (af ag.out 1).trans rfl; have hcz9_2 : w8.cell? ⟨av, 2, none⟩ = some (.string bU) := (af ag.out 2).trans rfl; have hcz9_3 : w8.cell? ⟨av, 3, none⟩ = some (.string bf) := (af ag.out 3).trans rfl; have hcz9_4 : w8.cell? ⟨av, 4, none⟩ = some (.int .u32 eu) := (af ag.out 4).trans rfl; have hcz9_5 : w8.cell? ⟨av, 5, none⟩ = some (.int .u32 fq) := (af ag.out 5).trans rfl; have hcz9_6 : w8.cell? ⟨av, 6, none⟩ = some (.int .i64 fA) := (af ag.out 6).trans rfl; have hcz9_7 : w8.cell? ⟨av, 7, none⟩ = some (.int .i64 fe) := (af ag.out 7).trans rfl; have hfz9_0 := ah ag.out 0; have hfz9_1 := ah ag.out 1; have hfz9_2 := ah ag.out 2; have hfz9_3 := ah ag.out 3; have hfz9_4 := ah ag.out 4; have hfz9_5 := ah ag.out 5; have hfz9_6 := ah ag.out 6; have hfz9_7 := ah ag.out 7) | ((with_reducible refine bg (N := 16) rfl ?_); refine Kd.jm Kd.string _ 9 ?hg (N := 16) ?hd (xs := ([(⟨#[112, 114, 111, 98]⟩ : ByteArray), aA, bf, aJ] : List ByteArray)) (inner := [.string (⟨#[112, 114, 111, 98]⟩ : ByteArray), .string aA, .string bf, .string aJ]) (ok := fun _ => True) (okp := fun _ => True) ?hr ?hp (fun _ hk => hk) trivial (Below.refl _ _) (Nat.le_refl _) (by simp) ?_; (case hd => rfl); (case hg => rfl); (case hr => first | (go_simp; done) | (go_simp; rfl)); (case hp => exact (cu.one (show Kd.M Kd.string _ _ _ (⟨#[112, 114, 111, 98]⟩ : ByteArray) [.string (⟨#[112, 114, 111, 98]⟩ : ByteArray)] from rfl) (cu.one (show Kd.M Kd.string _ _ _ aA [.string aA] from rfl) (cu.one (show Kd.M Kd.string _ _ _ bf [.string bf] from rfl) (cu.one (show Kd.M Kd.string _ _ _ aJ [.string aJ] from rfl) (cu.none _ _)))))); intro v104 w10 mf hb hg_ hnew_; clear hg_ hnew_; (first | rw [← Ny103.out] at mf | (simp only [Int.reduceToNat] at mf; rw [← Ny103.out] at mf)); have fQ := ae.mk (Kd.dI mf (bi (qw HB))); replace ag := qbb ag hb; replace HB := ae.mk (aj (qw HB) hb); clear hb mf; obtain ⟨tT, kF, jr⟩ := Kd.dM fQ.out; subst jr) | ((with_reducible refine aH (f := 33) rfl ?_); refine bN (some 17) rfl rfl Tryz.func33 (by kernel_rfl) rfl #[.slice tT y103.length kF] rfl qt ?_; (with_reducible refine (aN.calls _ _ y103 bG _ ?aX ?aY A4.out).mono ?_); (case aX => exact qs ((Kd.aV fQ.out).2.2)); (case aY => exact (Kd.aV fQ.out).2.1); rintro e w13 ⟨rfl, hb⟩; refine ⟨_, rfl, ?_⟩; replace fQ := ae.mk (Kd.bD (qr fQ) hb); replace ag := qbb ag hb; replace HB := ae.mk (aj (qw HB) hb); (try clear hb); (try clear hb2); (try clear hk); (try clear hi)))
   go_ret
   exact ⟨by first | rfl | (simp [errW_none, errW_some] <;> rfl) | (simp [*, errW_none, errW_some] <;> rfl), by repeat (first | (with_reducible first | exact HB.out | apply au | apply ai | apply ak | refine bn ?_ dh.out) | exact HB.out)⟩
  ·rw [if_neg c5] at H
   exact absurd H (by simp)
 ·rw [if_neg c3] at H
  have gN : (aD == 1) = false := beq_eq_false_iff_ne.mpr c3
  have jk : (aD != 1) = true := bne_iff_ne.mpr c3
  by_cases c14 : aD = 2
  ·rw [if_pos c14] at H
   have qA : (aD == 2) = true := beq_iff_eq.mpr c14
   have rZ : (aD != 2) = false := bne_eq_false_iff_eq.mpr c14
   clear c14
   obtain ⟨y107, hy107⟩ : ∃ y_ : List ByteArray, y_ = (([(⟨#[104, 111, 112, 115]⟩ : ByteArray), aA, bf, aJ] : List ByteArray)) := ⟨_, rfl⟩
   replace H : ((aN.f y107).bind fun gV => (if gV.size + 1 ≤ 9223372036854775807 then (some (gV ++ (⟨#[59]⟩ : ByteArray))) else (none))) = some r := by first | (rw [hy107]; with_reducible exact H) | (have H2_ := (Option.bind_some _ _).symm.trans H; rw [hy107]; with_reducible exact H2_) | (have H2_ := (Option.bind_some _ _).symm.trans H; with_reducible exact H2_) | with_reducible exact H | (rw [hy107]; exact H) | exact H
   have Ny107 := ae.mk hy107
   clear hy107
   replace H := Option.bind_eq_some_iff.mp H
   obtain ⟨gV, A150, H⟩ := H
   replace H : (if gV.size + 1 ≤ 9223372036854775807 then (some (gV ++ (⟨#[59]⟩ : ByteArray))) else (none)) = some r := H
   have A15 := ae.mk A150
   clear A150
   by_cases c16 : gV.size + 1 ≤ 9223372036854775807
   ·rw [if_pos c16] at H
    have wO := eq_true c16
    have wP : decide (gV.size + 1 ≤ 9223372036854775807) = true := decide_eq_true c16
    try have zU : (9223372036854775807 < gV.size + 1) = False := eq_false (Nat.not_lt.2 c16)
    obtain rfl := Option.some.inj H
    go_enter Tryz.func81, Tryz.ntmps81
    go_wp2_with (first | ((with_reducible refine bg (N := 1) rfl ?_); refine bE ?hg (N := 1) ?hd (cs := #[.int .i64 aD, .string aA, .string bU, .string bf, .int .u32 eu, .int .u32 fq, .int .i64 fA, .int .i64 fe]) (t := 45) ?hr ?_; (case hd => rfl); (case hg => rfl); (case hr => first | (go_simp; done) | (go_simp; rfl)); intro av hg w17 hbox hb; have ag := ae.mk (hbox); have GW101 := qge HB hg; have dh := qge HB hg; replace HB := ae.mk (aj (qw HB) hb); clear hb hbox hg; have hcz18_0 : w17.cell? ⟨av, 0, none⟩ = some (.int .i64 aD) := (af ag.out 0).trans rfl; have hcz18_1 : w17.cell? ⟨av, 1, none⟩ = some (.string aA) := (af ag.out 1).trans rfl; have hcz18_2 : w17.cell? ⟨av, 2, none⟩ = some (.string bU) := (af ag.out 2).trans rfl; have hcz18_3 : w17.cell? ⟨av, 3, none⟩ = some (.string bf) := (af ag.out 3).trans rfl; have hcz18_4 : w17.cell? ⟨av, 4, none⟩ = some (.int .u32 eu) := (af ag.out 4).trans rfl; have hcz18_5 : w17.cell? ⟨av, 5, none⟩ = some (.int .u32 fq) := (af ag.out 5).trans rfl; have hcz18_6 : w17.cell? ⟨av, 6, none⟩ = some (.int .i64 fA) := (af ag.out 6).trans rfl; have hcz18_7 : w17.cell? ⟨av, 7, none⟩ = some (.int .i64 fe) := (af ag.out 7).trans rfl; have hfz18_0 := ah ag.out 0; have hfz18_1 := ah ag.out 1; have hfz18_2 := ah ag.out 2; have hfz18_3 := ah ag.out 3; have hfz18_4 := ah ag.out 4; have hfz18_5 := ah ag.out 5; have hfz18_6 := ah ag.out 6; have hfz18_7 := ah ag.out 7) | ((with_reducible refine aH (f := 66) rfl ?_); refine bN (some 6) rfl rfl Tryz.func66 (by kernel_rfl) rfl #[.int .u32 eu] rfl qt ?_; (with_reducible refine (bO.calls k eu aJ _ A2.out ?gt).mono ?_); (case gt => exact Go.Proofs.YteidaijpaijgpaaGreatDoorV.GT.below HGT (qw HB)); rintro e w19 ⟨rfl, hb⟩; refine ⟨_, rfl, ?_⟩; replace ag := qbb ag hb; replace HB := ae.mk (aj (qw HB) hb); (try clear hb); (try clear hb2); (try clear hk); (try clear hi); have hcz20_0 : w19.cell? ⟨av, 0, none⟩ = some (.int .i64 aD) := (af ag.out 0).trans rfl; have hcz20_1 : w19.cell? ⟨av, 1, none⟩ = some (.string aA) := (af ag.out 1).trans rfl; have hcz20_2 : w19.cell? ⟨av, 2, none⟩ = some (.string bU) := (af ag.out 2).trans rfl; have hcz20_3 : w19.cell? ⟨av, 3, none⟩ = some (.string bf) := (af ag.out 3).trans rfl; have hcz20_4 : w19.cell? ⟨av, 4, none⟩ = some (.int .u32 eu) := (af ag.out 4).trans rfl; have hcz20_5 : w19.cell? ⟨av, 5, none⟩ = some (.int .u32 fq) := (af ag.out 5).trans rfl; have hcz20_6 : w19.cell? ⟨av, 6, none⟩ = some (.int .i64 fA) := (af ag.out 6).trans rfl; have hcz20_7 : w19.cell? ⟨av, 7, none⟩ = some (.int .i64 fe) := (af ag.out 7).trans rfl; have hfz20_0 := ah ag.out 0; have hfz20_1 := ah ag.out 1; have hfz20_2 := ah ag.out 2; have hfz20_3 := ah ag.out 3; have hfz20_4 := ah ag.out 4; have hfz20_5 := ah ag.out 5; have hfz20_6 := ah ag.out 6; have hfz20_7 := ah ag.out 7) | ((with_reducible refine bg (N := 26) rfl ?_); refine Kd.jm Kd.string _ 9 ?hg (N := 26) ?hd (xs := ([(⟨#[104, 111, 112, 115]⟩ : ByteArray), aA, bf, aJ] : List ByteArray)) (inner := [.string (⟨#[104, 111, 112, 115]⟩ : ByteArray), .string aA, .string bf, .string aJ]) (ok := fun _ => True) (okp := fun _ => True) ?hr ?hp (fun _ hk => hk) trivial (Below.refl _ _) (Nat.le_refl _) (by simp) ?_; (case hd => rfl); (case hg => rfl); (case hr => first | (go_simp; done) | (go_simp; rfl)); (case hp => exact (cu.one (show Kd.M Kd.string _ _ _ (⟨#[104, 111, 112, 115]⟩ : ByteArray) [.string (⟨#[104, 111, 112, 115]⟩ : ByteArray)] from rfl) (cu.one (show Kd.M Kd.string _ _ _ aA [.string aA] from rfl) (cu.one (show Kd.M Kd.string _ _ _ bf [.string bf] from rfl) (cu.one (show Kd.M Kd.string _ _ _ aJ [.string aJ] from rfl) (cu.none _ _)))))); intro v108 w21 wQ hb hg_ hnew_; clear hg_ hnew_; (first | rw [← Ny107.out] at wQ | (simp only [Int.reduceToNat] at wQ; rw [← Ny107.out] at wQ)); have mg := ae.mk (Kd.dI wQ (bi (qw HB))); replace ag := qbb ag hb; replace HB := ae.mk (aj (qw HB) hb); clear hb wQ; obtain ⟨BS, BU, BV⟩ := Kd.dM mg.out; subst BV) | ((with_reducible refine aH (f := 33) rfl ?_); refine bN (some 27) rfl rfl Tryz.func33 (by kernel_rfl) rfl #[.slice BS y107.length BU] rfl qt ?_; (with_reducible refine (aN.calls _ _ y107 gV _ ?aX ?aY A15.out).mono ?_); (case aX => exact qs ((Kd.aV mg.out).2.2)); (case aY => exact (Kd.aV mg.out).2.1); rintro e w24 ⟨rfl, hb⟩; refine ⟨_, rfl, ?_⟩; replace mg := ae.mk (Kd.bD (qr mg) hb); replace ag := qbb ag hb; replace HB := ae.mk (aj (qw HB) hb); (try clear hb); (try clear hb2); (try clear hk); (try clear hi)))
    go_ret
    exact ⟨by first | rfl | (simp [errW_none, errW_some] <;> rfl) | (simp [*, errW_none, errW_some] <;> rfl), by repeat (first | (with_reducible first | exact HB.out | apply au | apply ai | apply ak | refine bn ?_ dh.out) | exact HB.out)⟩
   ·rw [if_neg c16] at H
    exact absurd H (by simp)
  ·rw [if_neg c14] at H
   have qA : (aD == 2) = false := beq_eq_false_iff_ne.mpr c14
   have rZ : (aD != 2) = true := bne_iff_ne.mpr c14
   by_cases c25 : aD = 3
   ·rw [if_pos c25] at H
    have zV : (aD == 3) = true := beq_iff_eq.mpr c25
    have zW : (aD != 3) = false := bne_eq_false_iff_eq.mpr c25
    clear c25
    replace H := Option.bind_eq_some_iff.mp H
    obtain ⟨ja, A260, H⟩ := H
    replace H : ((aN.f (([(⟨#[119, 105, 116, 104, 105, 110]⟩ : ByteArray), aA, bf, aJ, ja] : List ByteArray))).bind fun kW => (if kW.size + 1 ≤ 9223372036854775807 then (some (kW ++ (⟨#[59]⟩ : ByteArray))) else (none))) = some r := H
    have A26 := ae.mk A260
    clear A260
    obtain ⟨y112, hy112⟩ : ∃ y_ : List ByteArray, y_ = (([(⟨#[119, 105, 116, 104, 105, 110]⟩ : ByteArray), aA, bf, aJ, ja] : List ByteArray)) := ⟨_, rfl⟩
    replace H : ((aN.f y112).bind fun kW => (if kW.size + 1 ≤ 9223372036854775807 then (some (kW ++ (⟨#[59]⟩ : ByteArray))) else (none))) = some r := by first | (rw [hy112]; with_reducible exact H) | (have H2_ := (Option.bind_some _ _).symm.trans H; rw [hy112]; with_reducible exact H2_) | (have H2_ := (Option.bind_some _ _).symm.trans H; with_reducible exact H2_) | with_reducible exact H | (rw [hy112]; exact H) | exact H
    have Ny112 := ae.mk hy112
    clear hy112
    replace H := Option.bind_eq_some_iff.mp H
    obtain ⟨kW, A270, H⟩ := H
    replace H : (if kW.size + 1 ≤ 9223372036854775807 then (some (kW ++ (⟨#[59]⟩ : ByteArray))) else (none)) = some r := H
    have A27 := ae.mk A270
    clear A270
    by_cases c28 : kW.size + 1 ≤ 9223372036854775807
    ·rw [if_pos c28] at H
     have zX := eq_true c28
     have yM : decide (kW.size + 1 ≤ 9223372036854775807) = true := decide_eq_true c28
     try have zY : (9223372036854775807 < kW.size + 1) = False := eq_false (Nat.not_lt.2 c28)
     obtain rfl := Option.some.inj H
     go_enter Tryz.func81, Tryz.ntmps81
     try go_wp2_with (first | ((with_reducible refine bg (N := 1) rfl ?_); refine bE ?hg (N := 1) ?hd (cs := #[.int .i64 aD, .string aA, .string bU, .string bf, .int .u32 eu, .int .u32 fq, .int .i64 fA, .int .i64 fe]) (t := 45) ?hr ?_; (case hd => rfl); (case hg => rfl); (case hr => first | (go_simp; done) | (go_simp; rfl)); intro av hg w29 hbox hb; have ag := ae.mk (hbox); have GW101 := qge HB hg; have dh := qge HB hg; replace HB := ae.mk (aj (qw HB) hb); clear hb hbox hg; have hcz30_0 : w29.cell? ⟨av, 0, none⟩ = some (.int .i64 aD) := (af ag.out 0).trans rfl; have hcz30_1 : w29.cell? ⟨av, 1, none⟩ = some (.string aA) := (af ag.out 1).trans rfl; have hcz30_2 : w29.cell? ⟨av, 2, none⟩ = some (.string bU) := (af ag.out 2).trans rfl; have hcz30_3 : w29.cell? ⟨av, 3, none⟩ = some (.string bf) := (af ag.out 3).trans rfl; have hcz30_4 : w29.cell? ⟨av, 4, none⟩ = some (.int .u32 eu) := (af ag.out 4).trans rfl; have hcz30_5 : w29.cell? ⟨av, 5, none⟩ = some (.int .u32 fq) := (af ag.out 5).trans rfl; have hcz30_6 : w29.cell? ⟨av, 6, none⟩ = some (.int .i64 fA) := (af ag.out 6).trans rfl; have hcz30_7 : w29.cell? ⟨av, 7, none⟩ = some (.int .i64 fe) := (af ag.out 7).trans rfl; have hfz30_0 := ah ag.out 0; have hfz30_1 := ah ag.out 1; have hfz30_2 := ah ag.out 2; have hfz30_3 := ah ag.out 3; have hfz30_4 := ah ag.out 4; have hfz30_5 := ah ag.out 5; have hfz30_6 := ah ag.out 6; have hfz30_7 := ah ag.out 7) | ((with_reducible refine aH (f := 66) rfl ?_); refine bN (some 6) rfl rfl Tryz.func66 (by kernel_rfl) rfl #[.int .u32 eu] rfl qt ?_; (with_reducible refine (bO.calls k eu aJ _ A2.out ?gt).mono ?_); (case gt => exact Go.Proofs.YteidaijpaijgpaaGreatDoorV.GT.below HGT (qw HB)); rintro e w31 ⟨rfl, hb⟩; refine ⟨_, rfl, ?_⟩; replace ag := qbb ag hb; replace HB := ae.mk (aj (qw HB) hb); (try clear hb); (try clear hb2); (try clear hk); (try clear hi); have hcz32_0 : w31.cell? ⟨av, 0, none⟩ = some (.int .i64 aD) := (af ag.out 0).trans rfl; have hcz32_1 : w31.cell? ⟨av, 1, none⟩ = some (.string aA) := (af ag.out 1).trans rfl; have hcz32_2 : w31.cell? ⟨av, 2, none⟩ = some (.string bU) := (af ag.out 2).trans rfl; have hcz32_3 : w31.cell? ⟨av, 3, none⟩ = some (.string bf) := (af ag.out 3).trans rfl; have hcz32_4 : w31.cell? ⟨av, 4, none⟩ = some (.int .u32 eu) := (af ag.out 4).trans rfl; have hcz32_5 : w31.cell? ⟨av, 5, none⟩ = some (.int .u32 fq) := (af ag.out 5).trans rfl; have hcz32_6 : w31.cell? ⟨av, 6, none⟩ = some (.int .i64 fA) := (af ag.out 6).trans rfl; have hcz32_7 : w31.cell? ⟨av, 7, none⟩ = some (.int .i64 fe) := (af ag.out 7).trans rfl; have hfz32_0 := ah ag.out 0; have hfz32_1 := ah ag.out 1; have hfz32_2 := ah ag.out 2; have hfz32_3 := ah ag.out 3; have hfz32_4 := ah ag.out 4; have hfz32_5 := ah ag.out 5; have hfz32_6 := ah ag.out 6; have hfz32_7 := ah ag.out 7))
     replace ag := ae.mk (dQ ag.out)
     replace HB := ae.mk (ak HB.out)
     refine iP (n := 12) (S := fun w' => w'.cell? ⟨av, 0, none⟩ = some (.int .i64 aD) ∧ w'.cell? ⟨av, 1, none⟩ = some (.string aA) ∧ w'.cell? ⟨av, 2, none⟩ = some (.string bU) ∧ w'.cell? ⟨av, 3, none⟩ = some (.string bf) ∧ w'.cell? ⟨av, 4, none⟩ = some (.int .u32 eu) ∧ w'.cell? ⟨av, 5, none⟩ = some (.int .u32 fq) ∧ w'.cell? ⟨av, 6, none⟩ = some (.int .i64 fA) ∧ w'.cell? ⟨av, 7, none⟩ = some (.int .i64 fe)) (ds := []) #[bF,bF,bF,bF,bF,bF,bF,bF,bF,bF,bF,bF] (by kernel_rfl) rfl rfl ⟨(af ag.out 0).trans rfl, (af ag.out 1).trans rfl, (af ag.out 2).trans rfl, (af ag.out 3).trans rfl, (af ag.out 4).trans rfl, (af ag.out 5).trans rfl, (af ag.out 6).trans rfl, (af ag.out 7).trans rfl⟩ (fun hHeld => ?_); refine fV dz.zt dz.wN (fun HT_ HW_ => ?_)
     generalize w31.drew = w33 at ag HB hHeld ⊢
     refine bL 0 (some 31) HT_ ?_
     refine bL 2 (some 33) HT_ ?_
     refine bL 4 (some 35) HT_ ?_
     refine bL 5 (some 36) HT_ ?_
     refine fI 1 (some 32) HT_ HW_ hHeld ?_
     refine fI 3 (some 34) HT_ HW_ hHeld ?_
     refine fI 6 (some 37) HT_ HW_ hHeld ?_
     refine iW 7 (some 38) HT_ (fun K hK => ?_)
     refine gX Tryz.func67 #[.int .i64 fe] ?_
     with_reducible refine (strconv_Itoa.calls fe ja _ A26.out ?gt).mono ?_
     (case gt => exact Go.Proofs.YteidaijpaijgpaaGreatDoorV.GT.below HGT (qw HB))
     rintro e w34 ⟨rfl, hb⟩
     refine ⟨_, rfl, ?_⟩
     replace ag := qbb ag hb
     replace HB := ae.mk (aj (qw HB) hb)
     (try clear hb)
     (try clear hb2)
     (try clear hk)
     (try clear hi)
     refine hK.out _ _ ⟨(af ag.out 0).trans rfl, (af ag.out 1).trans rfl, (af ag.out 2).trans rfl, (af ag.out 3).trans rfl, (af ag.out 4).trans rfl, (af ag.out 5).trans rfl, (af ag.out 6).trans rfl, (af ag.out 7).trans rfl⟩ (fun hHeld => ?_)
     clear hK K
     refine gD (some 38) ?_
     refine iW 8 (some 39) HT_ (fun K hK => ?_)
     refine Kd.jR Kd.string _ 9 ?hg (N := 39) ?hd (xs := ([(⟨#[119, 105, 116, 104, 105, 110]⟩ : ByteArray), aA, bf, aJ, ja] : List ByteArray)) (inner := [.string (⟨#[119, 105, 116, 104, 105, 110]⟩ : ByteArray), .string aA, .string bf, .string aJ, .string ja]) (ok := fun _ => True) (okp := fun _ => True) ?hr ?hp (fun _ hk => hk) trivial (Below.refl _ _) (Nat.le_refl _) (by simp) ?_; (case hd => rfl); (case hg => rfl); (case hr => first | (go_simp; done) | (go_simp; rfl)); (case hp => exact (cu.one (show Kd.M Kd.string _ _ _ (⟨#[119, 105, 116, 104, 105, 110]⟩ : ByteArray) [.string (⟨#[119, 105, 116, 104, 105, 110]⟩ : ByteArray)] from rfl) (cu.one (show Kd.M Kd.string _ _ _ aA [.string aA] from rfl) (cu.one (show Kd.M Kd.string _ _ _ bf [.string bf] from rfl) (cu.one (show Kd.M Kd.string _ _ _ aJ [.string aJ] from rfl) (cu.one (show Kd.M Kd.string _ _ _ ja [.string ja] from rfl) (cu.none _ _)))))))
     intro v113 w35 wR hb hg_ hnew_
     clear hg_ hnew_
     (first | rw [← Ny112.out] at wR | (simp only [Int.reduceToNat] at wR; rw [← Ny112.out] at wR))
     have mM := ae.mk (Kd.dI wR (bi (qw HB)))
     replace ag := qbb ag hb
     replace HB := ae.mk (aj (qw HB) hb)
     clear hb wR
     obtain ⟨zw, zx, yh⟩ := Kd.dM mM.out
     (first | subst yh | (injection yh with f1_ f2_ f3_; have f4_ := f1_.symm; have f5_ := f3_.symm; clear f1_ f2_ f3_; subst f4_; subst f5_))
     refine hK.out _ _ ⟨(af ag.out 0).trans rfl, (af ag.out 1).trans rfl, (af ag.out 2).trans rfl, (af ag.out 3).trans rfl, (af ag.out 4).trans rfl, (af ag.out 5).trans rfl, (af ag.out 6).trans rfl, (af ag.out 7).trans rfl⟩ (fun hHeld => ?_)
     clear hK K
     refine gD (some 39) ?_
     refine iW 9 (some 40) HT_ (fun K hK => ?_)
     refine gX Tryz.func33 #[.slice zw y112.length zx] ?_
     with_reducible refine (aN.calls _ _ y112 kW _ ?aX ?aY A27.out).mono ?_
     (case aX => exact qs ((Kd.aV mM.out).2.2))
     (case aY => exact (Kd.aV mM.out).2.1)
     rintro e w38 ⟨rfl, hb⟩
     refine ⟨_, rfl, ?_⟩
     replace mM := ae.mk (Kd.bD (qr mM) hb)
     replace ag := qbb ag hb
     replace HB := ae.mk (aj (qw HB) hb)
     (try clear hb)
     (try clear hb2)
     (try clear hk)
     (try clear hi)
     refine hK.out _ _ ⟨(af ag.out 0).trans rfl, (af ag.out 1).trans rfl, (af ag.out 2).trans rfl, (af ag.out 3).trans rfl, (af ag.out 4).trans rfl, (af ag.out 5).trans rfl, (af ag.out 6).trans rfl, (af ag.out 7).trans rfl⟩ (fun hHeld => ?_)
     clear hK K
     refine gD (some 40) ?_
     refine bL 10 (some 41) HT_ ?_
     refine bL 11 (some 2) HT_ ?_
     refine jI HT_ ?_
     try go_wp2
     go_ret
     exact ⟨by first | rfl | (simp [errW_none, errW_some] <;> rfl) | (simp [*, errW_none, errW_some] <;> rfl), by repeat (first | (with_reducible first | exact HB.out | apply au | apply ai | apply ak | refine bn ?_ dh.out) | exact HB.out)⟩
    ·rw [if_neg c28] at H
     exact absurd H (by simp)
   ·rw [if_neg c25] at H
    have zV : (aD == 3) = false := beq_eq_false_iff_ne.mpr c25
    have zW : (aD != 3) = true := bne_iff_ne.mpr c25
    by_cases c39 : aD = 4
    ·rw [if_pos c39] at H
     have zZ : (aD == 4) = true := beq_iff_eq.mpr c39
     have Aa : (aD != 4) = false := bne_eq_false_iff_eq.mpr c39
     clear c39
     replace H := Option.bind_eq_some_iff.mp H
     obtain ⟨t116, A400, H⟩ := H
     replace H : ((aN.f (([(⟨#[99, 111, 109, 112, 97, 114, 101]⟩ : ByteArray), aA, bU, bf, t116] : List ByteArray))).bind fun kX => (if kX.size + 1 ≤ 9223372036854775807 then (some (kX ++ (⟨#[59]⟩ : ByteArray))) else (none))) = some r := H
     have A40 := ae.mk A400
     clear A400
     obtain ⟨y117, hy117⟩ : ∃ y_ : List ByteArray, y_ = (([(⟨#[99, 111, 109, 112, 97, 114, 101]⟩ : ByteArray), aA, bU, bf, t116] : List ByteArray)) := ⟨_, rfl⟩
     replace H : ((aN.f y117).bind fun kX => (if kX.size + 1 ≤ 9223372036854775807 then (some (kX ++ (⟨#[59]⟩ : ByteArray))) else (none))) = some r := by first | (rw [hy117]; with_reducible exact H) | (have H2_ := (Option.bind_some _ _).symm.trans H; rw [hy117]; with_reducible exact H2_) | (have H2_ := (Option.bind_some _ _).symm.trans H; with_reducible exact H2_) | with_reducible exact H | (rw [hy117]; exact H) | exact H
     have Ny117 := ae.mk hy117
     clear hy117
     replace H := Option.bind_eq_some_iff.mp H
     obtain ⟨kX, A410, H⟩ := H
     replace H : (if kX.size + 1 ≤ 9223372036854775807 then (some (kX ++ (⟨#[59]⟩ : ByteArray))) else (none)) = some r := H
     have A41 := ae.mk A410
     clear A410
     by_cases c42 : kX.size + 1 ≤ 9223372036854775807
     ·rw [if_pos c42] at H
      have yN := eq_true c42
      have yO : decide (kX.size + 1 ≤ 9223372036854775807) = true := decide_eq_true c42
      try have Db : (9223372036854775807 < kX.size + 1) = False := eq_false (Nat.not_lt.2 c42)
      obtain rfl := Option.some.inj H
      go_enter Tryz.func81, Tryz.ntmps81
      try go_wp2_with (first | ((with_reducible refine bg (N := 1) rfl ?_); refine bE ?hg (N := 1) ?hd (cs := #[.int .i64 aD, .string aA, .string bU, .string bf, .int .u32 eu, .int .u32 fq, .int .i64 fA, .int .i64 fe]) (t := 45) ?hr ?_; (case hd => rfl); (case hg => rfl); (case hr => first | (go_simp; done) | (go_simp; rfl)); intro av hg w43 hbox hb; have ag := ae.mk (hbox); have GW101 := qge HB hg; have dh := qge HB hg; replace HB := ae.mk (aj (qw HB) hb); clear hb hbox hg; have hcz44_0 : w43.cell? ⟨av, 0, none⟩ = some (.int .i64 aD) := (af ag.out 0).trans rfl; have hcz44_1 : w43.cell? ⟨av, 1, none⟩ = some (.string aA) := (af ag.out 1).trans rfl; have hcz44_2 : w43.cell? ⟨av, 2, none⟩ = some (.string bU) := (af ag.out 2).trans rfl; have hcz44_3 : w43.cell? ⟨av, 3, none⟩ = some (.string bf) := (af ag.out 3).trans rfl; have hcz44_4 : w43.cell? ⟨av, 4, none⟩ = some (.int .u32 eu) := (af ag.out 4).trans rfl; have hcz44_5 : w43.cell? ⟨av, 5, none⟩ = some (.int .u32 fq) := (af ag.out 5).trans rfl; have hcz44_6 : w43.cell? ⟨av, 6, none⟩ = some (.int .i64 fA) := (af ag.out 6).trans rfl; have hcz44_7 : w43.cell? ⟨av, 7, none⟩ = some (.int .i64 fe) := (af ag.out 7).trans rfl; have hfz44_0 := ah ag.out 0; have hfz44_1 := ah ag.out 1; have hfz44_2 := ah ag.out 2; have hfz44_3 := ah ag.out 3; have hfz44_4 := ah ag.out 4; have hfz44_5 := ah ag.out 5; have hfz44_6 := ah ag.out 6; have hfz44_7 := ah ag.out 7) | ((with_reducible refine aH (f := 66) rfl ?_); refine bN (some 6) rfl rfl Tryz.func66 (by kernel_rfl) rfl #[.int .u32 eu] rfl qt ?_; (with_reducible refine (bO.calls k eu aJ _ A2.out ?gt).mono ?_); (case gt => exact Go.Proofs.YteidaijpaijgpaaGreatDoorV.GT.below HGT (qw HB)); rintro e w45 ⟨rfl, hb⟩; refine ⟨_, rfl, ?_⟩; replace ag := qbb ag hb; replace HB := ae.mk (aj (qw HB) hb); (try clear hb); (try clear hb2); (try clear hk); (try clear hi); have hcz46_0 : w45.cell? ⟨av, 0, none⟩ = some (.int .i64 aD) := (af ag.out 0).trans rfl; have hcz46_1 : w45.cell? ⟨av, 1, none⟩ = some (.string aA) := (af ag.out 1).trans rfl; have hcz46_2 : w45.cell? ⟨av, 2, none⟩ = some (.string bU) := (af ag.out 2).trans rfl; have hcz46_3 : w45.cell? ⟨av, 3, none⟩ = some (.string bf) := (af ag.out 3).trans rfl; have hcz46_4 : w45.cell? ⟨av, 4, none⟩ = some (.int .u32 eu) := (af ag.out 4).trans rfl; have hcz46_5 : w45.cell? ⟨av, 5, none⟩ = some (.int .u32 fq) := (af ag.out 5).trans rfl; have hcz46_6 : w45.cell? ⟨av, 6, none⟩ = some (.int .i64 fA) := (af ag.out 6).trans rfl; have hcz46_7 : w45.cell? ⟨av, 7, none⟩ = some (.int .i64 fe) := (af ag.out 7).trans rfl; have hfz46_0 := ah ag.out 0; have hfz46_1 := ah ag.out 1; have hfz46_2 := ah ag.out 2; have hfz46_3 := ah ag.out 3; have hfz46_4 := ah ag.out 4; have hfz46_5 := ah ag.out 5; have hfz46_6 := ah ag.out 6; have hfz46_7 := ah ag.out 7))
      replace ag := ae.mk (dQ ag.out)
      replace HB := ae.mk (ak HB.out)
      refine iP (n := 13) (S := fun w' => w'.cell? ⟨av, 0, none⟩ = some (.int .i64 aD) ∧ w'.cell? ⟨av, 1, none⟩ = some (.string aA) ∧ w'.cell? ⟨av, 2, none⟩ = some (.string bU) ∧ w'.cell? ⟨av, 3, none⟩ = some (.string bf) ∧ w'.cell? ⟨av, 4, none⟩ = some (.int .u32 eu) ∧ w'.cell? ⟨av, 5, none⟩ = some (.int .u32 fq) ∧ w'.cell? ⟨av, 6, none⟩ = some (.int .i64 fA) ∧ w'.cell? ⟨av, 7, none⟩ = some (.int .i64 fe)) (ds := []) #[bF,bF,bF,bF,bF,bF,bF,bF,bF,bF,bF,bF,bF] (by kernel_rfl) rfl rfl ⟨(af ag.out 0).trans rfl, (af ag.out 1).trans rfl, (af ag.out 2).trans rfl, (af ag.out 3).trans rfl, (af ag.out 4).trans rfl, (af ag.out 5).trans rfl, (af ag.out 6).trans rfl, (af ag.out 7).trans rfl⟩ (fun hHeld => ?_); refine fV dz.zT dz.zu (fun HT_ HW_ => ?_)
      generalize w45.drew = w47 at ag HB hHeld ⊢
      refine bL 0 (some 44) HT_ ?_
      refine bL 2 (some 46) HT_ ?_
      refine bL 4 (some 48) HT_ ?_
      refine bL 6 (some 50) HT_ ?_
      refine fI 1 (some 45) HT_ HW_ hHeld ?_
      refine fI 3 (some 47) HT_ HW_ hHeld ?_
      refine fI 5 (some 49) HT_ HW_ hHeld ?_
      refine fI 7 (some 51) HT_ HW_ hHeld ?_
      refine iW 8 (some 52) HT_ (fun K hK => ?_)
      refine gX Tryz.func34 #[.agg #[.int .u32 fq, .int .i64 fA]] ?_
      with_reducible refine (dV.calls k fq fA t116 _ A40.out ?gt).mono ?_
      (case gt => exact Go.Proofs.YteidaijpaijgpaaGreatDoorV.GT.below HGT (qw HB))
      rintro e w48 ⟨rfl, hb⟩
      refine ⟨_, rfl, ?_⟩
      replace ag := qbb ag hb
      replace HB := ae.mk (aj (qw HB) hb)
      (try clear hb)
      (try clear hb2)
      (try clear hk)
      (try clear hi)
      refine hK.out _ _ ⟨(af ag.out 0).trans rfl, (af ag.out 1).trans rfl, (af ag.out 2).trans rfl, (af ag.out 3).trans rfl, (af ag.out 4).trans rfl, (af ag.out 5).trans rfl, (af ag.out 6).trans rfl, (af ag.out 7).trans rfl⟩ (fun hHeld => ?_)
      clear hK K
      refine gD (some 52) ?_
      refine iW 9 (some 53) HT_ (fun K hK => ?_)
      refine Kd.jR Kd.string _ 9 ?hg (N := 53) ?hd (xs := ([(⟨#[99, 111, 109, 112, 97, 114, 101]⟩ : ByteArray), aA, bU, bf, t116] : List ByteArray)) (inner := [.string (⟨#[99, 111, 109, 112, 97, 114, 101]⟩ : ByteArray), .string aA, .string bU, .string bf, .string t116]) (ok := fun _ => True) (okp := fun _ => True) ?hr ?hp (fun _ hk => hk) trivial (Below.refl _ _) (Nat.le_refl _) (by simp) ?_; (case hd => rfl); (case hg => rfl); (case hr => first | (go_simp; done) | (go_simp; rfl)); (case hp => exact (cu.one (show Kd.M Kd.string _ _ _ (⟨#[99, 111, 109, 112, 97, 114, 101]⟩ : ByteArray) [.string (⟨#[99, 111, 109, 112, 97, 114, 101]⟩ : ByteArray)] from rfl) (cu.one (show Kd.M Kd.string _ _ _ aA [.string aA] from rfl) (cu.one (show Kd.M Kd.string _ _ _ bU [.string bU] from rfl) (cu.one (show Kd.M Kd.string _ _ _ bf [.string bf] from rfl) (cu.one (show Kd.M Kd.string _ _ _ t116 [.string t116] from rfl) (cu.none _ _)))))))
      intro v118 w49 wT hb hg_ hnew_
      clear hg_ hnew_
      (first | rw [← Ny117.out] at wT | (simp only [Int.reduceToNat] at wT; rw [← Ny117.out] at wT))
      have pM := ae.mk (Kd.dI wT (bi (qw HB)))
      replace ag := qbb ag hb
      replace HB := ae.mk (aj (qw HB) hb)
      clear hb wT
      obtain ⟨BX, BZ, Ab⟩ := Kd.dM pM.out
      (first | subst Ab | (injection Ab with f1_ f2_ f3_; have f4_ := f1_.symm; have f5_ := f3_.symm; clear f1_ f2_ f3_; subst f4_; subst f5_))
      refine hK.out _ _ ⟨(af ag.out 0).trans rfl, (af ag.out 1).trans rfl, (af ag.out 2).trans rfl, (af ag.out 3).trans rfl, (af ag.out 4).trans rfl, (af ag.out 5).trans rfl, (af ag.out 6).trans rfl, (af ag.out 7).trans rfl⟩ (fun hHeld => ?_)
      clear hK K
      refine gD (some 53) ?_
      refine iW 10 (some 54) HT_ (fun K hK => ?_)
      refine gX Tryz.func33 #[.slice BX y117.length BZ] ?_
      with_reducible refine (aN.calls _ _ y117 kX _ ?aX ?aY A41.out).mono ?_
      (case aX => exact qs ((Kd.aV pM.out).2.2))
      (case aY => exact (Kd.aV pM.out).2.1)
      rintro e w52 ⟨rfl, hb⟩
      refine ⟨_, rfl, ?_⟩
      replace pM := ae.mk (Kd.bD (qr pM) hb)
      replace ag := qbb ag hb
      replace HB := ae.mk (aj (qw HB) hb)
      (try clear hb)
      (try clear hb2)
      (try clear hk)
      (try clear hi)
      refine hK.out _ _ ⟨(af ag.out 0).trans rfl, (af ag.out 1).trans rfl, (af ag.out 2).trans rfl, (af ag.out 3).trans rfl, (af ag.out 4).trans rfl, (af ag.out 5).trans rfl, (af ag.out 6).trans rfl, (af ag.out 7).trans rfl⟩ (fun hHeld => ?_)
      clear hK K
      refine gD (some 54) ?_
      refine bL 11 (some 55) HT_ ?_
      refine bL 12 (some 2) HT_ ?_
      refine jI HT_ ?_
      try go_wp2
      go_ret
      exact ⟨by first | rfl | (simp [errW_none, errW_some] <;> rfl) | (simp [*, errW_none, errW_some] <;> rfl), by repeat (first | (with_reducible first | exact HB.out | apply au | apply ai | apply ak | refine bn ?_ dh.out) | exact HB.out)⟩
     ·rw [if_neg c42] at H
      exact absurd H (by simp)
    ·rw [if_neg c39] at H
     have zZ : (aD == 4) = false := beq_eq_false_iff_ne.mpr c39
     have Aa : (aD != 4) = true := bne_iff_ne.mpr c39
     obtain rfl := Option.some.inj H
     go_enter Tryz.func81, Tryz.ntmps81
     go_wp2_with (first | ((with_reducible refine bg (N := 1) rfl ?_); refine bE ?hg (N := 1) ?hd (cs := #[.int .i64 aD, .string aA, .string bU, .string bf, .int .u32 eu, .int .u32 fq, .int .i64 fA, .int .i64 fe]) (t := 45) ?hr ?_; (case hd => rfl); (case hg => rfl); (case hr => first | (go_simp; done) | (go_simp; rfl)); intro av hg w53 hbox hb; have ag := ae.mk (hbox); have GW101 := qge HB hg; have dh := qge HB hg; replace HB := ae.mk (aj (qw HB) hb); clear hb hbox hg; have hcz54_0 : w53.cell? ⟨av, 0, none⟩ = some (.int .i64 aD) := (af ag.out 0).trans rfl; have hcz54_1 : w53.cell? ⟨av, 1, none⟩ = some (.string aA) := (af ag.out 1).trans rfl; have hcz54_2 : w53.cell? ⟨av, 2, none⟩ = some (.string bU) := (af ag.out 2).trans rfl; have hcz54_3 : w53.cell? ⟨av, 3, none⟩ = some (.string bf) := (af ag.out 3).trans rfl; have hcz54_4 : w53.cell? ⟨av, 4, none⟩ = some (.int .u32 eu) := (af ag.out 4).trans rfl; have hcz54_5 : w53.cell? ⟨av, 5, none⟩ = some (.int .u32 fq) := (af ag.out 5).trans rfl; have hcz54_6 : w53.cell? ⟨av, 6, none⟩ = some (.int .i64 fA) := (af ag.out 6).trans rfl; have hcz54_7 : w53.cell? ⟨av, 7, none⟩ = some (.int .i64 fe) := (af ag.out 7).trans rfl; have hfz54_0 := ah ag.out 0; have hfz54_1 := ah ag.out 1; have hfz54_2 := ah ag.out 2; have hfz54_3 := ah ag.out 3; have hfz54_4 := ah ag.out 4; have hfz54_5 := ah ag.out 5; have hfz54_6 := ah ag.out 6; have hfz54_7 := ah ag.out 7) | ((with_reducible refine aH (f := 66) rfl ?_); refine bN (some 6) rfl rfl Tryz.func66 (by kernel_rfl) rfl #[.int .u32 eu] rfl qt ?_; (with_reducible refine (bO.calls k eu aJ _ A2.out ?gt).mono ?_); (case gt => exact Go.Proofs.YteidaijpaijgpaaGreatDoorV.GT.below HGT (qw HB)); rintro e w55 ⟨rfl, hb⟩; refine ⟨_, rfl, ?_⟩; replace ag := qbb ag hb; replace HB := ae.mk (aj (qw HB) hb); (try clear hb); (try clear hb2); (try clear hk); (try clear hi); have hcz56_0 : w55.cell? ⟨av, 0, none⟩ = some (.int .i64 aD) := (af ag.out 0).trans rfl; have hcz56_1 : w55.cell? ⟨av, 1, none⟩ = some (.string aA) := (af ag.out 1).trans rfl; have hcz56_2 : w55.cell? ⟨av, 2, none⟩ = some (.string bU) := (af ag.out 2).trans rfl; have hcz56_3 : w55.cell? ⟨av, 3, none⟩ = some (.string bf) := (af ag.out 3).trans rfl; have hcz56_4 : w55.cell? ⟨av, 4, none⟩ = some (.int .u32 eu) := (af ag.out 4).trans rfl; have hcz56_5 : w55.cell? ⟨av, 5, none⟩ = some (.int .u32 fq) := (af ag.out 5).trans rfl; have hcz56_6 : w55.cell? ⟨av, 6, none⟩ = some (.int .i64 fA) := (af ag.out 6).trans rfl; have hcz56_7 : w55.cell? ⟨av, 7, none⟩ = some (.int .i64 fe) := (af ag.out 7).trans rfl; have hfz56_0 := ah ag.out 0; have hfz56_1 := ah ag.out 1; have hfz56_2 := ah ag.out 2; have hfz56_3 := ah ag.out 3; have hfz56_4 := ah ag.out 4; have hfz56_5 := ah ag.out 5; have hfz56_6 := ah ag.out 6; have hfz56_7 := ah ag.out 7))
     go_ret
     exact ⟨by first | rfl | (simp [errW_none, errW_some] <;> rfl) | (simp [*, errW_none, errW_some] <;> rfl), by repeat (first | (with_reducible first | exact HB.out | apply au | apply ai | apply ak | refine bn ?_ dh.out) | exact HB.out)⟩
end Go.Proofs.YteidaijpaijgpaaGreatDoor.P
end
section
namespace Go.Proofs.YteidaijpaijgpaaGreatDoor.P
open Go.RowKit Go.Proofs.YteidaijpaijgpaaGreatDoorW.ay Go.Proofs.YteidaijpaijgpaaGreatDoorW.aQ Go.Proofs.YteidaijpaijgpaaGreatDoorW.aZ
attribute [local go_sem] bz bA bP bQ bq bu bB bC
set_option linter.unusedVariables false
set_option linter.unusedSimpArgs false
def aK.f (k : Nat) (aD : Int) (aA : ByteArray) (bU : ByteArray) (bf : ByteArray) (eu : Int) (fq : Int) (fA : Int) (fe : Int) : Option (ByteArray) := if aD = 1 then (if 5 + aA.size ≤ 9223372036854775807 then (if ((⟨#[112, 114, 111, 98, 32]⟩ : ByteArray) ++ aA).size + 1 ≤ 9223372036854775807 then (if (((⟨#[112, 114, 111, 98, 32]⟩ : ByteArray) ++ aA) ++ (⟨#[32]⟩ : ByteArray)).size + bf.size ≤ 9223372036854775807 then (if ((((⟨#[112, 114, 111, 98, 32]⟩ : ByteArray) ++ aA) ++ (⟨#[32]⟩ : ByteArray)) ++ bf).size + 1 ≤ 9223372036854775807 then ((dw.f k eu).bind fun aJ => (if (((((⟨#[112, 114, 111, 98, 32]⟩ : ByteArray) ++ aA) ++ (⟨#[32]⟩ : ByteArray)) ++ bf) ++ (⟨#[32]⟩ : ByteArray)).size + aJ.size ≤ 9223372036854775807 then (if ((((((⟨#[112, 114, 111, 98, 32]⟩ : ByteArray) ++ aA) ++ (⟨#[32]⟩ : ByteArray)) ++ bf) ++ (⟨#[32]⟩ : ByteArray)) ++ aJ).size + 1 ≤ 9223372036854775807 then (some (((((((⟨#[112, 114, 111, 98, 32]⟩ : ByteArray) ++ aA) ++ (⟨#[32]⟩ : ByteArray)) ++ bf) ++ (⟨#[32]⟩ : ByteArray)) ++ aJ) ++ (⟨#[59]⟩ : ByteArray))) else (none)) else (none))) else (none)) else (none)) else (none)) else (none)) else (if aD = 2 then (if 5 + aA.size ≤ 9223372036854775807 then (if ((⟨#[104, 111, 112, 115, 32]⟩ : ByteArray) ++ aA).size + 1 ≤ 9223372036854775807 then (if (((⟨#[104, 111, 112, 115, 32]⟩ : ByteArray) ++ aA) ++ (⟨#[32]⟩ : ByteArray)).size + bf.size ≤ 9223372036854775807 then (if ((((⟨#[104, 111, 112, 115, 32]⟩ : ByteArray) ++ aA) ++ (⟨#[32]⟩ : ByteArray)) ++ bf).size + 1 ≤ 9223372036854775807 then ((dw.f k eu).bind fun bJ => (if (((((⟨#[104, 111, 112, 115, 32]⟩ : ByteArray) ++ aA) ++ (⟨#[32]⟩ : ByteArray)) ++ bf) ++ (⟨#[32]⟩ : ByteArray)).size + bJ.size ≤ 9223372036854775807 then (if ((((((⟨#[104, 111, 112, 115, 32]⟩ : ByteArray) ++ aA) ++ (⟨#[32]⟩ : ByteArray)) ++ bf) ++ (⟨#[32]⟩ : ByteArray)) ++ bJ).size + 1 ≤ 9223372036854775807 then (some (((((((⟨#[104, 111, 112, 115, 32]⟩ : ByteArray) ++ aA) ++ (⟨#[32]⟩ : ByteArray)) ++ bf) ++ (⟨#[32]⟩ : ByteArray)) ++ bJ) ++ (⟨#[59]⟩ : ByteArray))) else (none)) else (none))) else (none)) else (none)) else (none)) else (none)) else (if aD = 3 then (if 7 + aA.size ≤ 9223372036854775807 then (if ((⟨#[119, 105, 116, 104, 105, 110, 32]⟩ : ByteArray) ++ aA).size + 1 ≤ 9223372036854775807 then (if (((⟨#[119, 105, 116, 104, 105, 110, 32]⟩ : ByteArray) ++ aA) ++ (⟨#[32]⟩ : ByteArray)).size + bf.size ≤ 9223372036854775807 then (if ((((⟨#[119, 105, 116, 104, 105, 110, 32]⟩ : ByteArray) ++ aA) ++ (⟨#[32]⟩ : ByteArray)) ++ bf).size + 1 ≤ 9223372036854775807 then ((dw.f k eu).bind fun bH => (if (((((⟨#[119, 105, 116, 104, 105, 110, 32]⟩ : ByteArray) ++ aA) ++ (⟨#[32]⟩ : ByteArray)) ++ bf) ++ (⟨#[32]⟩ : ByteArray)).size + bH.size ≤ 9223372036854775807 then (if ((((((⟨#[119, 105, 116, 104, 105, 110, 32]⟩ : ByteArray) ++ aA) ++ (⟨#[32]⟩ : ByteArray)) ++ bf) ++ (⟨#[32]⟩ : ByteArray)) ++ bH).size + 1 ≤ 9223372036854775807 then ((aM.f k fe).bind fun t105 => (if (((((((⟨#[119, 105, 116, 104, 105, 110, 32]⟩ : ByteArray) ++ aA) ++ (⟨#[32]⟩ : ByteArray)) ++ bf) ++ (⟨#[32]⟩ : ByteArray)) ++ bH) ++ (⟨#[32]⟩ : ByteArray)).size + t105.size ≤ 9223372036854775807 then (if ((((((((⟨#[119, 105, 116, 104, 105, 110, 32]⟩ : ByteArray) ++ aA) ++ (⟨#[32]⟩ : ByteArray)) ++ bf) ++ (⟨#[32]⟩ : ByteArray)) ++ bH) ++ (⟨#[32]⟩ : ByteArray)) ++ t105).size + 1 ≤ 9223372036854775807 then (some (((((((((⟨#[119, 105, 116, 104, 105, 110, 32]⟩ : ByteArray) ++ aA) ++ (⟨#[32]⟩ : ByteArray)) ++ bf) ++ (⟨#[32]⟩ : ByteArray)) ++ bH) ++ (⟨#[32]⟩ : ByteArray)) ++ t105) ++ (⟨#[59]⟩ : ByteArray))) else (none)) else (none))) else (none)) else (none))) else (none)) else (none)) else (none)) else (none)) else (if aD = 4 then (if 8 + aA.size ≤ 9223372036854775807 then (if ((⟨#[99, 111, 109, 112, 97, 114, 101, 32]⟩ : ByteArray) ++ aA).size + 1 ≤ 9223372036854775807 then (if (((⟨#[99, 111, 109, 112, 97, 114, 101, 32]⟩ : ByteArray) ++ aA) ++ (⟨#[32]⟩ : ByteArray)).size + bU.size ≤ 9223372036854775807 then (if ((((⟨#[99, 111, 109, 112, 97, 114, 101, 32]⟩ : ByteArray) ++ aA) ++ (⟨#[32]⟩ : ByteArray)) ++ bU).size + 1 ≤ 9223372036854775807 then (if (((((⟨#[99, 111, 109, 112, 97, 114, 101, 32]⟩ : ByteArray) ++ aA) ++ (⟨#[32]⟩ : ByteArray)) ++ bU) ++ (⟨#[32]⟩ : ByteArray)).size + bf.size ≤ 9223372036854775807 then (if ((((((⟨#[99, 111, 109, 112, 97, 114, 101, 32]⟩ : ByteArray) ++ aA) ++ (⟨#[32]⟩ : ByteArray)) ++ bU) ++ (⟨#[32]⟩ : ByteArray)) ++ bf).size + 1 ≤ 9223372036854775807 then ((dU.f k fq fA).bind fun bG => (if (((((((⟨#[99, 111, 109, 112, 97, 114, 101, 32]⟩ : ByteArray) ++ aA) ++ (⟨#[32]⟩ : ByteArray)) ++ bU) ++ (⟨#[32]⟩ : ByteArray)) ++ bf) ++ (⟨#[32]⟩ : ByteArray)).size + bG.size ≤ 9223372036854775807 then (if ((((((((⟨#[99, 111, 109, 112, 97, 114, 101, 32]⟩ : ByteArray) ++ aA) ++ (⟨#[32]⟩ : ByteArray)) ++ bU) ++ (⟨#[32]⟩ : ByteArray)) ++ bf) ++ (⟨#[32]⟩ : ByteArray)) ++ bG).size + 1 ≤ 9223372036854775807 then (some (((((((((⟨#[99, 111, 109, 112, 97, 114, 101, 32]⟩ : ByteArray) ++ aA) ++ (⟨#[32]⟩ : ByteArray)) ++ bU) ++ (⟨#[32]⟩ : ByteArray)) ++ bf) ++ (⟨#[32]⟩ : ByteArray)) ++ bG) ++ (⟨#[59]⟩ : ByteArray))) else (none)) else (none))) else (none)) else (none)) else (none)) else (none)) else (none)) else (none)) else (some (⟨#[]⟩ : ByteArray)))))
def aK.T2 : Bool × List (List Nat × List Nat) := (true, [([], []), ([0], [0]), ([1], [1]), ([2], [2]), ([], []), ([4], [4]), ([3, 5], [3, 5]), ([6], [6]), ([], []), ([8], [8]), ([9], [9]), ([7, 10], [7, 10]), ([11], [11]), ([12, 10, 0, 1, 2, 3, 4, 5, 6, 7, 8, 9, 10, 11, 12], [12])])
def aK.B2 : List Nat := [0, 1, 3, 7, 0, 16, 63, 127, 0, 256, 768, 2047, 4095, 8191]
theorem aK.Ca : iV .any (opsOf Tryz.f82 2) = aK.T2 := by kernel_rfl
theorem aK.Ad : iA aK.T2.2 aK.B2 = true := by kernel_rfl
def aK.T4 : Bool × List (List Nat × List Nat) := (true, [([], []), ([0], [0]), ([1], [1]), ([2], [2]), ([], []), ([4], [4]), ([3, 5], [3, 5]), ([6], [6]), ([], []), ([8], [8]), ([9], [9]), ([7, 10], [7, 10]), ([11], [11]), ([12, 10, 0, 1, 2, 3, 4, 5, 6, 7, 8, 9, 10, 11, 12], [12])])
def aK.B4 : List Nat := [0, 1, 3, 7, 0, 16, 63, 127, 0, 256, 768, 2047, 4095, 8191]
theorem aK.Cb : iV .any (opsOf Tryz.f82 4) = aK.T4 := by kernel_rfl
theorem aK.Ae : iA aK.T4.2 aK.B4 = true := by kernel_rfl
def aK.T6 : Bool × List (List Nat × List Nat) := (true, [([], []), ([0], [0]), ([1], [1]), ([2], [2]), ([], []), ([4], [4]), ([3, 5], [3, 5]), ([6], [6]), ([], []), ([8], [8]), ([9], [9]), ([7, 10], [7, 10]), ([11], [11]), ([], []), ([13], [13]), ([14, 10], [14]), ([12, 15], [12, 15]), ([16], [16]), ([17, 15, 0, 1, 2, 3, 4, 5, 6, 7, 8, 9, 10, 11, 12, 13, 14, 15, 16, 17], [17])])
def aK.B6 : List Nat := [0, 1, 3, 7, 0, 16, 63, 127, 0, 256, 768, 2047, 4095, 0, 8192, 26368, 65535, 131071, 262143]
theorem aK.Cc : iV .any (opsOf Tryz.f82 6) = aK.T6 := by kernel_rfl
theorem aK.Af : iA aK.T6.2 aK.B6 = true := by kernel_rfl
def aK.T8 : Bool × List (List Nat × List Nat) := (true, [([], []), ([0], [0]), ([1], [1]), ([2], [2]), ([], []), ([4], [4]), ([3, 5], [3, 5]), ([6], [6]), ([], []), ([8], [8]), ([7, 9], [7, 9]), ([10], [10]), ([], []), ([12], [12]), ([13], [13]), ([11, 14], [11, 14]), ([15], [15]), ([16, 14, 0, 1, 2, 3, 4, 5, 6, 7, 8, 9, 10, 11, 12, 13, 14, 15, 16], [16])])
def aK.B8 : List Nat := [0, 1, 3, 7, 0, 16, 63, 127, 0, 256, 1023, 2047, 0, 4096, 12288, 32767, 65535, 131071]
theorem aK.zt : iV .any (opsOf Tryz.f82 8) = aK.T8 := by kernel_rfl
theorem aK.wN : iA aK.T8.2 aK.B8 = true := by kernel_rfl
set_option maxHeartbeats 8000000 in
set_option maxRecDepth 100000 in
theorem aK.calls (k : Nat) (aD : Int) (aA : ByteArray) (bU : ByteArray) (bf : ByteArray) (eu : Int) (fq : Int) (fA : Int) (fe : Int) (r : ByteArray) (w : World) (h : aK.f k aD aA bU bf eu fq fA fe = some r) :
  Calls Tryz.prog 82 #[.agg #[.int .i64 aD, .string aA, .string bU, .string bf, .int .u32 eu, .int .u32 fq, .int .i64 fA, .int .i64 fe]] w fun e w' => e = .returned (.string r) ∧ Below w.heap.size w w' := by
 have hu45 := Tryz.underlying45
 have hu25 := Tryz.underlying25
 have HB := ae.mk (Below.refl w.heap.size w)
 have H : (if aD = 1 then (if 5 + aA.size ≤ 9223372036854775807 then (if ((⟨#[112, 114, 111, 98, 32]⟩ : ByteArray) ++ aA).size + 1 ≤ 9223372036854775807 then (if (((⟨#[112, 114, 111, 98, 32]⟩ : ByteArray) ++ aA) ++ (⟨#[32]⟩ : ByteArray)).size + bf.size ≤ 9223372036854775807 then (if ((((⟨#[112, 114, 111, 98, 32]⟩ : ByteArray) ++ aA) ++ (⟨#[32]⟩ : ByteArray)) ++ bf).size + 1 ≤ 9223372036854775807 then ((dw.f k eu).bind fun aJ => (if (((((⟨#[112, 114, 111, 98, 32]⟩ : ByteArray) ++ aA) ++ (⟨#[32]⟩ : ByteArray)) ++ bf) ++ (⟨#[32]⟩ : ByteArray)).size + aJ.size ≤ 9223372036854775807 then (if ((((((⟨#[112, 114, 111, 98, 32]⟩ : ByteArray) ++ aA) ++ (⟨#[32]⟩ : ByteArray)) ++ bf) ++ (⟨#[32]⟩ : ByteArray)) ++ aJ).size + 1 ≤ 9223372036854775807 then (some (((((((⟨#[112, 114, 111, 98, 32]⟩ : ByteArray) ++ aA) ++ (⟨#[32]⟩ : ByteArray)) ++ bf) ++ (⟨#[32]⟩ : ByteArray)) ++ aJ) ++ (⟨#[59]⟩ : ByteArray))) else (none)) else (none))) else (none)) else (none)) else (none)) else (none)) else (if aD = 2 then (if 5 + aA.size ≤ 9223372036854775807 then (if ((⟨#[104, 111, 112, 115, 32]⟩ : ByteArray) ++ aA).size + 1 ≤ 9223372036854775807 then (if (((⟨#[104, 111, 112, 115, 32]⟩ : ByteArray) ++ aA) ++ (⟨#[32]⟩ : ByteArray)).size + bf.size ≤ 9223372036854775807 then (if ((((⟨#[104, 111, 112, 115, 32]⟩ : ByteArray) ++ aA) ++ (⟨#[32]⟩ : ByteArray)) ++ bf).size + 1 ≤ 9223372036854775807 then ((dw.f k eu).bind fun bJ => (if (((((⟨#[104, 111, 112, 115, 32]⟩ : ByteArray) ++ aA) ++ (⟨#[32]⟩ : ByteArray)) ++ bf) ++ (⟨#[32]⟩ : ByteArray)).size + bJ.size ≤ 9223372036854775807 then (if ((((((⟨#[104, 111, 112, 115, 32]⟩ : ByteArray) ++ aA) ++ (⟨#[32]⟩ : ByteArray)) ++ bf) ++ (⟨#[32]⟩ : ByteArray)) ++ bJ).size + 1 ≤ 9223372036854775807 then (some (((((((⟨#[104, 111, 112, 115, 32]⟩ : ByteArray) ++ aA) ++ (⟨#[32]⟩ : ByteArray)) ++ bf) ++ (⟨#[32]⟩ : ByteArray)) ++ bJ) ++ (⟨#[59]⟩ : ByteArray))) else (none)) else (none))) else (none)) else (none)) else (none)) else (none)) else (if aD = 3 then (if 7 + aA.size ≤ 9223372036854775807 then (if ((⟨#[119, 105, 116, 104, 105, 110, 32]⟩ : ByteArray) ++ aA).size + 1 ≤ 9223372036854775807 then (if (((⟨#[119, 105, 116, 104, 105, 110, 32]⟩ : ByteArray) ++ aA) ++ (⟨#[32]⟩ : ByteArray)).size + bf.size ≤ 9223372036854775807 then (if ((((⟨#[119, 105, 116, 104, 105, 110, 32]⟩ : ByteArray) ++ aA) ++ (⟨#[32]⟩ : ByteArray)) ++ bf).size + 1 ≤ 9223372036854775807 then ((dw.f k eu).bind fun bH => (if (((((⟨#[119, 105, 116, 104, 105, 110, 32]⟩ : ByteArray) ++ aA) ++ (⟨#[32]⟩ : ByteArray)) ++ bf) ++ (⟨#[32]⟩ : ByteArray)).size + bH.size ≤ 9223372036854775807 then (if ((((((⟨#[119, 105, 116, 104, 105, 110, 32]⟩ : ByteArray) ++ aA) ++ (⟨#[32]⟩ : ByteArray)) ++ bf) ++ (⟨#[32]⟩ : ByteArray)) ++ bH).size + 1 ≤ 9223372036854775807 then ((aM.f k fe).bind fun t105 => (if (((((((⟨#[119, 105, 116, 104, 105, 110, 32]⟩ : ByteArray) ++ aA) ++ (⟨#[32]⟩ : ByteArray)) ++ bf) ++ (⟨#[32]⟩ : ByteArray)) ++ bH) ++ (⟨#[32]⟩ : ByteArray)).size + t105.size ≤ 9223372036854775807 then (if ((((((((⟨#[119, 105, 116, 104, 105, 110, 32]⟩ : ByteArray) ++ aA) ++ (⟨#[32]⟩ : ByteArray)) ++ bf) ++ (⟨#[32]⟩ : ByteArray)) ++ bH) ++ (⟨#[32]⟩ : ByteArray)) ++ t105).size + 1 ≤ 9223372036854775807 then (some (((((((((⟨#[119, 105, 116, 104, 105, 110, 32]⟩ : ByteArray) ++ aA) ++ (⟨#[32]⟩ : ByteArray)) ++ bf) ++ (⟨#[32]⟩ : ByteArray)) ++ bH) ++ (⟨#[32]⟩ : ByteArray)) ++ t105) ++ (⟨#[59]⟩ : ByteArray))) else (none)) else (none))) else (none)) else (none))) else (none)) else (none)) else (none)) else (none)) else (if aD = 4 then (if 8 + aA.size ≤ 9223372036854775807 then (if ((⟨#[99, 111, 109, 112, 97, 114, 101, 32]⟩ : ByteArray) ++ aA).size + 1 ≤ 9223372036854775807 then (if (((⟨#[99, 111, 109, 112, 97, 114, 101, 32]⟩ : ByteArray) ++ aA) ++ (⟨#[32]⟩ : ByteArray)).size + bU.size ≤ 9223372036854775807 then (if ((((⟨#[99, 111, 109, 112, 97, 114, 101, 32]⟩ : ByteArray) ++ aA) ++ (⟨#[32]⟩ : ByteArray)) ++ bU).size + 1 ≤ 9223372036854775807 then (if (((((⟨#[99, 111, 109, 112, 97, 114, 101, 32]⟩ : ByteArray) ++ aA) ++ (⟨#[32]⟩ : ByteArray)) ++ bU) ++ (⟨#[32]⟩ : ByteArray)).size + bf.size ≤ 9223372036854775807 then (if ((((((⟨#[99, 111, 109, 112, 97, 114, 101, 32]⟩ : ByteArray) ++ aA) ++ (⟨#[32]⟩ : ByteArray)) ++ bU) ++ (⟨#[32]⟩ : ByteArray)) ++ bf).size + 1 ≤ 9223372036854775807 then ((dU.f k fq fA).bind fun bG => (if (((((((⟨#[99, 111, 109, 112, 97, 114, 101, 32]⟩ : ByteArray) ++ aA) ++ (⟨#[32]⟩ : ByteArray)) ++ bU) ++ (⟨#[32]⟩ : ByteArray)) ++ bf) ++ (⟨#[32]⟩ : ByteArray)).size + bG.size ≤ 9223372036854775807 then (if ((((((((⟨#[99, 111, 109, 112, 97, 114, 101, 32]⟩ : ByteArray) ++ aA) ++ (⟨#[32]⟩ : ByteArray)) ++ bU) ++ (⟨#[32]⟩ : ByteArray)) ++ bf) ++ (⟨#[32]⟩ : ByteArray)) ++ bG).size + 1 ≤ 9223372036854775807 then (some (((((((((⟨#[99, 111, 109, 112, 97, 114, 101, 32]⟩ : ByteArray) ++ aA) ++ (⟨#[32]⟩ : ByteArray)) ++ bU) ++ (⟨#[32]⟩ : ByteArray)) ++ bf) ++ (⟨#[32]⟩ : ByteArray)) ++ bG) ++ (⟨#[59]⟩ : ByteArray))) else (none)) else (none))) else (none)) else (none)) else (none)) else (none)) else (none)) else (none)) else (some (⟨#[]⟩ : ByteArray)))))) = some r := h
 clear h
 by_cases c2 : aD = 1
 ·rw [if_pos c2] at H
  have jF : (aD == 1) = true := beq_iff_eq.mpr c2
  have mI : (aD != 1) = false := bne_eq_false_iff_eq.mpr c2
  clear c2
  by_cases c3 : 5 + aA.size ≤ 9223372036854775807
  ·rw [if_pos c3] at H
   have gN := eq_true c3
   have jk : decide (5 + aA.size ≤ 9223372036854775807) = true := decide_eq_true c3
   try have zm : (9223372036854775807 < 5 + aA.size) = False := eq_false (Nat.not_lt.2 c3)
   by_cases c4 : ((⟨#[112, 114, 111, 98, 32]⟩ : ByteArray) ++ aA).size + 1 ≤ 9223372036854775807
   ·rw [if_pos c4] at H
    have iQ := eq_true c4
    have jv : decide (((⟨#[112, 114, 111, 98, 32]⟩ : ByteArray) ++ aA).size + 1 ≤ 9223372036854775807) = true := decide_eq_true c4
    try have Ag : (9223372036854775807 < ((⟨#[112, 114, 111, 98, 32]⟩ : ByteArray) ++ aA).size + 1) = False := eq_false (Nat.not_lt.2 c4)
    (try (have Ex : (9223372036854775807 < 5 + aA.size + 1) = False := eq_false (Nat.not_lt.2 (by have h_ := jv; simp only [ByteArray.size_append, decide_eq_true_eq] at h_; first | exact h_ | (simp at h_; omega)))))
    by_cases c5 : (((⟨#[112, 114, 111, 98, 32]⟩ : ByteArray) ++ aA) ++ (⟨#[32]⟩ : ByteArray)).size + bf.size ≤ 9223372036854775807
    ·rw [if_pos c5] at H
     have jG := eq_true c5
     have lS : decide ((((⟨#[112, 114, 111, 98, 32]⟩ : ByteArray) ++ aA) ++ (⟨#[32]⟩ : ByteArray)).size + bf.size ≤ 9223372036854775807) = true := decide_eq_true c5
     try have tJ : (9223372036854775807 < (((⟨#[112, 114, 111, 98, 32]⟩ : ByteArray) ++ aA) ++ (⟨#[32]⟩ : ByteArray)).size + bf.size) = False := eq_false (Nat.not_lt.2 c5)
     (try (have BL : (9223372036854775807 < 5 + aA.size + 1 + bf.size) = False := eq_false (Nat.not_lt.2 (by have h_ := lS; simp only [ByteArray.size_append, decide_eq_true_eq] at h_; first | exact h_ | (simp at h_; omega)))))
     by_cases c6 : ((((⟨#[112, 114, 111, 98, 32]⟩ : ByteArray) ++ aA) ++ (⟨#[32]⟩ : ByteArray)) ++ bf).size + 1 ≤ 9223372036854775807
     ·rw [if_pos c6] at H
      have kE := eq_true c6
      have tK : decide (((((⟨#[112, 114, 111, 98, 32]⟩ : ByteArray) ++ aA) ++ (⟨#[32]⟩ : ByteArray)) ++ bf).size + 1 ≤ 9223372036854775807) = true := decide_eq_true c6
      try have zn : (9223372036854775807 < ((((⟨#[112, 114, 111, 98, 32]⟩ : ByteArray) ++ aA) ++ (⟨#[32]⟩ : ByteArray)) ++ bf).size + 1) = False := eq_false (Nat.not_lt.2 c6)
      (try (have BM : (9223372036854775807 < 5 + aA.size + 1 + bf.size + 1) = False := eq_false (Nat.not_lt.2 (by have h_ := tK; simp only [ByteArray.size_append, decide_eq_true_eq] at h_; first | exact h_ | (simp at h_; omega)))))
      replace H := Option.bind_eq_some_iff.mp H
      obtain ⟨aJ, A70, H⟩ := H
      replace H : (if (((((⟨#[112, 114, 111, 98, 32]⟩ : ByteArray) ++ aA) ++ (⟨#[32]⟩ : ByteArray)) ++ bf) ++ (⟨#[32]⟩ : ByteArray)).size + aJ.size ≤ 9223372036854775807 then (if ((((((⟨#[112, 114, 111, 98, 32]⟩ : ByteArray) ++ aA) ++ (⟨#[32]⟩ : ByteArray)) ++ bf) ++ (⟨#[32]⟩ : ByteArray)) ++ aJ).size + 1 ≤ 9223372036854775807 then (some (((((((⟨#[112, 114, 111, 98, 32]⟩ : ByteArray) ++ aA) ++ (⟨#[32]⟩ : ByteArray)) ++ bf) ++ (⟨#[32]⟩ : ByteArray)) ++ aJ) ++ (⟨#[59]⟩ : ByteArray))) else (none)) else (none)) = some r := H
      have A7 := ae.mk A70
      clear A70
      by_cases c8 : (((((⟨#[112, 114, 111, 98, 32]⟩ : ByteArray) ++ aA) ++ (⟨#[32]⟩ : ByteArray)) ++ bf) ++ (⟨#[32]⟩ : ByteArray)).size + aJ.size ≤ 9223372036854775807
      ·rw [if_pos c8] at H
       have kK := eq_true c8
       have tL : decide ((((((⟨#[112, 114, 111, 98, 32]⟩ : ByteArray) ++ aA) ++ (⟨#[32]⟩ : ByteArray)) ++ bf) ++ (⟨#[32]⟩ : ByteArray)).size + aJ.size ≤ 9223372036854775807) = true := decide_eq_true c8
       try have BN : (9223372036854775807 < (((((⟨#[112, 114, 111, 98, 32]⟩ : ByteArray) ++ aA) ++ (⟨#[32]⟩ : ByteArray)) ++ bf) ++ (⟨#[32]⟩ : ByteArray)).size + aJ.size) = False := eq_false (Nat.not_lt.2 c8)
       (try (have BO : (9223372036854775807 < 5 + aA.size + 1 + bf.size + 1 + aJ.size) = False := eq_false (Nat.not_lt.2 (by have h_ := tL; simp only [ByteArray.size_append, decide_eq_true_eq] at h_; first | exact h_ | (simp at h_; omega)))))
       by_cases c9 : ((((((⟨#[112, 114, 111, 98, 32]⟩ : ByteArray) ++ aA) ++ (⟨#[32]⟩ : ByteArray)) ++ bf) ++ (⟨#[32]⟩ : ByteArray)) ++ aJ).size + 1 ≤ 9223372036854775807
       ·rw [if_pos c9] at H
        have lT := eq_true c9
        have rV : decide (((((((⟨#[112, 114, 111, 98, 32]⟩ : ByteArray) ++ aA) ++ (⟨#[32]⟩ : ByteArray)) ++ bf) ++ (⟨#[32]⟩ : ByteArray)) ++ aJ).size + 1 ≤ 9223372036854775807) = true := decide_eq_true c9
        try have BP : (9223372036854775807 < ((((((⟨#[112, 114, 111, 98, 32]⟩ : ByteArray) ++ aA) ++ (⟨#[32]⟩ : ByteArray)) ++ bf) ++ (⟨#[32]⟩ : ByteArray)) ++ aJ).size + 1) = False := eq_false (Nat.not_lt.2 c9)
        (try (have BQ : (9223372036854775807 < 5 + aA.size + 1 + bf.size + 1 + aJ.size + 1) = False := eq_false (Nat.not_lt.2 (by have h_ := rV; simp only [ByteArray.size_append, decide_eq_true_eq] at h_; first | exact h_ | (simp at h_; omega)))))
        obtain rfl := Option.some.inj H
        go_enter Tryz.func82, Tryz.ntmps82
        try go_wp2_with (first | ((with_reducible refine bg (N := 1) rfl ?_); refine bE ?hg (N := 1) ?hd (cs := #[.int .i64 aD, .string aA, .string bU, .string bf, .int .u32 eu, .int .u32 fq, .int .i64 fA, .int .i64 fe]) (t := 45) ?hr ?_; (case hd => rfl); (case hg => rfl); (case hr => first | (go_simp; done) | (go_simp; rfl)); intro av hg w10 hbox hb; have ag := ae.mk (hbox); have GW101 := qge HB hg; have dh := qge HB hg; replace HB := ae.mk (aj (qw HB) hb); clear hb hbox hg; have hcz11_0 : w10.cell? ⟨av, 0, none⟩ = some (.int .i64 aD) := (af ag.out 0).trans rfl; have hcz11_1 : w10.cell? ⟨av, 1, none⟩ = some (.string aA) := (af ag.out 1).trans rfl; have hcz11_2 : w10.cell? ⟨av, 2, none⟩ = some (.string bU) := (af ag.out 2).trans rfl; have hcz11_3 : w10.cell? ⟨av, 3, none⟩ = some (.string bf) := (af ag.out 3).trans rfl; have hcz11_4 : w10.cell? ⟨av, 4, none⟩ = some (.int .u32 eu) := (af ag.out 4).trans rfl; have hcz11_5 : w10.cell? ⟨av, 5, none⟩ = some (.int .u32 fq) := (af ag.out 5).trans rfl; have hcz11_6 : w10.cell? ⟨av, 6, none⟩ = some (.int .i64 fA) := (af ag.out 6).trans rfl; have hcz11_7 : w10.cell? ⟨av, 7, none⟩ = some (.int .i64 fe) := (af ag.out 7).trans rfl; have hfz11_0 := ah ag.out 0; have hfz11_1 := ah ag.out 1; have hfz11_2 := ah ag.out 2; have hfz11_3 := ah ag.out 3; have hfz11_4 := ah ag.out 4; have hfz11_5 := ah ag.out 5; have hfz11_6 := ah ag.out 6; have hfz11_7 := ah ag.out 7))
        replace ag := ae.mk (dQ ag.out)
        replace HB := ae.mk (ak HB.out)
        refine iP (n := 14) (S := fun w' => w'.cell? ⟨av, 0, none⟩ = some (.int .i64 aD) ∧ w'.cell? ⟨av, 1, none⟩ = some (.string aA) ∧ w'.cell? ⟨av, 2, none⟩ = some (.string bU) ∧ w'.cell? ⟨av, 3, none⟩ = some (.string bf) ∧ w'.cell? ⟨av, 4, none⟩ = some (.int .u32 eu) ∧ w'.cell? ⟨av, 5, none⟩ = some (.int .u32 fq) ∧ w'.cell? ⟨av, 6, none⟩ = some (.int .i64 fA) ∧ w'.cell? ⟨av, 7, none⟩ = some (.int .i64 fe)) (ds := []) #[bF,bF,bF,bF,bF,bF,bF,bF,bF,bF,bF,bF,bF,bF] (by kernel_rfl) rfl rfl ⟨(af ag.out 0).trans rfl, (af ag.out 1).trans rfl, (af ag.out 2).trans rfl, (af ag.out 3).trans rfl, (af ag.out 4).trans rfl, (af ag.out 5).trans rfl, (af ag.out 6).trans rfl, (af ag.out 7).trans rfl⟩ (fun hHeld => ?_); refine fV aK.Ca aK.Ad (fun HT_ HW_ => ?_)
        generalize w10.drew = w12 at ag HB hHeld ⊢
        refine bL 0 (some 6) HT_ ?_
        refine bL 4 (some 10) HT_ ?_
        refine bL 8 (some 14) HT_ ?_
        refine fI 1 (some 7) HT_ HW_ hHeld ?_
        refine bL 2 (some 8) HT_ ?_
        refine bL 3 (some 9) HT_ ?_
        refine fI 5 (some 11) HT_ HW_ hHeld ?_
        refine bL 6 (some 12) HT_ ?_
        refine bL 7 (some 13) HT_ ?_
        refine fI 9 (some 15) HT_ HW_ hHeld ?_
        refine iW 10 (some 16) HT_ (fun K hK => ?_)
        refine gX Tryz.func60 #[.int .u32 eu] ?_
        with_reducible refine (dw.calls k eu aJ _ A7.out).mono ?_
        rintro e w13 ⟨rfl, hb⟩
        refine ⟨_, rfl, ?_⟩
        replace ag := qbb ag hb
        replace HB := ae.mk (aj (qw HB) hb)
        (try clear hb)
        (try clear hb2)
        (try clear hk)
        (try clear hi)
        refine hK.out _ _ ⟨(af ag.out 0).trans rfl, (af ag.out 1).trans rfl, (af ag.out 2).trans rfl, (af ag.out 3).trans rfl, (af ag.out 4).trans rfl, (af ag.out 5).trans rfl, (af ag.out 6).trans rfl, (af ag.out 7).trans rfl⟩ (fun hHeld => ?_)
        clear hK K
        refine gD (some 16) ?_
        refine bL 11 (some 17) HT_ ?_
        refine bL 12 (some 18) HT_ ?_
        refine bL 13 (some 2) HT_ ?_
        refine jI HT_ ?_
        try go_wp2
        go_ret
        exact ⟨by first | rfl | (simp [errW_none, errW_some] <;> rfl) | (simp [*, errW_none, errW_some] <;> rfl), by repeat (first | (with_reducible first | exact HB.out | apply au | apply ai | apply ak | refine bn ?_ dh.out) | exact HB.out)⟩
       ·rw [if_neg c9] at H
        exact absurd H (by simp)
      ·rw [if_neg c8] at H
       exact absurd H (by simp)
     ·rw [if_neg c6] at H
      exact absurd H (by simp)
    ·rw [if_neg c5] at H
     exact absurd H (by simp)
   ·rw [if_neg c4] at H
    exact absurd H (by simp)
  ·rw [if_neg c3] at H
   exact absurd H (by simp)
 ·rw [if_neg c2] at H
  have jF : (aD == 1) = false := beq_eq_false_iff_ne.mpr c2
  have mI : (aD != 1) = true := bne_iff_ne.mpr c2
  by_cases c14 : aD = 2
  ·rw [if_pos c14] at H
   have qA : (aD == 2) = true := beq_iff_eq.mpr c14
   have rZ : (aD != 2) = false := bne_eq_false_iff_eq.mpr c14
   clear c14
   by_cases c15 : 5 + aA.size ≤ 9223372036854775807
   ·rw [if_pos c15] at H
    have wU := eq_true c15
    have yP : decide (5 + aA.size ≤ 9223372036854775807) = true := decide_eq_true c15
    try have Dc : (9223372036854775807 < 5 + aA.size) = False := eq_false (Nat.not_lt.2 c15)
    by_cases c16 : ((⟨#[104, 111, 112, 115, 32]⟩ : ByteArray) ++ aA).size + 1 ≤ 9223372036854775807
    ·rw [if_pos c16] at H
     have wO := eq_true c16
     have wP : decide (((⟨#[104, 111, 112, 115, 32]⟩ : ByteArray) ++ aA).size + 1 ≤ 9223372036854775807) = true := decide_eq_true c16
     try have zU : (9223372036854775807 < ((⟨#[104, 111, 112, 115, 32]⟩ : ByteArray) ++ aA).size + 1) = False := eq_false (Nat.not_lt.2 c16)
     (try (have De : (9223372036854775807 < 5 + aA.size + 1) = False := eq_false (Nat.not_lt.2 (by have h_ := wP; simp only [ByteArray.size_append, decide_eq_true_eq] at h_; first | exact h_ | (simp at h_; omega)))))
     by_cases c17 : (((⟨#[104, 111, 112, 115, 32]⟩ : ByteArray) ++ aA) ++ (⟨#[32]⟩ : ByteArray)).size + bf.size ≤ 9223372036854775807
     ·rw [if_pos c17] at H
      have Df := eq_true c17
      have Ah : decide ((((⟨#[104, 111, 112, 115, 32]⟩ : ByteArray) ++ aA) ++ (⟨#[32]⟩ : ByteArray)).size + bf.size ≤ 9223372036854775807) = true := decide_eq_true c17
      try have Dg : (9223372036854775807 < (((⟨#[104, 111, 112, 115, 32]⟩ : ByteArray) ++ aA) ++ (⟨#[32]⟩ : ByteArray)).size + bf.size) = False := eq_false (Nat.not_lt.2 c17)
      (try (have Dh : (9223372036854775807 < 5 + aA.size + 1 + bf.size) = False := eq_false (Nat.not_lt.2 (by have h_ := Ah; simp only [ByteArray.size_append, decide_eq_true_eq] at h_; first | exact h_ | (simp at h_; omega)))))
      by_cases c18 : ((((⟨#[104, 111, 112, 115, 32]⟩ : ByteArray) ++ aA) ++ (⟨#[32]⟩ : ByteArray)) ++ bf).size + 1 ≤ 9223372036854775807
      ·rw [if_pos c18] at H
       have yQ := eq_true c18
       have Ai : decide (((((⟨#[104, 111, 112, 115, 32]⟩ : ByteArray) ++ aA) ++ (⟨#[32]⟩ : ByteArray)) ++ bf).size + 1 ≤ 9223372036854775807) = true := decide_eq_true c18
       try have Di : (9223372036854775807 < ((((⟨#[104, 111, 112, 115, 32]⟩ : ByteArray) ++ aA) ++ (⟨#[32]⟩ : ByteArray)) ++ bf).size + 1) = False := eq_false (Nat.not_lt.2 c18)
       (try (have Dj : (9223372036854775807 < 5 + aA.size + 1 + bf.size + 1) = False := eq_false (Nat.not_lt.2 (by have h_ := Ai; simp only [ByteArray.size_append, decide_eq_true_eq] at h_; first | exact h_ | (simp at h_; omega)))))
       replace H := Option.bind_eq_some_iff.mp H
       obtain ⟨bJ, A190, H⟩ := H
       replace H : (if (((((⟨#[104, 111, 112, 115, 32]⟩ : ByteArray) ++ aA) ++ (⟨#[32]⟩ : ByteArray)) ++ bf) ++ (⟨#[32]⟩ : ByteArray)).size + bJ.size ≤ 9223372036854775807 then (if ((((((⟨#[104, 111, 112, 115, 32]⟩ : ByteArray) ++ aA) ++ (⟨#[32]⟩ : ByteArray)) ++ bf) ++ (⟨#[32]⟩ : ByteArray)) ++ bJ).size + 1 ≤ 9223372036854775807 then (some (((((((⟨#[104, 111, 112, 115, 32]⟩ : ByteArray) ++ aA) ++ (⟨#[32]⟩ : ByteArray)) ++ bf) ++ (⟨#[32]⟩ : ByteArray)) ++ bJ) ++ (⟨#[59]⟩ : ByteArray))) else (none)) else (none)) = some r := H
       have A19 := ae.mk A190
       clear A190
       by_cases c20 : (((((⟨#[104, 111, 112, 115, 32]⟩ : ByteArray) ++ aA) ++ (⟨#[32]⟩ : ByteArray)) ++ bf) ++ (⟨#[32]⟩ : ByteArray)).size + bJ.size ≤ 9223372036854775807
       ·rw [if_pos c20] at H
        have Dk := eq_true c20
        have Aj : decide ((((((⟨#[104, 111, 112, 115, 32]⟩ : ByteArray) ++ aA) ++ (⟨#[32]⟩ : ByteArray)) ++ bf) ++ (⟨#[32]⟩ : ByteArray)).size + bJ.size ≤ 9223372036854775807) = true := decide_eq_true c20
        try have Dl : (9223372036854775807 < (((((⟨#[104, 111, 112, 115, 32]⟩ : ByteArray) ++ aA) ++ (⟨#[32]⟩ : ByteArray)) ++ bf) ++ (⟨#[32]⟩ : ByteArray)).size + bJ.size) = False := eq_false (Nat.not_lt.2 c20)
        (try (have Dm : (9223372036854775807 < 5 + aA.size + 1 + bf.size + 1 + bJ.size) = False := eq_false (Nat.not_lt.2 (by have h_ := Aj; simp only [ByteArray.size_append, decide_eq_true_eq] at h_; first | exact h_ | (simp at h_; omega)))))
        by_cases c21 : ((((((⟨#[104, 111, 112, 115, 32]⟩ : ByteArray) ++ aA) ++ (⟨#[32]⟩ : ByteArray)) ++ bf) ++ (⟨#[32]⟩ : ByteArray)) ++ bJ).size + 1 ≤ 9223372036854775807
        ·rw [if_pos c21] at H
         have Dn := eq_true c21
         have Ak : decide (((((((⟨#[104, 111, 112, 115, 32]⟩ : ByteArray) ++ aA) ++ (⟨#[32]⟩ : ByteArray)) ++ bf) ++ (⟨#[32]⟩ : ByteArray)) ++ bJ).size + 1 ≤ 9223372036854775807) = true := decide_eq_true c21
         try have Dp : (9223372036854775807 < ((((((⟨#[104, 111, 112, 115, 32]⟩ : ByteArray) ++ aA) ++ (⟨#[32]⟩ : ByteArray)) ++ bf) ++ (⟨#[32]⟩ : ByteArray)) ++ bJ).size + 1) = False := eq_false (Nat.not_lt.2 c21)
         (try (have Dq : (9223372036854775807 < 5 + aA.size + 1 + bf.size + 1 + bJ.size + 1) = False := eq_false (Nat.not_lt.2 (by have h_ := Ak; simp only [ByteArray.size_append, decide_eq_true_eq] at h_; first | exact h_ | (simp at h_; omega)))))
         obtain rfl := Option.some.inj H
         go_enter Tryz.func82, Tryz.ntmps82
         try go_wp2_with (first | ((with_reducible refine bg (N := 1) rfl ?_); refine bE ?hg (N := 1) ?hd (cs := #[.int .i64 aD, .string aA, .string bU, .string bf, .int .u32 eu, .int .u32 fq, .int .i64 fA, .int .i64 fe]) (t := 45) ?hr ?_; (case hd => rfl); (case hg => rfl); (case hr => first | (go_simp; done) | (go_simp; rfl)); intro av hg w22 hbox hb; have ag := ae.mk (hbox); have GW101 := qge HB hg; have dh := qge HB hg; replace HB := ae.mk (aj (qw HB) hb); clear hb hbox hg; have hcz23_0 : w22.cell? ⟨av, 0, none⟩ = some (.int .i64 aD) := (af ag.out 0).trans rfl; have hcz23_1 : w22.cell? ⟨av, 1, none⟩ = some (.string aA) := (af ag.out 1).trans rfl; have hcz23_2 : w22.cell? ⟨av, 2, none⟩ = some (.string bU) := (af ag.out 2).trans rfl; have hcz23_3 : w22.cell? ⟨av, 3, none⟩ = some (.string bf) := (af ag.out 3).trans rfl; have hcz23_4 : w22.cell? ⟨av, 4, none⟩ = some (.int .u32 eu) := (af ag.out 4).trans rfl; have hcz23_5 : w22.cell? ⟨av, 5, none⟩ = some (.int .u32 fq) := (af ag.out 5).trans rfl; have hcz23_6 : w22.cell? ⟨av, 6, none⟩ = some (.int .i64 fA) := (af ag.out 6).trans rfl; have hcz23_7 : w22.cell? ⟨av, 7, none⟩ = some (.int .i64 fe) := (af ag.out 7).trans rfl; have hfz23_0 := ah ag.out 0; have hfz23_1 := ah ag.out 1; have hfz23_2 := ah ag.out 2; have hfz23_3 := ah ag.out 3; have hfz23_4 := ah ag.out 4; have hfz23_5 := ah ag.out 5; have hfz23_6 := ah ag.out 6; have hfz23_7 := ah ag.out 7))
         replace ag := ae.mk (dQ ag.out)
         replace HB := ae.mk (ak HB.out)
         refine iP (n := 14) (S := fun w' => w'.cell? ⟨av, 0, none⟩ = some (.int .i64 aD) ∧ w'.cell? ⟨av, 1, none⟩ = some (.string aA) ∧ w'.cell? ⟨av, 2, none⟩ = some (.string bU) ∧ w'.cell? ⟨av, 3, none⟩ = some (.string bf) ∧ w'.cell? ⟨av, 4, none⟩ = some (.int .u32 eu) ∧ w'.cell? ⟨av, 5, none⟩ = some (.int .u32 fq) ∧ w'.cell? ⟨av, 6, none⟩ = some (.int .i64 fA) ∧ w'.cell? ⟨av, 7, none⟩ = some (.int .i64 fe)) (ds := []) #[bF,bF,bF,bF,bF,bF,bF,bF,bF,bF,bF,bF,bF,bF] (by kernel_rfl) rfl rfl ⟨(af ag.out 0).trans rfl, (af ag.out 1).trans rfl, (af ag.out 2).trans rfl, (af ag.out 3).trans rfl, (af ag.out 4).trans rfl, (af ag.out 5).trans rfl, (af ag.out 6).trans rfl, (af ag.out 7).trans rfl⟩ (fun hHeld => ?_); refine fV aK.Cb aK.Ae (fun HT_ HW_ => ?_)
         generalize w22.drew = w24 at ag HB hHeld ⊢
         refine bL 0 (some 22) HT_ ?_
         refine bL 4 (some 26) HT_ ?_
         refine bL 8 (some 30) HT_ ?_
         refine fI 1 (some 23) HT_ HW_ hHeld ?_
         refine bL 2 (some 24) HT_ ?_
         refine bL 3 (some 25) HT_ ?_
         refine fI 5 (some 27) HT_ HW_ hHeld ?_
         refine bL 6 (some 28) HT_ ?_
         refine bL 7 (some 29) HT_ ?_
         refine fI 9 (some 31) HT_ HW_ hHeld ?_
         refine iW 10 (some 32) HT_ (fun K hK => ?_)
         refine gX Tryz.func60 #[.int .u32 eu] ?_
         with_reducible refine (dw.calls k eu bJ _ A19.out).mono ?_
         rintro e w25 ⟨rfl, hb⟩
         refine ⟨_, rfl, ?_⟩
         replace ag := qbb ag hb
         replace HB := ae.mk (aj (qw HB) hb)
         (try clear hb)
         (try clear hb2)
         (try clear hk)
         (try clear hi)
         refine hK.out _ _ ⟨(af ag.out 0).trans rfl, (af ag.out 1).trans rfl, (af ag.out 2).trans rfl, (af ag.out 3).trans rfl, (af ag.out 4).trans rfl, (af ag.out 5).trans rfl, (af ag.out 6).trans rfl, (af ag.out 7).trans rfl⟩ (fun hHeld => ?_)
         clear hK K
         refine gD (some 32) ?_
         refine bL 11 (some 33) HT_ ?_
         refine bL 12 (some 34) HT_ ?_
         refine bL 13 (some 2) HT_ ?_
         refine jI HT_ ?_
         try go_wp2
         go_ret
         exact ⟨by first | rfl | (simp [errW_none, errW_some] <;> rfl) | (simp [*, errW_none, errW_some] <;> rfl), by repeat (first | (with_reducible first | exact HB.out | apply au | apply ai | apply ak | refine bn ?_ dh.out) | exact HB.out)⟩
        ·rw [if_neg c21] at H
         exact absurd H (by simp)
       ·rw [if_neg c20] at H
        exact absurd H (by simp)
      ·rw [if_neg c18] at H
       exact absurd H (by simp)
     ·rw [if_neg c17] at H
      exact absurd H (by simp)
    ·rw [if_neg c16] at H
     exact absurd H (by simp)
   ·rw [if_neg c15] at H
    exact absurd H (by simp)
  ·rw [if_neg c14] at H
   have qA : (aD == 2) = false := beq_eq_false_iff_ne.mpr c14
   have rZ : (aD != 2) = true := bne_iff_ne.mpr c14
   by_cases c26 : aD = 3
   ·rw [if_pos c26] at H
    have Al : (aD == 3) = true := beq_iff_eq.mpr c26
    have Am : (aD != 3) = false := bne_eq_false_iff_eq.mpr c26
    clear c26
    by_cases c27 : 7 + aA.size ≤ 9223372036854775807
    ·rw [if_pos c27] at H
     have Dr := eq_true c27
     have Dt : decide (7 + aA.size ≤ 9223372036854775807) = true := decide_eq_true c27
     try have Du : (9223372036854775807 < 7 + aA.size) = False := eq_false (Nat.not_lt.2 c27)
     by_cases c28 : ((⟨#[119, 105, 116, 104, 105, 110, 32]⟩ : ByteArray) ++ aA).size + 1 ≤ 9223372036854775807
     ·rw [if_pos c28] at H
      have zX := eq_true c28
      have yM : decide (((⟨#[119, 105, 116, 104, 105, 110, 32]⟩ : ByteArray) ++ aA).size + 1 ≤ 9223372036854775807) = true := decide_eq_true c28
      try have zY : (9223372036854775807 < ((⟨#[119, 105, 116, 104, 105, 110, 32]⟩ : ByteArray) ++ aA).size + 1) = False := eq_false (Nat.not_lt.2 c28)
      (try (have Dv : (9223372036854775807 < 7 + aA.size + 1) = False := eq_false (Nat.not_lt.2 (by have h_ := yM; simp only [ByteArray.size_append, decide_eq_true_eq] at h_; first | exact h_ | (simp at h_; omega)))))
      by_cases c29 : (((⟨#[119, 105, 116, 104, 105, 110, 32]⟩ : ByteArray) ++ aA) ++ (⟨#[32]⟩ : ByteArray)).size + bf.size ≤ 9223372036854775807
      ·rw [if_pos c29] at H
       have Dw := eq_true c29
       have Ao : decide ((((⟨#[119, 105, 116, 104, 105, 110, 32]⟩ : ByteArray) ++ aA) ++ (⟨#[32]⟩ : ByteArray)).size + bf.size ≤ 9223372036854775807) = true := decide_eq_true c29
       try have Dx : (9223372036854775807 < (((⟨#[119, 105, 116, 104, 105, 110, 32]⟩ : ByteArray) ++ aA) ++ (⟨#[32]⟩ : ByteArray)).size + bf.size) = False := eq_false (Nat.not_lt.2 c29)
       (try (have Dy : (9223372036854775807 < 7 + aA.size + 1 + bf.size) = False := eq_false (Nat.not_lt.2 (by have h_ := Ao; simp only [ByteArray.size_append, decide_eq_true_eq] at h_; first | exact h_ | (simp at h_; omega)))))
       by_cases c30 : ((((⟨#[119, 105, 116, 104, 105, 110, 32]⟩ : ByteArray) ++ aA) ++ (⟨#[32]⟩ : ByteArray)) ++ bf).size + 1 ≤ 9223372036854775807
       ·rw [if_pos c30] at H
        have Dz := eq_true c30
        have Ap : decide (((((⟨#[119, 105, 116, 104, 105, 110, 32]⟩ : ByteArray) ++ aA) ++ (⟨#[32]⟩ : ByteArray)) ++ bf).size + 1 ≤ 9223372036854775807) = true := decide_eq_true c30
        try have DC : (9223372036854775807 < ((((⟨#[119, 105, 116, 104, 105, 110, 32]⟩ : ByteArray) ++ aA) ++ (⟨#[32]⟩ : ByteArray)) ++ bf).size + 1) = False := eq_false (Nat.not_lt.2 c30)
        (try (have DD : (9223372036854775807 < 7 + aA.size + 1 + bf.size + 1) = False := eq_false (Nat.not_lt.2 (by have h_ := Ap; simp only [ByteArray.size_append, decide_eq_true_eq] at h_; first | exact h_ | (simp at h_; omega)))))
        replace H := Option.bind_eq_some_iff.mp H
        obtain ⟨bH, A310, H⟩ := H
        replace H : (if (((((⟨#[119, 105, 116, 104, 105, 110, 32]⟩ : ByteArray) ++ aA) ++ (⟨#[32]⟩ : ByteArray)) ++ bf) ++ (⟨#[32]⟩ : ByteArray)).size + bH.size ≤ 9223372036854775807 then (if ((((((⟨#[119, 105, 116, 104, 105, 110, 32]⟩ : ByteArray) ++ aA) ++ (⟨#[32]⟩ : ByteArray)) ++ bf) ++ (⟨#[32]⟩ : ByteArray)) ++ bH).size + 1 ≤ 9223372036854775807 then ((aM.f k fe).bind fun t105 => (if (((((((⟨#[119, 105, 116, 104, 105, 110, 32]⟩ : ByteArray) ++ aA) ++ (⟨#[32]⟩ : ByteArray)) ++ bf) ++ (⟨#[32]⟩ : ByteArray)) ++ bH) ++ (⟨#[32]⟩ : ByteArray)).size + t105.size ≤ 9223372036854775807 then (if ((((((((⟨#[119, 105, 116, 104, 105, 110, 32]⟩ : ByteArray) ++ aA) ++ (⟨#[32]⟩ : ByteArray)) ++ bf) ++ (⟨#[32]⟩ : ByteArray)) ++ bH) ++ (⟨#[32]⟩ : ByteArray)) ++ t105).size + 1 ≤ 9223372036854775807 then (some (((((((((⟨#[119, 105, 116, 104, 105, 110, 32]⟩ : ByteArray) ++ aA) ++ (⟨#[32]⟩ : ByteArray)) ++ bf) ++ (⟨#[32]⟩ : ByteArray)) ++ bH) ++ (⟨#[32]⟩ : ByteArray)) ++ t105) ++ (⟨#[59]⟩ : ByteArray))) else (none)) else (none))) else (none)) else (none)) = some r := H
        have A31 := ae.mk A310
        clear A310
        by_cases c32 : (((((⟨#[119, 105, 116, 104, 105, 110, 32]⟩ : ByteArray) ++ aA) ++ (⟨#[32]⟩ : ByteArray)) ++ bf) ++ (⟨#[32]⟩ : ByteArray)).size + bH.size ≤ 9223372036854775807
        ·rw [if_pos c32] at H
         have DF := eq_true c32
         have Aq : decide ((((((⟨#[119, 105, 116, 104, 105, 110, 32]⟩ : ByteArray) ++ aA) ++ (⟨#[32]⟩ : ByteArray)) ++ bf) ++ (⟨#[32]⟩ : ByteArray)).size + bH.size ≤ 9223372036854775807) = true := decide_eq_true c32
         try have DI : (9223372036854775807 < (((((⟨#[119, 105, 116, 104, 105, 110, 32]⟩ : ByteArray) ++ aA) ++ (⟨#[32]⟩ : ByteArray)) ++ bf) ++ (⟨#[32]⟩ : ByteArray)).size + bH.size) = False := eq_false (Nat.not_lt.2 c32)
         (try (have DJ : (9223372036854775807 < 7 + aA.size + 1 + bf.size + 1 + bH.size) = False := eq_false (Nat.not_lt.2 (by have h_ := Aq; simp only [ByteArray.size_append, decide_eq_true_eq] at h_; first | exact h_ | (simp at h_; omega)))))
         by_cases c33 : ((((((⟨#[119, 105, 116, 104, 105, 110, 32]⟩ : ByteArray) ++ aA) ++ (⟨#[32]⟩ : ByteArray)) ++ bf) ++ (⟨#[32]⟩ : ByteArray)) ++ bH).size + 1 ≤ 9223372036854775807
         ·rw [if_pos c33] at H
          have DK := eq_true c33
          have Ar : decide (((((((⟨#[119, 105, 116, 104, 105, 110, 32]⟩ : ByteArray) ++ aA) ++ (⟨#[32]⟩ : ByteArray)) ++ bf) ++ (⟨#[32]⟩ : ByteArray)) ++ bH).size + 1 ≤ 9223372036854775807) = true := decide_eq_true c33
          try have DL : (9223372036854775807 < ((((((⟨#[119, 105, 116, 104, 105, 110, 32]⟩ : ByteArray) ++ aA) ++ (⟨#[32]⟩ : ByteArray)) ++ bf) ++ (⟨#[32]⟩ : ByteArray)) ++ bH).size + 1) = False := eq_false (Nat.not_lt.2 c33)
          (try (have DN : (9223372036854775807 < 7 + aA.size + 1 + bf.size + 1 + bH.size + 1) = False := eq_false (Nat.not_lt.2 (by have h_ := Ar; simp only [ByteArray.size_append, decide_eq_true_eq] at h_; first | exact h_ | (simp at h_; omega)))))
          replace H := Option.bind_eq_some_iff.mp H
          obtain ⟨t105, A340, H⟩ := H
          replace H : (if (((((((⟨#[119, 105, 116, 104, 105, 110, 32]⟩ : ByteArray) ++ aA) ++ (⟨#[32]⟩ : ByteArray)) ++ bf) ++ (⟨#[32]⟩ : ByteArray)) ++ bH) ++ (⟨#[32]⟩ : ByteArray)).size + t105.size ≤ 9223372036854775807 then (if ((((((((⟨#[119, 105, 116, 104, 105, 110, 32]⟩ : ByteArray) ++ aA) ++ (⟨#[32]⟩ : ByteArray)) ++ bf) ++ (⟨#[32]⟩ : ByteArray)) ++ bH) ++ (⟨#[32]⟩ : ByteArray)) ++ t105).size + 1 ≤ 9223372036854775807 then (some (((((((((⟨#[119, 105, 116, 104, 105, 110, 32]⟩ : ByteArray) ++ aA) ++ (⟨#[32]⟩ : ByteArray)) ++ bf) ++ (⟨#[32]⟩ : ByteArray)) ++ bH) ++ (⟨#[32]⟩ : ByteArray)) ++ t105) ++ (⟨#[59]⟩ : ByteArray))) else (none)) else (none)) = some r := H
          have A34 := ae.mk A340
          clear A340
          by_cases c35 : (((((((⟨#[119, 105, 116, 104, 105, 110, 32]⟩ : ByteArray) ++ aA) ++ (⟨#[32]⟩ : ByteArray)) ++ bf) ++ (⟨#[32]⟩ : ByteArray)) ++ bH) ++ (⟨#[32]⟩ : ByteArray)).size + t105.size ≤ 9223372036854775807
          ·rw [if_pos c35] at H
           have DR := eq_true c35
           have Au : decide ((((((((⟨#[119, 105, 116, 104, 105, 110, 32]⟩ : ByteArray) ++ aA) ++ (⟨#[32]⟩ : ByteArray)) ++ bf) ++ (⟨#[32]⟩ : ByteArray)) ++ bH) ++ (⟨#[32]⟩ : ByteArray)).size + t105.size ≤ 9223372036854775807) = true := decide_eq_true c35
           try have DT : (9223372036854775807 < (((((((⟨#[119, 105, 116, 104, 105, 110, 32]⟩ : ByteArray) ++ aA) ++ (⟨#[32]⟩ : ByteArray)) ++ bf) ++ (⟨#[32]⟩ : ByteArray)) ++ bH) ++ (⟨#[32]⟩ : ByteArray)).size + t105.size) = False := eq_false (Nat.not_lt.2 c35)
           (try (have DU : (9223372036854775807 < 7 + aA.size + 1 + bf.size + 1 + bH.size + 1 + t105.size) = False := eq_false (Nat.not_lt.2 (by have h_ := Au; simp only [ByteArray.size_append, decide_eq_true_eq] at h_; first | exact h_ | (simp at h_; omega)))))
           by_cases c36 : ((((((((⟨#[119, 105, 116, 104, 105, 110, 32]⟩ : ByteArray) ++ aA) ++ (⟨#[32]⟩ : ByteArray)) ++ bf) ++ (⟨#[32]⟩ : ByteArray)) ++ bH) ++ (⟨#[32]⟩ : ByteArray)) ++ t105).size + 1 ≤ 9223372036854775807
           ·rw [if_pos c36] at H
            have DV := eq_true c36
            have Av : decide (((((((((⟨#[119, 105, 116, 104, 105, 110, 32]⟩ : ByteArray) ++ aA) ++ (⟨#[32]⟩ : ByteArray)) ++ bf) ++ (⟨#[32]⟩ : ByteArray)) ++ bH) ++ (⟨#[32]⟩ : ByteArray)) ++ t105).size + 1 ≤ 9223372036854775807) = true := decide_eq_true c36
            try have DW : (9223372036854775807 < ((((((((⟨#[119, 105, 116, 104, 105, 110, 32]⟩ : ByteArray) ++ aA) ++ (⟨#[32]⟩ : ByteArray)) ++ bf) ++ (⟨#[32]⟩ : ByteArray)) ++ bH) ++ (⟨#[32]⟩ : ByteArray)) ++ t105).size + 1) = False := eq_false (Nat.not_lt.2 c36)
            (try (have DX : (9223372036854775807 < 7 + aA.size + 1 + bf.size + 1 + bH.size + 1 + t105.size + 1) = False := eq_false (Nat.not_lt.2 (by have h_ := Av; simp only [ByteArray.size_append, decide_eq_true_eq] at h_; first | exact h_ | (simp at h_; omega)))))
            obtain rfl := Option.some.inj H
            go_enter Tryz.func82, Tryz.ntmps82
            try go_wp2_with (first | ((with_reducible refine bg (N := 1) rfl ?_); refine bE ?hg (N := 1) ?hd (cs := #[.int .i64 aD, .string aA, .string bU, .string bf, .int .u32 eu, .int .u32 fq, .int .i64 fA, .int .i64 fe]) (t := 45) ?hr ?_; (case hd => rfl); (case hg => rfl); (case hr => first | (go_simp; done) | (go_simp; rfl)); intro av hg w37 hbox hb; have ag := ae.mk (hbox); have GW101 := qge HB hg; have dh := qge HB hg; replace HB := ae.mk (aj (qw HB) hb); clear hb hbox hg; have hcz38_0 : w37.cell? ⟨av, 0, none⟩ = some (.int .i64 aD) := (af ag.out 0).trans rfl; have hcz38_1 : w37.cell? ⟨av, 1, none⟩ = some (.string aA) := (af ag.out 1).trans rfl; have hcz38_2 : w37.cell? ⟨av, 2, none⟩ = some (.string bU) := (af ag.out 2).trans rfl; have hcz38_3 : w37.cell? ⟨av, 3, none⟩ = some (.string bf) := (af ag.out 3).trans rfl; have hcz38_4 : w37.cell? ⟨av, 4, none⟩ = some (.int .u32 eu) := (af ag.out 4).trans rfl; have hcz38_5 : w37.cell? ⟨av, 5, none⟩ = some (.int .u32 fq) := (af ag.out 5).trans rfl; have hcz38_6 : w37.cell? ⟨av, 6, none⟩ = some (.int .i64 fA) := (af ag.out 6).trans rfl; have hcz38_7 : w37.cell? ⟨av, 7, none⟩ = some (.int .i64 fe) := (af ag.out 7).trans rfl; have hfz38_0 := ah ag.out 0; have hfz38_1 := ah ag.out 1; have hfz38_2 := ah ag.out 2; have hfz38_3 := ah ag.out 3; have hfz38_4 := ah ag.out 4; have hfz38_5 := ah ag.out 5; have hfz38_6 := ah ag.out 6; have hfz38_7 := ah ag.out 7))
            replace ag := ae.mk (dQ ag.out)
            replace HB := ae.mk (ak HB.out)
            refine iP (n := 19) (S := fun w' => w'.cell? ⟨av, 0, none⟩ = some (.int .i64 aD) ∧ w'.cell? ⟨av, 1, none⟩ = some (.string aA) ∧ w'.cell? ⟨av, 2, none⟩ = some (.string bU) ∧ w'.cell? ⟨av, 3, none⟩ = some (.string bf) ∧ w'.cell? ⟨av, 4, none⟩ = some (.int .u32 eu) ∧ w'.cell? ⟨av, 5, none⟩ = some (.int .u32 fq) ∧ w'.cell? ⟨av, 6, none⟩ = some (.int .i64 fA) ∧ w'.cell? ⟨av, 7, none⟩ = some (.int .i64 fe)) (ds := []) #[bF,bF,bF,bF,bF,bF,bF,bF,bF,bF,bF,bF,bF,bF,bF,bF,bF,bF,bF] (by kernel_rfl) rfl rfl ⟨(af ag.out 0).trans rfl, (af ag.out 1).trans rfl, (af ag.out 2).trans rfl, (af ag.out 3).trans rfl, (af ag.out 4).trans rfl, (af ag.out 5).trans rfl, (af ag.out 6).trans rfl, (af ag.out 7).trans rfl⟩ (fun hHeld => ?_); refine fV aK.Cc aK.Af (fun HT_ HW_ => ?_)
            generalize w37.drew = w39 at ag HB hHeld ⊢
            refine bL 0 (some 38) HT_ ?_
            refine bL 4 (some 42) HT_ ?_
            refine bL 8 (some 46) HT_ ?_
            refine bL 13 (some 51) HT_ ?_
            refine fI 1 (some 39) HT_ HW_ hHeld ?_
            refine bL 2 (some 40) HT_ ?_
            refine bL 3 (some 41) HT_ ?_
            refine fI 5 (some 43) HT_ HW_ hHeld ?_
            refine bL 6 (some 44) HT_ ?_
            refine bL 7 (some 45) HT_ ?_
            refine fI 9 (some 47) HT_ HW_ hHeld ?_
            refine fI 14 (some 52) HT_ HW_ hHeld ?_
            refine iW 10 (some 48) HT_ (fun K hK => ?_)
            refine gX Tryz.func60 #[.int .u32 eu] ?_
            with_reducible refine (dw.calls k eu bH _ A31.out).mono ?_
            rintro e w40 ⟨rfl, hb⟩
            refine ⟨_, rfl, ?_⟩
            replace ag := qbb ag hb
            replace HB := ae.mk (aj (qw HB) hb)
            (try clear hb)
            (try clear hb2)
            (try clear hk)
            (try clear hi)
            refine hK.out _ _ ⟨(af ag.out 0).trans rfl, (af ag.out 1).trans rfl, (af ag.out 2).trans rfl, (af ag.out 3).trans rfl, (af ag.out 4).trans rfl, (af ag.out 5).trans rfl, (af ag.out 6).trans rfl, (af ag.out 7).trans rfl⟩ (fun hHeld => ?_)
            clear hK K
            refine gD (some 48) ?_
            refine bL 11 (some 49) HT_ ?_
            refine bL 12 (some 50) HT_ ?_
            refine iW 15 (some 53) HT_ (fun K hK => ?_)
            refine gX Tryz.func37 #[.int .i64 fe] ?_
            with_reducible refine (aM.calls k fe t105 _ A34.out).mono ?_
            rintro e w41 ⟨rfl, hb⟩
            refine ⟨_, rfl, ?_⟩
            replace ag := qbb ag hb
            replace HB := ae.mk (aj (qw HB) hb)
            (try clear hb)
            (try clear hb2)
            (try clear hk)
            (try clear hi)
            refine hK.out _ _ ⟨(af ag.out 0).trans rfl, (af ag.out 1).trans rfl, (af ag.out 2).trans rfl, (af ag.out 3).trans rfl, (af ag.out 4).trans rfl, (af ag.out 5).trans rfl, (af ag.out 6).trans rfl, (af ag.out 7).trans rfl⟩ (fun hHeld => ?_)
            clear hK K
            refine gD (some 53) ?_
            refine bL 16 (some 54) HT_ ?_
            refine bL 17 (some 55) HT_ ?_
            refine bL 18 (some 2) HT_ ?_
            refine jI HT_ ?_
            try go_wp2
            go_ret
            exact ⟨by first | rfl | (simp [errW_none, errW_some] <;> rfl) | (simp [*, errW_none, errW_some] <;> rfl), by repeat (first | (with_reducible first | exact HB.out | apply au | apply ai | apply ak | refine bn ?_ dh.out) | exact HB.out)⟩
           ·rw [if_neg c36] at H
            exact absurd H (by simp)
          ·rw [if_neg c35] at H
           exact absurd H (by simp)
         ·rw [if_neg c33] at H
          exact absurd H (by simp)
        ·rw [if_neg c32] at H
         exact absurd H (by simp)
       ·rw [if_neg c30] at H
        exact absurd H (by simp)
      ·rw [if_neg c29] at H
       exact absurd H (by simp)
     ·rw [if_neg c28] at H
      exact absurd H (by simp)
    ·rw [if_neg c27] at H
     exact absurd H (by simp)
   ·rw [if_neg c26] at H
    have Al : (aD == 3) = false := beq_eq_false_iff_ne.mpr c26
    have Am : (aD != 3) = true := bne_iff_ne.mpr c26
    by_cases c42 : aD = 4
    ·rw [if_pos c42] at H
     have yN : (aD == 4) = true := beq_iff_eq.mpr c42
     have yO : (aD != 4) = false := bne_eq_false_iff_eq.mpr c42
     clear c42
     by_cases c43 : 8 + aA.size ≤ 9223372036854775807
     ·rw [if_pos c43] at H
      have yR := eq_true c43
      have yS : decide (8 + aA.size ≤ 9223372036854775807) = true := decide_eq_true c43
      try have yT : (9223372036854775807 < 8 + aA.size) = False := eq_false (Nat.not_lt.2 c43)
      by_cases c44 : ((⟨#[99, 111, 109, 112, 97, 114, 101, 32]⟩ : ByteArray) ++ aA).size + 1 ≤ 9223372036854775807
      ·rw [if_pos c44] at H
       have DY := eq_true c44
       have Aw : decide (((⟨#[99, 111, 109, 112, 97, 114, 101, 32]⟩ : ByteArray) ++ aA).size + 1 ≤ 9223372036854775807) = true := decide_eq_true c44
       try have DZ : (9223372036854775807 < ((⟨#[99, 111, 109, 112, 97, 114, 101, 32]⟩ : ByteArray) ++ aA).size + 1) = False := eq_false (Nat.not_lt.2 c44)
       (try (have D5 : (9223372036854775807 < 8 + aA.size + 1) = False := eq_false (Nat.not_lt.2 (by have h_ := Aw; simp only [ByteArray.size_append, decide_eq_true_eq] at h_; first | exact h_ | (simp at h_; omega)))))
       by_cases c45 : (((⟨#[99, 111, 109, 112, 97, 114, 101, 32]⟩ : ByteArray) ++ aA) ++ (⟨#[32]⟩ : ByteArray)).size + bU.size ≤ 9223372036854775807
       ·rw [if_pos c45] at H
        have D6 := eq_true c45
        have Ay : decide ((((⟨#[99, 111, 109, 112, 97, 114, 101, 32]⟩ : ByteArray) ++ aA) ++ (⟨#[32]⟩ : ByteArray)).size + bU.size ≤ 9223372036854775807) = true := decide_eq_true c45
        try have D7 : (9223372036854775807 < (((⟨#[99, 111, 109, 112, 97, 114, 101, 32]⟩ : ByteArray) ++ aA) ++ (⟨#[32]⟩ : ByteArray)).size + bU.size) = False := eq_false (Nat.not_lt.2 c45)
        (try (have D8 : (9223372036854775807 < 8 + aA.size + 1 + bU.size) = False := eq_false (Nat.not_lt.2 (by have h_ := Ay; simp only [ByteArray.size_append, decide_eq_true_eq] at h_; first | exact h_ | (simp at h_; omega)))))
        by_cases c46 : ((((⟨#[99, 111, 109, 112, 97, 114, 101, 32]⟩ : ByteArray) ++ aA) ++ (⟨#[32]⟩ : ByteArray)) ++ bU).size + 1 ≤ 9223372036854775807
        ·rw [if_pos c46] at H
         have D9 := eq_true c46
         have Az : decide (((((⟨#[99, 111, 109, 112, 97, 114, 101, 32]⟩ : ByteArray) ++ aA) ++ (⟨#[32]⟩ : ByteArray)) ++ bU).size + 1 ≤ 9223372036854775807) = true := decide_eq_true c46
         try have Ea : (9223372036854775807 < ((((⟨#[99, 111, 109, 112, 97, 114, 101, 32]⟩ : ByteArray) ++ aA) ++ (⟨#[32]⟩ : ByteArray)) ++ bU).size + 1) = False := eq_false (Nat.not_lt.2 c46)
         (try (have Eb : (9223372036854775807 < 8 + aA.size + 1 + bU.size + 1) = False := eq_false (Nat.not_lt.2 (by have h_ := Az; simp only [ByteArray.size_append, decide_eq_true_eq] at h_; first | exact h_ | (simp at h_; omega)))))
         by_cases c47 : (((((⟨#[99, 111, 109, 112, 97, 114, 101, 32]⟩ : ByteArray) ++ aA) ++ (⟨#[32]⟩ : ByteArray)) ++ bU) ++ (⟨#[32]⟩ : ByteArray)).size + bf.size ≤ 9223372036854775807
         ·rw [if_pos c47] at H
          have Ec := eq_true c47
          have AA : decide ((((((⟨#[99, 111, 109, 112, 97, 114, 101, 32]⟩ : ByteArray) ++ aA) ++ (⟨#[32]⟩ : ByteArray)) ++ bU) ++ (⟨#[32]⟩ : ByteArray)).size + bf.size ≤ 9223372036854775807) = true := decide_eq_true c47
          try have Ed : (9223372036854775807 < (((((⟨#[99, 111, 109, 112, 97, 114, 101, 32]⟩ : ByteArray) ++ aA) ++ (⟨#[32]⟩ : ByteArray)) ++ bU) ++ (⟨#[32]⟩ : ByteArray)).size + bf.size) = False := eq_false (Nat.not_lt.2 c47)
          (try (have Ee : (9223372036854775807 < 8 + aA.size + 1 + bU.size + 1 + bf.size) = False := eq_false (Nat.not_lt.2 (by have h_ := AA; simp only [ByteArray.size_append, decide_eq_true_eq] at h_; first | exact h_ | (simp at h_; omega)))))
          by_cases c48 : ((((((⟨#[99, 111, 109, 112, 97, 114, 101, 32]⟩ : ByteArray) ++ aA) ++ (⟨#[32]⟩ : ByteArray)) ++ bU) ++ (⟨#[32]⟩ : ByteArray)) ++ bf).size + 1 ≤ 9223372036854775807
          ·rw [if_pos c48] at H
           have Ef := eq_true c48
           have AB : decide (((((((⟨#[99, 111, 109, 112, 97, 114, 101, 32]⟩ : ByteArray) ++ aA) ++ (⟨#[32]⟩ : ByteArray)) ++ bU) ++ (⟨#[32]⟩ : ByteArray)) ++ bf).size + 1 ≤ 9223372036854775807) = true := decide_eq_true c48
           try have Eg : (9223372036854775807 < ((((((⟨#[99, 111, 109, 112, 97, 114, 101, 32]⟩ : ByteArray) ++ aA) ++ (⟨#[32]⟩ : ByteArray)) ++ bU) ++ (⟨#[32]⟩ : ByteArray)) ++ bf).size + 1) = False := eq_false (Nat.not_lt.2 c48)
           (try (have Eh : (9223372036854775807 < 8 + aA.size + 1 + bU.size + 1 + bf.size + 1) = False := eq_false (Nat.not_lt.2 (by have h_ := AB; simp only [ByteArray.size_append, decide_eq_true_eq] at h_; first | exact h_ | (simp at h_; omega)))))
           replace H := Option.bind_eq_some_iff.mp H
           obtain ⟨bG, A490, H⟩ := H
           replace H : (if (((((((⟨#[99, 111, 109, 112, 97, 114, 101, 32]⟩ : ByteArray) ++ aA) ++ (⟨#[32]⟩ : ByteArray)) ++ bU) ++ (⟨#[32]⟩ : ByteArray)) ++ bf) ++ (⟨#[32]⟩ : ByteArray)).size + bG.size ≤ 9223372036854775807 then (if ((((((((⟨#[99, 111, 109, 112, 97, 114, 101, 32]⟩ : ByteArray) ++ aA) ++ (⟨#[32]⟩ : ByteArray)) ++ bU) ++ (⟨#[32]⟩ : ByteArray)) ++ bf) ++ (⟨#[32]⟩ : ByteArray)) ++ bG).size + 1 ≤ 9223372036854775807 then (some (((((((((⟨#[99, 111, 109, 112, 97, 114, 101, 32]⟩ : ByteArray) ++ aA) ++ (⟨#[32]⟩ : ByteArray)) ++ bU) ++ (⟨#[32]⟩ : ByteArray)) ++ bf) ++ (⟨#[32]⟩ : ByteArray)) ++ bG) ++ (⟨#[59]⟩ : ByteArray))) else (none)) else (none)) = some r := H
           have A49 := ae.mk A490
           clear A490
           by_cases c50 : (((((((⟨#[99, 111, 109, 112, 97, 114, 101, 32]⟩ : ByteArray) ++ aA) ++ (⟨#[32]⟩ : ByteArray)) ++ bU) ++ (⟨#[32]⟩ : ByteArray)) ++ bf) ++ (⟨#[32]⟩ : ByteArray)).size + bG.size ≤ 9223372036854775807
           ·rw [if_pos c50] at H
            have Ei := eq_true c50
            have AJ : decide ((((((((⟨#[99, 111, 109, 112, 97, 114, 101, 32]⟩ : ByteArray) ++ aA) ++ (⟨#[32]⟩ : ByteArray)) ++ bU) ++ (⟨#[32]⟩ : ByteArray)) ++ bf) ++ (⟨#[32]⟩ : ByteArray)).size + bG.size ≤ 9223372036854775807) = true := decide_eq_true c50
            try have Ej : (9223372036854775807 < (((((((⟨#[99, 111, 109, 112, 97, 114, 101, 32]⟩ : ByteArray) ++ aA) ++ (⟨#[32]⟩ : ByteArray)) ++ bU) ++ (⟨#[32]⟩ : ByteArray)) ++ bf) ++ (⟨#[32]⟩ : ByteArray)).size + bG.size) = False := eq_false (Nat.not_lt.2 c50)
            (try (have El : (9223372036854775807 < 8 + aA.size + 1 + bU.size + 1 + bf.size + 1 + bG.size) = False := eq_false (Nat.not_lt.2 (by have h_ := AJ; simp only [ByteArray.size_append, decide_eq_true_eq] at h_; first | exact h_ | (simp at h_; omega)))))
            by_cases c51 : ((((((((⟨#[99, 111, 109, 112, 97, 114, 101, 32]⟩ : ByteArray) ++ aA) ++ (⟨#[32]⟩ : ByteArray)) ++ bU) ++ (⟨#[32]⟩ : ByteArray)) ++ bf) ++ (⟨#[32]⟩ : ByteArray)) ++ bG).size + 1 ≤ 9223372036854775807
            ·rw [if_pos c51] at H
             have Em := eq_true c51
             have AL : decide (((((((((⟨#[99, 111, 109, 112, 97, 114, 101, 32]⟩ : ByteArray) ++ aA) ++ (⟨#[32]⟩ : ByteArray)) ++ bU) ++ (⟨#[32]⟩ : ByteArray)) ++ bf) ++ (⟨#[32]⟩ : ByteArray)) ++ bG).size + 1 ≤ 9223372036854775807) = true := decide_eq_true c51
             try have En : (9223372036854775807 < ((((((((⟨#[99, 111, 109, 112, 97, 114, 101, 32]⟩ : ByteArray) ++ aA) ++ (⟨#[32]⟩ : ByteArray)) ++ bU) ++ (⟨#[32]⟩ : ByteArray)) ++ bf) ++ (⟨#[32]⟩ : ByteArray)) ++ bG).size + 1) = False := eq_false (Nat.not_lt.2 c51)
             (try (have Eo : (9223372036854775807 < 8 + aA.size + 1 + bU.size + 1 + bf.size + 1 + bG.size + 1) = False := eq_false (Nat.not_lt.2 (by have h_ := AL; simp only [ByteArray.size_append, decide_eq_true_eq] at h_; first | exact h_ | (simp at h_; omega)))))
             obtain rfl := Option.some.inj H
             go_enter Tryz.func82, Tryz.ntmps82
             try go_wp2_with (first | ((with_reducible refine bg (N := 1) rfl ?_); refine bE ?hg (N := 1) ?hd (cs := #[.int .i64 aD, .string aA, .string bU, .string bf, .int .u32 eu, .int .u32 fq, .int .i64 fA, .int .i64 fe]) (t := 45) ?hr ?_; (case hd => rfl); (case hg => rfl); (case hr => first | (go_simp; done) | (go_simp; rfl)); intro av hg w52 hbox hb; have ag := ae.mk (hbox); have GW101 := qge HB hg; have dh := qge HB hg; replace HB := ae.mk (aj (qw HB) hb); clear hb hbox hg; have hcz53_0 : w52.cell? ⟨av, 0, none⟩ = some (.int .i64 aD) := (af ag.out 0).trans rfl; have hcz53_1 : w52.cell? ⟨av, 1, none⟩ = some (.string aA) := (af ag.out 1).trans rfl; have hcz53_2 : w52.cell? ⟨av, 2, none⟩ = some (.string bU) := (af ag.out 2).trans rfl; have hcz53_3 : w52.cell? ⟨av, 3, none⟩ = some (.string bf) := (af ag.out 3).trans rfl; have hcz53_4 : w52.cell? ⟨av, 4, none⟩ = some (.int .u32 eu) := (af ag.out 4).trans rfl; have hcz53_5 : w52.cell? ⟨av, 5, none⟩ = some (.int .u32 fq) := (af ag.out 5).trans rfl; have hcz53_6 : w52.cell? ⟨av, 6, none⟩ = some (.int .i64 fA) := (af ag.out 6).trans rfl; have hcz53_7 : w52.cell? ⟨av, 7, none⟩ = some (.int .i64 fe) := (af ag.out 7).trans rfl; have hfz53_0 := ah ag.out 0; have hfz53_1 := ah ag.out 1; have hfz53_2 := ah ag.out 2; have hfz53_3 := ah ag.out 3; have hfz53_4 := ah ag.out 4; have hfz53_5 := ah ag.out 5; have hfz53_6 := ah ag.out 6; have hfz53_7 := ah ag.out 7))
             replace ag := ae.mk (dQ ag.out)
             replace HB := ae.mk (ak HB.out)
             refine iP (n := 18) (S := fun w' => w'.cell? ⟨av, 0, none⟩ = some (.int .i64 aD) ∧ w'.cell? ⟨av, 1, none⟩ = some (.string aA) ∧ w'.cell? ⟨av, 2, none⟩ = some (.string bU) ∧ w'.cell? ⟨av, 3, none⟩ = some (.string bf) ∧ w'.cell? ⟨av, 4, none⟩ = some (.int .u32 eu) ∧ w'.cell? ⟨av, 5, none⟩ = some (.int .u32 fq) ∧ w'.cell? ⟨av, 6, none⟩ = some (.int .i64 fA) ∧ w'.cell? ⟨av, 7, none⟩ = some (.int .i64 fe)) (ds := []) #[bF,bF,bF,bF,bF,bF,bF,bF,bF,bF,bF,bF,bF,bF,bF,bF,bF,bF] (by kernel_rfl) rfl rfl ⟨(af ag.out 0).trans rfl, (af ag.out 1).trans rfl, (af ag.out 2).trans rfl, (af ag.out 3).trans rfl, (af ag.out 4).trans rfl, (af ag.out 5).trans rfl, (af ag.out 6).trans rfl, (af ag.out 7).trans rfl⟩ (fun hHeld => ?_); refine fV aK.zt aK.wN (fun HT_ HW_ => ?_)
             generalize w52.drew = w54 at ag HB hHeld ⊢
             refine bL 0 (some 59) HT_ ?_
             refine bL 4 (some 63) HT_ ?_
             refine bL 8 (some 67) HT_ ?_
             refine bL 12 (some 71) HT_ ?_
             refine fI 1 (some 60) HT_ HW_ hHeld ?_
             refine bL 2 (some 61) HT_ ?_
             refine bL 3 (some 62) HT_ ?_
             refine fI 5 (some 64) HT_ HW_ hHeld ?_
             refine bL 6 (some 65) HT_ ?_
             refine bL 7 (some 66) HT_ ?_
             refine fI 9 (some 68) HT_ HW_ hHeld ?_
             refine bL 10 (some 69) HT_ ?_
             refine bL 11 (some 70) HT_ ?_
             refine fI 13 (some 72) HT_ HW_ hHeld ?_
             refine iW 14 (some 73) HT_ (fun K hK => ?_)
             refine gX Tryz.func30 #[.agg #[.int .u32 fq, .int .i64 fA]] ?_
             with_reducible refine (dU.calls k fq fA bG _ A49.out).mono ?_
             rintro e w55 ⟨rfl, hb⟩
             refine ⟨_, rfl, ?_⟩
             replace ag := qbb ag hb
             replace HB := ae.mk (aj (qw HB) hb)
             (try clear hb)
             (try clear hb2)
             (try clear hk)
             (try clear hi)
             refine hK.out _ _ ⟨(af ag.out 0).trans rfl, (af ag.out 1).trans rfl, (af ag.out 2).trans rfl, (af ag.out 3).trans rfl, (af ag.out 4).trans rfl, (af ag.out 5).trans rfl, (af ag.out 6).trans rfl, (af ag.out 7).trans rfl⟩ (fun hHeld => ?_)
             clear hK K
             refine gD (some 73) ?_
             refine bL 15 (some 74) HT_ ?_
             refine bL 16 (some 75) HT_ ?_
             refine bL 17 (some 2) HT_ ?_
             refine jI HT_ ?_
             try go_wp2
             go_ret
             exact ⟨by first | rfl | (simp [errW_none, errW_some] <;> rfl) | (simp [*, errW_none, errW_some] <;> rfl), by repeat (first | (with_reducible first | exact HB.out | apply au | apply ai | apply ak | refine bn ?_ dh.out) | exact HB.out)⟩
            ·rw [if_neg c51] at H
             exact absurd H (by simp)
           ·rw [if_neg c50] at H
            exact absurd H (by simp)
          ·rw [if_neg c48] at H
           exact absurd H (by simp)
         ·rw [if_neg c47] at H
          exact absurd H (by simp)
        ·rw [if_neg c46] at H
         exact absurd H (by simp)
       ·rw [if_neg c45] at H
        exact absurd H (by simp)
      ·rw [if_neg c44] at H
       exact absurd H (by simp)
     ·rw [if_neg c43] at H
      exact absurd H (by simp)
    ·rw [if_neg c42] at H
     have yN : (aD == 4) = false := beq_eq_false_iff_ne.mpr c42
     have yO : (aD != 4) = true := bne_iff_ne.mpr c42
     obtain rfl := Option.some.inj H
     go_enter Tryz.func82, Tryz.ntmps82
     go_wp2_with (first | ((with_reducible refine bg (N := 1) rfl ?_); refine bE ?hg (N := 1) ?hd (cs := #[.int .i64 aD, .string aA, .string bU, .string bf, .int .u32 eu, .int .u32 fq, .int .i64 fA, .int .i64 fe]) (t := 45) ?hr ?_; (case hd => rfl); (case hg => rfl); (case hr => first | (go_simp; done) | (go_simp; rfl)); intro av hg w56 hbox hb; have ag := ae.mk (hbox); have GW101 := qge HB hg; have dh := qge HB hg; replace HB := ae.mk (aj (qw HB) hb); clear hb hbox hg; have hcz57_0 : w56.cell? ⟨av, 0, none⟩ = some (.int .i64 aD) := (af ag.out 0).trans rfl; have hcz57_1 : w56.cell? ⟨av, 1, none⟩ = some (.string aA) := (af ag.out 1).trans rfl; have hcz57_2 : w56.cell? ⟨av, 2, none⟩ = some (.string bU) := (af ag.out 2).trans rfl; have hcz57_3 : w56.cell? ⟨av, 3, none⟩ = some (.string bf) := (af ag.out 3).trans rfl; have hcz57_4 : w56.cell? ⟨av, 4, none⟩ = some (.int .u32 eu) := (af ag.out 4).trans rfl; have hcz57_5 : w56.cell? ⟨av, 5, none⟩ = some (.int .u32 fq) := (af ag.out 5).trans rfl; have hcz57_6 : w56.cell? ⟨av, 6, none⟩ = some (.int .i64 fA) := (af ag.out 6).trans rfl; have hcz57_7 : w56.cell? ⟨av, 7, none⟩ = some (.int .i64 fe) := (af ag.out 7).trans rfl; have hfz57_0 := ah ag.out 0; have hfz57_1 := ah ag.out 1; have hfz57_2 := ah ag.out 2; have hfz57_3 := ah ag.out 3; have hfz57_4 := ah ag.out 4; have hfz57_5 := ah ag.out 5; have hfz57_6 := ah ag.out 6; have hfz57_7 := ah ag.out 7))
     go_ret
     exact ⟨by first | rfl | (simp [errW_none, errW_some] <;> rfl) | (simp [*, errW_none, errW_some] <;> rfl), by repeat (first | (with_reducible first | exact HB.out | apply au | apply ai | apply ak | refine bn ?_ dh.out) | exact HB.out)⟩
end Go.Proofs.YteidaijpaijgpaaGreatDoor.P
end
section
set_option linter.unusedVariables false
set_option linter.unusedSimpArgs false
namespace Go.Proofs.YteidaijpaijgpaaGreatDoor.Pc
open Go.Proofs.YteidaijpaijgpaaGreatDoor.P Go.Proofs.YteidaijpaijgpaaGreatDoorW.ay Go.Proofs.YteidaijpaijgpaaGreatDoorW.aQ Go.Proofs.YteidaijpaijgpaaGreatDoorW.aZ Go.RowKit
abbrev sp : ByteArray := ⟨#[32]⟩
abbrev wV : ByteArray := ⟨#[59]⟩
def QT (q : Int) (net other from_ : ByteArray) (dest pa pl K : Int) : ByteArray :=
 if q = 1 then jW [⟨#[112, 114, 111, 98]⟩, net, from_, qh dest] sp ++ wV
 else if q = 2 then jW [⟨#[104, 111, 112, 115]⟩, net, from_, qh dest] sp ++ wV
 else if q = 3 then jW [⟨#[119, 105, 116, 104, 105, 110]⟩, net, from_, qh dest, jE K] sp ++ wV
 else if q = 4 then jW [⟨#[99, 111, 109, 112, 97, 114, 101]⟩, net, other, from_, pK pa pl] sp ++ wV
 else ⟨#[]⟩
theorem jT (l : Array UInt8) : (⟨l⟩ : ByteArray).size = l.size := rfl
theorem si (a b c d e s : ByteArray) : (jW [a, b, c, d, e] s) = ((((((((a ++ s) ++ b) ++ s) ++ c) ++ s) ++ d) ++ s) ++ e) := jC (by simp [jW, Lib.join, List.intercalate])
theorem nG (l : List ByteArray) (h1 : l.length ≤ 1000000) (h2 : (l.map (·.size)).sum + l.length ≤ 140737488355328) : aN.f l = some (jW l sp) := by
 unfold aN.f
 rw [qN l _ h1 (by show (l.map (·.size)).sum + l.length * 1 ≤ _; omega), Option.bind_some]
theorem AO (q : Int) (net other from_ : ByteArray) (dest pa pl K : Int) (hn : net.size ≤ 1000) (ho : other.size ≤ 1000) (hf : from_.size ≤ 1000) (hk0 : -4611686018427387904 ≤ K) (hk1 : K ≤ 4611686018427387904) : (QT q net other from_ dest pa pl K).size ≤ 4000 := by
 have h1 := nS dest
 have h2 := qO pa pl
 have h3 := lF K (by omega) (by omega)
 unfold QT
 repeat' split
 all_goals (first | rw [pI] | rw [si] | skip)
 all_goals simp only [iG, jT, List.size_toArray, List.length_cons, List.length_nil]
 all_goals omega
theorem yj (q : Int) (net other from_ : ByteArray) (dest pa pl K : Int) (hn : net.size ≤ 1000) (ho : other.size ≤ 1000) (hf : from_.size ≤ 1000) (hd0 : 0 ≤ dest) (hd1 : dest < 4294967296) (hp0 : 0 ≤ pa) (hp1 : pa < 4294967296)
  (hk0 : -4611686018427387904 ≤ K) (hk1 : K ≤ 4611686018427387904) : Ev (fun k => dz.f k q net other from_ dest pa pl K) (QT q net other from_ dest pa pl K) := by
 have z1 := nS dest
 have z2 := qO pa pl
 have z3 := lF K (by omega) (by omega)
 have zs : ∀ l : List ByteArray, aN.f l = some (jW l sp) → (jW l sp).size + 1 ≤ 9223372036854775807 → Ev (fun k => (aN.f l).bind fun bG => (if bG.size + 1 ≤ 9223372036854775807 then (some (bG ++ (⟨#[59]⟩ : ByteArray))) else (none))) (jW l sp ++ wV) := by
  intro l h1 h2
  refine Ev.now' fun k => ?_
  rw [h1, Option.bind_some, if_pos h2]
 unfold dz.f QT
 refine Ev.bind (pJ dest hd0 hd1) ?_
 by_cases q1 : q = 1
 ·rw [if_pos q1]
  refine Ev.pos q1 (zs _ (nG _ (by simp) (by simp only [List.map_cons, List.map_nil, List.sum_cons, List.sum_nil, jT, List.size_toArray, List.length_cons, List.length_nil]; omega)) ?_)
  rw [pI]; simp only [iG, jT, List.size_toArray, List.length_cons, List.length_nil]; omega
 rw [if_neg q1]
 refine Ev.neg q1 ?_
 by_cases q2 : q = 2
 ·rw [if_pos q2]
  refine Ev.pos q2 (zs _ (nG _ (by simp) (by simp only [List.map_cons, List.map_nil, List.sum_cons, List.sum_nil, jT, List.size_toArray, List.length_cons, List.length_nil]; omega)) ?_)
  rw [pI]; simp only [iG, jT, List.size_toArray, List.length_cons, List.length_nil]; omega
 rw [if_neg q2]
 refine Ev.neg q2 ?_
 by_cases q3 : q = 3
 ·rw [if_pos q3]
  refine Ev.pos q3 (Ev.bind (g := fun _ => strconv_Itoa.f K) (Ev.now' fun _ => qM K (by omega) (by omega)) (zs _ (nG _ (by simp) (by simp only [List.map_cons, List.map_nil, List.sum_cons, List.sum_nil, jT, List.size_toArray, List.length_cons, List.length_nil]; omega)) ?_))
  rw [si]; simp only [iG, jT, List.size_toArray, List.length_cons, List.length_nil]; omega
 rw [if_neg q3]
 refine Ev.neg q3 ?_
 by_cases q4 : q = 4
 ·rw [if_pos q4]
  refine Ev.pos q4 (Ev.bind (uV pa pl hp0 hp1) (zs _ (nG _ (by simp) (by simp only [List.map_cons, List.map_nil, List.sum_cons, List.sum_nil, jT, List.size_toArray, List.length_cons, List.length_nil]; omega)) ?_))
  rw [si]; simp only [iG, jT, List.size_toArray, List.length_cons, List.length_nil]; omega
 rw [if_neg q4]
 exact Ev.neg q4 (Ev.now _)
theorem wW (q : Int) (net other from_ : ByteArray) (dest pa pl K : Int) (hn : net.size ≤ 1000) (ho : other.size ≤ 1000) (hf : from_.size ≤ 1000) (hd0 : 0 ≤ dest) (hd1 : dest < 4294967296) (hp0 : 0 ≤ pa) (hp1 : pa < 4294967296)
  (hk0 : -4611686018427387904 ≤ K) (hk1 : K ≤ 4611686018427387904) : Ev (fun k => aK.f k q net other from_ dest pa pl K) (QT q net other from_ dest pa pl K) := by
 have z1 := nS dest
 have z2 := qO pa pl
 have z3 := lF K (by omega) (by omega)
 unfold aK.f QT
 by_cases q1 : q = 1
 ·rw [if_pos q1, pI]
  refine Ev.pos q1 ?_
  repeat (first | refine Ev.pos (by (try simp only [iG, jT, List.size_toArray, List.length_cons, List.length_nil]); omega) ?_ | refine Ev.bind (kS dest hd0 hd1) ?_)
  exact Ev.now' fun k => congrArg some (jC (by simp))
 rw [if_neg q1]
 refine Ev.neg q1 ?_
 by_cases q2 : q = 2
 ·rw [if_pos q2, pI]
  refine Ev.pos q2 ?_
  repeat (first | refine Ev.pos (by (try simp only [iG, jT, List.size_toArray, List.length_cons, List.length_nil]); omega) ?_ | refine Ev.bind (kS dest hd0 hd1) ?_)
  exact Ev.now' fun k => congrArg some (jC (by simp))
 rw [if_neg q2]
 refine Ev.neg q2 ?_
 by_cases q3 : q = 3
 ·rw [if_pos q3, si]
  refine Ev.pos q3 ?_
  repeat (first | refine Ev.pos (by (try simp only [iG, jT, List.size_toArray, List.length_cons, List.length_nil]); omega) ?_ | refine Ev.bind (kS dest hd0 hd1) ?_ | refine Ev.bind (mG K hk0 hk1) ?_)
  exact Ev.now' fun k => congrArg some (jC (by simp))
 rw [if_neg q3]
 refine Ev.neg q3 ?_
 by_cases q4 : q = 4
 ·rw [if_pos q4, si]
  refine Ev.pos q4 ?_
  repeat (first | refine Ev.pos (by (try simp only [iG, jT, List.size_toArray, List.length_cons, List.length_nil]); omega) ?_ | refine Ev.bind (tQ pa pl hp0 hp1) ?_)
  exact Ev.now' fun k => congrArg some (jC (by simp))
 rw [if_neg q4]
 exact Ev.neg q4 (Ev.now _)
end Go.Proofs.YteidaijpaijgpaaGreatDoor.Pc
end
section
namespace Go.Proofs.YteidaijpaijgpaaGreatDoor.P
open Go.RowKit Go.Proofs.YteidaijpaijgpaaGreatDoorW.ay Go.Proofs.YteidaijpaijgpaaGreatDoorW.aQ Go.Proofs.YteidaijpaijgpaaGreatDoorW.aZ
attribute [local go_sem] bz bA bP bQ bq bu bB bC
set_option linter.unusedVariables false
set_option linter.unusedSimpArgs false
def eQ.f (k : Nat) (aD : Int) (aA : ByteArray) (bU : ByteArray) (bf : ByteArray) (eu : Int) (fq : Int) (fA : Int) (fe : Int) : Option (ByteArray) := (dz.f k aD aA bU bf eu fq fA fe).bind fun aJ => (if aJ.size + 1 ≤ 9223372036854775807 then (some (aJ ++ (⟨#[10]⟩ : ByteArray))) else (none))
theorem eQ.mono : ∀ a0 a1 a2 a3 a4 a5 a6 a7 k, LeO (eQ.f k a0 a1 a2 a3 a4 a5 a6 a7) (eQ.f (k + 1) a0 a1 a2 a3 a4 a5 a6 a7) := by
 intro a0 a1 a2 a3 a4 a5 a6 a7 k
 unfold eQ.f
 repeat' first
   | (with_reducible exact dz.mono _ _ _ _ _ _ _ _ _)
   | (with_reducible exact LeO.refl _)
   | (with_reducible exact LeO.none _)
   | (with_reducible refine LeO.ite ?_ ?_)
   | (with_reducible refine LeO.bind ?_ (fun _ => ?_))
   | exact dz.mono _ _ _ _ _ _ _ _ _
   | exact LeO.none _
   | refine LeO.ite ?_ ?_
   | refine LeO.bind ?_ (fun _ => ?_)
set_option maxHeartbeats 8000000 in
set_option maxRecDepth 100000 in
theorem eQ.calls (k : Nat) (aD : Int) (aA : ByteArray) (bU : ByteArray) (bf : ByteArray) (eu : Int) (fq : Int) (fA : Int) (fe : Int) (r : ByteArray) (w : World) (h : eQ.f k aD aA bU bf eu fq fA fe = some r) (HGT : ae (Go.Proofs.YteidaijpaijgpaaGreatDoorV.GT w)) :
  Calls Tryz.prog 80 #[.agg #[.int .i64 aD, .string aA, .string bU, .string bf, .int .u32 eu, .int .u32 fq, .int .i64 fA, .int .i64 fe]] w fun e w' => e = .returned (.string r) ∧ Below w.heap.size w w' := by
 have hu45 := Tryz.underlying45
 have HB := ae.mk (Below.refl w.heap.size w)
 have H : ((dz.f k aD aA bU bf eu fq fA fe).bind fun aJ => (if aJ.size + 1 ≤ 9223372036854775807 then (some (aJ ++ (⟨#[10]⟩ : ByteArray))) else (none))) = some r := h
 clear h
 replace H := Option.bind_eq_some_iff.mp H
 obtain ⟨aJ, A20, H⟩ := H
 replace H : (if aJ.size + 1 ≤ 9223372036854775807 then (some (aJ ++ (⟨#[10]⟩ : ByteArray))) else (none)) = some r := H
 have A2 := ae.mk A20
 clear A20
 by_cases c3 : aJ.size + 1 ≤ 9223372036854775807
 ·rw [if_pos c3] at H
  have gN := eq_true c3
  have jk : decide (aJ.size + 1 ≤ 9223372036854775807) = true := decide_eq_true c3
  try have zm : (9223372036854775807 < aJ.size + 1) = False := eq_false (Nat.not_lt.2 c3)
  obtain rfl := Option.some.inj H
  go_enter Tryz.func80, Tryz.ntmps80
  go_wp2_with (first | ((with_reducible refine bg (N := 1) rfl ?_); refine bE ?hg (N := 1) ?hd (cs := #[.int .i64 aD, .string aA, .string bU, .string bf, .int .u32 eu, .int .u32 fq, .int .i64 fA, .int .i64 fe]) (t := 45) ?hr ?_; (case hd => rfl); (case hg => rfl); (case hr => first | (go_simp; done) | (go_simp; rfl)); intro av hg w4 hbox hb; have ag := ae.mk (hbox); have GW101 := qge HB hg; have dh := qge HB hg; replace HB := ae.mk (aj (qw HB) hb); clear hb hbox hg; have hcz5_0 : w4.cell? ⟨av, 0, none⟩ = some (.int .i64 aD) := (af ag.out 0).trans rfl; have hcz5_1 : w4.cell? ⟨av, 1, none⟩ = some (.string aA) := (af ag.out 1).trans rfl; have hcz5_2 : w4.cell? ⟨av, 2, none⟩ = some (.string bU) := (af ag.out 2).trans rfl; have hcz5_3 : w4.cell? ⟨av, 3, none⟩ = some (.string bf) := (af ag.out 3).trans rfl; have hcz5_4 : w4.cell? ⟨av, 4, none⟩ = some (.int .u32 eu) := (af ag.out 4).trans rfl; have hcz5_5 : w4.cell? ⟨av, 5, none⟩ = some (.int .u32 fq) := (af ag.out 5).trans rfl; have hcz5_6 : w4.cell? ⟨av, 6, none⟩ = some (.int .i64 fA) := (af ag.out 6).trans rfl; have hcz5_7 : w4.cell? ⟨av, 7, none⟩ = some (.int .i64 fe) := (af ag.out 7).trans rfl; have hfz5_0 := ah ag.out 0; have hfz5_1 := ah ag.out 1; have hfz5_2 := ah ag.out 2; have hfz5_3 := ah ag.out 3; have hfz5_4 := ah ag.out 4; have hfz5_5 := ah ag.out 5; have hfz5_6 := ah ag.out 6; have hfz5_7 := ah ag.out 7) | ((with_reducible refine aH (f := 81) rfl ?_); refine bN (some 4) rfl rfl Tryz.func81 (by kernel_rfl) rfl #[.agg #[.int .i64 aD, .string aA, .string bU, .string bf, .int .u32 eu, .int .u32 fq, .int .i64 fA, .int .i64 fe]] rfl qt ?_; (with_reducible refine (dz.calls k aD aA bU bf eu fq fA fe aJ _ A2.out ?gt).mono ?_); (case gt => exact Go.Proofs.YteidaijpaijgpaaGreatDoorV.GT.below HGT (qw HB)); rintro e w6 ⟨rfl, hb⟩; refine ⟨_, rfl, ?_⟩; replace ag := qbb ag hb; replace HB := ae.mk (aj (qw HB) hb); (try clear hb); (try clear hb2); (try clear hk); (try clear hi)))
  go_ret
  exact ⟨by first | rfl | (simp [errW_none, errW_some] <;> rfl) | (simp [*, errW_none, errW_some] <;> rfl), by repeat (first | (with_reducible first | exact HB.out | apply au | apply ai | apply ak | refine bn ?_ dh.out) | exact HB.out)⟩
 ·rw [if_neg c3] at H
  exact absurd H (by simp)
end Go.Proofs.YteidaijpaijgpaaGreatDoor.P
end
section
namespace Go.Proofs.YteidaijpaijgpaaGreatDoor.P
open Go.RowKit Go.Proofs.YteidaijpaijgpaaGreatDoorW.ay Go.Proofs.YteidaijpaijgpaaGreatDoorW.aQ Go.Proofs.YteidaijpaijgpaaGreatDoorW.aZ
attribute [local go_sem] bz bA bP bQ bq bu bB bC
set_option linter.unusedVariables false
set_option linter.unusedSimpArgs false
def bW.l0 : Nat → List ByteArray → List (S45) → Int → Int → Option (List ByteArray)
 | 0, _, _, _, _ => none
 | k + 1, x5, x11, x12, x13 => if x13 < x12 then (if 0 ≤ x13 then (if x13 < (x11.length : Int) then ((eQ.f k ((aI x11 x13).f0) ((aI x11 x13).f1) ((aI x11 x13).f2) ((aI x11 x13).f3) ((aI x11 x13).f4) ((aI x11 x13).f5.f0) ((aI x11 x13).f5.f1) ((aI x11 x13).f6)).bind fun bG => (if x13 < (x5.length : Int) then (bW.l0 k (x5.set (x13 : Int).toNat bG) x11 x12 (wrap64 (x13 + 1))) else (none))) else (none)) else (none)) else (some x5)
def bW.f (k : Nat) (l0 : List (S45)) (a1 : Bool) : Option (List ByteArray) := if 0 ≤ (l0.length : Int) then (if ((l0.length : Int) : Int).toNat ≤ 17592186044416 then (bW.l0 k (List.replicate ((l0.length : Int) : Int).toNat (⟨#[]⟩ : ByteArray)) l0 (l0.length : Int) 0) else (none)) else (none)
theorem bW.dF : ∀ k, (∀ y0 y1 y2 y3, LeO (bW.l0 k y0 y1 y2 y3) (bW.l0 (k + 1) y0 y1 y2 y3))
 | 0 => fun _ _ _ _ r h => by simp [bW.l0] at h
 | k + 1 => by
  have ih0 := bW.dF k
  ·intro y0 y1 y2 y3
   unfold bW.l0
   repeat' first
   | (with_reducible exact ih0 _ _ _ _)
   | (with_reducible exact eQ.mono _ _ _ _ _ _ _ _ _)
   | (with_reducible exact LeO.refl _)
   | (with_reducible exact LeO.none _)
   | (with_reducible refine LeO.ite ?_ ?_)
   | (with_reducible refine LeO.bind ?_ (fun _ => ?_))
   | exact ih0 _ _ _ _
   | exact eQ.mono _ _ _ _ _ _ _ _ _
   | exact LeO.none _
   | refine LeO.ite ?_ ?_
   | refine LeO.bind ?_ (fun _ => ?_)
theorem bW.mono : ∀ a0 a1 k, LeO (bW.f k a0 a1) (bW.f (k + 1) a0 a1) := by
 intro a0 a1 k
 have ih0 := bW.dF k
 unfold bW.f
 repeat' first
   | (with_reducible exact ih0 _ _ _ _)
   | (with_reducible exact eQ.mono _ _ _ _ _ _ _ _ _)
   | (with_reducible exact LeO.refl _)
   | (with_reducible exact LeO.none _)
   | (with_reducible refine LeO.ite ?_ ?_)
   | (with_reducible refine LeO.bind ?_ (fun _ => ?_))
   | exact ih0 _ _ _ _
   | exact eQ.mono _ _ _ _ _ _ _ _ _
   | exact LeO.none _
   | refine LeO.ite ?_ ?_
   | refine LeO.bind ?_ (fun _ => ?_)
set_option maxHeartbeats 8000000 in
set_option maxRecDepth 100000 in
theorem bW.calls (k : Nat) (A0 : Option Addr) (c0 : Nat) (l0 : List (S45)) (a1 : Bool) (r : List ByteArray) (w : World) (hr0 : Kd.C k45 w A0 l0.length l0) (hc0 : l0.length ≤ c0) (h : bW.f k l0 a1 = some r) (HGT : ae (Go.Proofs.YteidaijpaijgpaaGreatDoorV.GT w)) :
  Calls Tryz.prog 79 #[.slice A0 l0.length c0, .func (.func 80) #[] #[]] w fun e w' => ∃ v0_ : Value, e = .returned (v0_) ∧ Kd.R Kd.string 9 w' w.heap.size (fun _ => True) v0_ r ∧ Below w.heap.size w w' := by
 have hu45 := Tryz.underlying45
 have HR0 := ae.mk hr0
 have HC0 := ae.mk hc0
 clear hr0 hc0
 have HB := ae.mk (Below.refl w.heap.size w)
 have H : (if 0 ≤ (l0.length : Int) then (if ((l0.length : Int) : Int).toNat ≤ 17592186044416 then (bW.l0 k (List.replicate ((l0.length : Int) : Int).toNat (⟨#[]⟩ : ByteArray)) l0 (l0.length : Int) 0) else (none)) else (none)) = some r := h
 clear h
 by_cases c3 : 0 ≤ (l0.length : Int)
 ·rw [if_pos c3] at H
  have gN := eq_true c3
  have jk : decide (0 ≤ (l0.length : Int)) = true := decide_eq_true c3
  clear c3
  by_cases c4 : ((l0.length : Int) : Int).toNat ≤ 17592186044416
  ·rw [if_pos c4] at H
   have iQ := eq_true c4
   have jv : decide (((l0.length : Int) : Int).toNat ≤ 17592186044416) = true := decide_eq_true c4
   clear c4
   obtain ⟨y101, hy101⟩ : ∃ y_ : List ByteArray, y_ = (List.replicate ((l0.length : Int) : Int).toNat (⟨#[]⟩ : ByteArray)) := ⟨_, rfl⟩
   replace H : (bW.l0 k y101 l0 (l0.length : Int) 0) = some r := by first | (rw [hy101]; with_reducible exact H) | (have H2_ := (Option.bind_some _ _).symm.trans H; rw [hy101]; with_reducible exact H2_) | (have H2_ := (Option.bind_some _ _).symm.trans H; with_reducible exact H2_) | with_reducible exact H | (rw [hy101]; exact H) | exact H
   have Ny101 := ae.mk hy101
   clear hy101
   have H' := ae.mk H
   clear H
   go_enter Tryz.func79, Tryz.ntmps79
   go_wp2_with (first | ((with_reducible refine bg (N := 10) rfl ?_); refine Kd.kC Kd.string _ 9 rfl (N := 10) rfl 40 _ _ rfl (l0.length : Int) rfl rfl Tryz.underlying40 (.string ⟨#[]⟩) 16 nC rfl (by decide) (by omega) (⟨#[]⟩ : ByteArray) (ok := fun _ => True) (okp := fun _ => True) rfl (fun _ hk => hk) trivial (of_decide_eq_true qa) (Nat.le_trans (Nat.mul_le_mul_right _ (of_decide_eq_true qa : (l0.length : Int).toNat ≤ 17592186044416)) (by omega)) (Below.refl _ _) (Nat.le_refl _) ?_; intro v102 w5 ho6 hb hg_ hnew_; clear hg_ hnew_; (first | rw [← Ny101.out] at ho6 | (simp only [Int.reduceToNat] at ho6; rw [← Ny101.out] at ho6)); have eX := ae.mk (Kd.dI ho6 (bi (qw HB))); replace HB := ae.mk (aj (qw HB) hb); clear hb ho6))
   go_loopg [13] k (fun kq v13 w' => ∃ (cZ : List ByteArray) (ax : Int), v13 = .int .i64 ax ∧ ae (bW.l0 kq cZ l0 (l0.length : Int) ax = some r) ∧ ae (kq ≤ k) ∧ ae (Kd.R Kd.string 9 w' w.heap.size (fun _ => True) v102 cZ) ∧ ae (Below w.heap.size w w'))
   case atStart => exact ⟨(y101), (0), (by first | rfl | (simp; done) | (simp [*]; done)), H', ⟨Nat.le_refl _⟩, ⟨by (with_reducible repeat (first | apply Kd.di | apply Kd.dm | apply Kd.dR)); exact eX.out⟩, ⟨by repeat (first | (with_reducible first | exact HB.out | apply au | apply ai | apply ak) | exact HB.out)⟩⟩
   case round =>
    clear H'
    try clear p2
    try clear c3
    try clear gN
    try clear jk
    try clear c4
    try clear iQ
    try clear jv
    obtain ⟨cZ, ax, rfl, HA, HK1, bM, HB⟩ := hrel
    cases gk with
    | zero => exact absurd HA.out (by simp [bW.l0])
    | succ k1 =>
     have H := HA.out
     clear HA
     simp only [bW.l0] at H
     by_cases c7 : ax < (l0.length : Int)
     ·rw [if_pos c7] at H
      have jg : decide (ax < (l0.length : Int)) = true := decide_eq_true c7
      clear c7
      by_cases c8 : 0 ≤ ax
      ·rw [if_pos c8] at H
       have kK : decide (0 ≤ ax) = true := decide_eq_true c8
       clear c8
       by_cases c9 : ax < (l0.length : Int)
       ·rw [if_pos c9] at H
        have lT : decide (ax < (l0.length : Int)) = true := decide_eq_true c9
        clear c9
        replace H := Option.bind_eq_some_iff.mp H
        obtain ⟨bG, A100, H⟩ := H
        replace H : (if ax < (cZ.length : Int) then (bW.l0 k1 (cZ.set (ax : Int).toNat bG) l0 (l0.length : Int) (wrap64 (ax + 1))) else (none)) = some r := H
        have A10 := ae.mk A100
        clear A100
        by_cases c11 : ax < (cZ.length : Int)
        ·rw [if_pos c11] at H
         have lq : decide (ax < (cZ.length : Int)) = true := decide_eq_true c11
         clear c11
         obtain ⟨y107, hy107⟩ : ∃ y_ : List ByteArray, y_ = (cZ.set (ax : Int).toNat bG) := ⟨_, rfl⟩
         replace H : (bW.l0 k1 y107 l0 (l0.length : Int) (wrap64 (ax + 1))) = some r := by first | (rw [hy107]; with_reducible exact H) | (have H2_ := (Option.bind_some _ _).symm.trans H; rw [hy107]; with_reducible exact H2_) | (have H2_ := (Option.bind_some _ _).symm.trans H; with_reducible exact H2_) | with_reducible exact H | (rw [hy107]; exact H) | exact H
         have Ny107 := ae.mk hy107
         clear hy107
         have H' := ae.mk H
         clear H
         have p104 : 0 ≤ (ax : Int) := of_decide_eq_true qa
         have q104 : ax < (l0.length : Int) := of_decide_eq_true qa
         obtain ⟨ad104, e104, hx104_0, hx104_1, hx104_2, hx104_3, hx104_4, hx104_5, hx104_6, hx104_7⟩ := ma HR0.out ax p104 q104
         cases e104
         replace hx104_0 := (HB.out.cell (World.block_lt_of_cell? w _ hx104_0)).trans hx104_0
         replace hx104_1 := (HB.out.cell (World.block_lt_of_cell? w _ hx104_1)).trans hx104_1
         replace hx104_2 := (HB.out.cell (World.block_lt_of_cell? w _ hx104_2)).trans hx104_2
         replace hx104_3 := (HB.out.cell (World.block_lt_of_cell? w _ hx104_3)).trans hx104_3
         replace hx104_4 := (HB.out.cell (World.block_lt_of_cell? w _ hx104_4)).trans hx104_4
         replace hx104_5 := (HB.out.cell (World.block_lt_of_cell? w _ hx104_5)).trans hx104_5
         replace hx104_6 := (HB.out.cell (World.block_lt_of_cell? w _ hx104_6)).trans hx104_6
         replace hx104_7 := (HB.out.cell (World.block_lt_of_cell? w _ hx104_7)).trans hx104_7
         replace p104 := eq_true p104
         replace q104 := eq_true q104
         go_wp2_with (first | ((with_reducible refine bg (N := 7) rfl ?_); refine bE ?hg (N := 7) ?hd (cs := #[.int .i64 0, .string (⟨#[]⟩ : ByteArray), .string (⟨#[]⟩ : ByteArray), .string (⟨#[]⟩ : ByteArray), .int .u32 0, .int .u32 0, .int .i64 0, .int .i64 0]) (t := 45) ?hr ?_; (case hd => rfl); (case hg => rfl); (case hr => first | (go_simp; done) | (go_simp; rfl)); intro eB hg w13 hbox hb; replace bM := ae.mk (Kd.bD (qr bM) hb); have cO := ae.mk (hbox); have GW105 := qge HB hg; have lu := qge HB hg; replace HB := ae.mk (aj (qw HB) hb); clear hb hbox hg; have hcz14_0 : w13.cell? ⟨eB, 0, none⟩ = some (.int .i64 0) := (af cO.out 0).trans rfl; have hcz14_1 : w13.cell? ⟨eB, 1, none⟩ = some (.string (⟨#[]⟩ : ByteArray)) := (af cO.out 1).trans rfl; have hcz14_2 : w13.cell? ⟨eB, 2, none⟩ = some (.string (⟨#[]⟩ : ByteArray)) := (af cO.out 2).trans rfl; have hcz14_3 : w13.cell? ⟨eB, 3, none⟩ = some (.string (⟨#[]⟩ : ByteArray)) := (af cO.out 3).trans rfl; have hcz14_4 : w13.cell? ⟨eB, 4, none⟩ = some (.int .u32 0) := (af cO.out 4).trans rfl; have hcz14_5 : w13.cell? ⟨eB, 5, none⟩ = some (.int .u32 0) := (af cO.out 5).trans rfl; have hcz14_6 : w13.cell? ⟨eB, 6, none⟩ = some (.int .i64 0) := (af cO.out 6).trans rfl; have hcz14_7 : w13.cell? ⟨eB, 7, none⟩ = some (.int .i64 0) := (af cO.out 7).trans rfl; have hfz14_0 := ah cO.out 0; have hfz14_1 := ah cO.out 1; have hfz14_2 := ah cO.out 2; have hfz14_3 := ah cO.out 3; have hfz14_4 := ah cO.out 4; have hfz14_5 := ah cO.out 5; have hfz14_6 := ah cO.out 6; have hfz14_7 := ah cO.out 7) | ((with_reducible refine Go.Proofs.YteidaijpaijgpaaGreatDoorV.eG (s := 20) rfl ?_); refine Go.Proofs.YteidaijpaijgpaaGreatDoorV.gW (some 22) rfl rfl Tryz.func80 (by kernel_rfl) rfl #[.agg #[.int .i64 ((aI l0 ax).f0), .string ((aI l0 ax).f1), .string ((aI l0 ax).f2), .string ((aI l0 ax).f3), .int .u32 ((aI l0 ax).f4), .int .u32 ((aI l0 ax).f5.f0), .int .i64 ((aI l0 ax).f5.f1), .int .i64 ((aI l0 ax).f6)]] rfl qt ?_; (with_reducible refine (eQ.calls k1 ((aI l0 ax).f0) ((aI l0 ax).f1) ((aI l0 ax).f2) ((aI l0 ax).f3) ((aI l0 ax).f4) ((aI l0 ax).f5.f0) ((aI l0 ax).f5.f1) ((aI l0 ax).f6) bG _ A10.out ?gt).mono ?_); (case gt => exact Go.Proofs.YteidaijpaijgpaaGreatDoorV.GT.below HGT (qw HB)); rintro e w15 ⟨rfl, hb⟩; refine ⟨_, rfl, ?_⟩; replace bM := ae.mk (Kd.bD (by (with_reducible repeat (first | apply Kd.di | apply Kd.dm | apply Kd.dR)); exact (Kd.gu (Kd.iI (p := ⟨eB, 7, none⟩) (Kd.iI (p := ⟨eB, 6, none⟩) (Kd.iI (p := ⟨eB, 5, none⟩) (Kd.iI (p := ⟨eB, 4, none⟩) (Kd.iI (p := ⟨eB, 3, none⟩) (Kd.iI (p := ⟨eB, 2, none⟩) (Kd.iI (p := ⟨eB, 1, none⟩) (Kd.iI (p := ⟨eB, 0, none⟩) (Kd.lC bM.out cO.out (by decide)) (fun _ hk => hk.2) (.int .i64 ((aI l0 ax).f0))) (fun _ hk => hk.2) (.string ((aI l0 ax).f1))) (fun _ hk => hk.2) (.string ((aI l0 ax).f2))) (fun _ hk => hk.2) (.string ((aI l0 ax).f3))) (fun _ hk => hk.2) (.int .u32 ((aI l0 ax).f4))) (fun _ hk => hk.2) (.int .u32 ((aI l0 ax).f5.f0))) (fun _ hk => hk.2) (.int .i64 ((aI l0 ax).f5.f1))) (fun _ hk => hk.2) (.int .i64 ((aI l0 ax).f6))) (fun _ h_ => h_.1))) hb); replace cO := ae.mk (ji (g := eB) (o := .cells #[.int .i64 ((aI l0 ax).f0), .string ((aI l0 ax).f1), .string ((aI l0 ax).f2), .string ((aI l0 ax).f3), .int .u32 ((aI l0 ax).f4), .int .u32 ((aI l0 ax).f5.f0), .int .i64 ((aI l0 ax).f5.f1), .int .i64 ((aI l0 ax).f6)] 45 (0, 0)) (by refine dL (cs := #[.int .i64 ((aI l0 ax).f0), .string ((aI l0 ax).f1), .string ((aI l0 ax).f2), .string ((aI l0 ax).f3), .int .u32 ((aI l0 ax).f4), .int .u32 ((aI l0 ax).f5.f0), .int .i64 ((aI l0 ax).f5.f1), .int .i64 0]) ?_ 7 _ rfl; refine dL (cs := #[.int .i64 ((aI l0 ax).f0), .string ((aI l0 ax).f1), .string ((aI l0 ax).f2), .string ((aI l0 ax).f3), .int .u32 ((aI l0 ax).f4), .int .u32 ((aI l0 ax).f5.f0), .int .i64 0, .int .i64 0]) ?_ 6 _ rfl; refine dL (cs := #[.int .i64 ((aI l0 ax).f0), .string ((aI l0 ax).f1), .string ((aI l0 ax).f2), .string ((aI l0 ax).f3), .int .u32 ((aI l0 ax).f4), .int .u32 0, .int .i64 0, .int .i64 0]) ?_ 5 _ rfl; refine dL (cs := #[.int .i64 ((aI l0 ax).f0), .string ((aI l0 ax).f1), .string ((aI l0 ax).f2), .string ((aI l0 ax).f3), .int .u32 0, .int .u32 0, .int .i64 0, .int .i64 0]) ?_ 4 _ rfl; refine dL (cs := #[.int .i64 ((aI l0 ax).f0), .string ((aI l0 ax).f1), .string ((aI l0 ax).f2), .string (⟨#[]⟩ : ByteArray), .int .u32 0, .int .u32 0, .int .i64 0, .int .i64 0]) ?_ 3 _ rfl; refine dL (cs := #[.int .i64 ((aI l0 ax).f0), .string ((aI l0 ax).f1), .string (⟨#[]⟩ : ByteArray), .string (⟨#[]⟩ : ByteArray), .int .u32 0, .int .u32 0, .int .i64 0, .int .i64 0]) ?_ 2 _ rfl; refine dL (cs := #[.int .i64 ((aI l0 ax).f0), .string (⟨#[]⟩ : ByteArray), .string (⟨#[]⟩ : ByteArray), .string (⟨#[]⟩ : ByteArray), .int .u32 0, .int .u32 0, .int .i64 0, .int .i64 0]) ?_ 1 _ rfl; refine dL (cs := #[.int .i64 0, .string (⟨#[]⟩ : ByteArray), .string (⟨#[]⟩ : ByteArray), .string (⟨#[]⟩ : ByteArray), .int .u32 0, .int .u32 0, .int .i64 0, .int .i64 0]) ?_ 0 _ rfl; (with_reducible repeat (first | refine gz ?_ _ | refine dQ ?_ | refine gy ?_ _)); exact cO.out) hb); replace HB := ae.mk (aj (qw HB) hb); (try clear hb); (try clear hb2); (try clear hk); (try clear hi); have p12 : 0 ≤ (ax : Int) := of_decide_eq_true qa; have q12 : (ax : Int) < ((cZ.length : Int) : Int) := of_decide_eq_true qa; obtain ⟨go12, kF, jr, kG, gl12, cl12, HG12⟩ := Kd.kz bM.out (by omega); (first | cases jr | (injection jr with ea_ en_ ec_; (first | subst ea_ | (injection ea_ with ea_; subst ea_)); subst ec_; clear en_)); have mZ := ae.mk kG; have GG12 := ae.mk HG12; clear kG gl12 HG12; obtain ⟨hx12_0, hf12_0⟩ := Kd.ib (⟨#[]⟩ : ByteArray) bM.out (ax : Int) p12 q12; replace p12 := eq_true p12; replace q12 := eq_true q12; obtain ⟨hy16_, hz16_⟩ := Kd.ib (⟨#[]⟩ : ByteArray) bM.out (ax : Int) (of_decide_eq_true qa) (of_decide_eq_true qa); have HP16 := Kd.kD bM.out (ax : Int) bG) | ((with_reducible refine iD (t := 9) (p := 23) rfl ?_); refine ic (t := 9) (p := 23) (v := ?vo_w17) (w1 := (w15.setCell ⟨go12, (ax : Int).toNat, none⟩ (.string bG))) ?hg ?ho ?hn ?hr ?_; (case ho => rfl); (case hg => rfl); (case hn => rfl); (case hr => first | (go_simp; done) | (go_simp; rfl)); intro w17 hw; have hg : w15.grownBy w17 (some go12) := (by rw [hw]; exact HP16.2); have hp_ : Kd.R Kd.string 9 w17 w.heap.size (fun _ => True) (.slice (some ⟨go12, 0, none⟩) cZ.length kF) y107 := (by rw [hw, Ny107.out]; exact HP16.1); clear HP16; replace cO := ae.mk (jO (g := eB) (o := .cells #[.int .i64 ((aI l0 ax).f0), .string ((aI l0 ax).f1), .string ((aI l0 ax).f2), .string ((aI l0 ax).f3), .int .u32 ((aI l0 ax).f4), .int .u32 ((aI l0 ax).f5.f0), .int .i64 ((aI l0 ax).f5.f1), .int .i64 ((aI l0 ax).f6)] 45 (0, 0)) (qb cO) hg (Kd.sN bM.out cO.out (by decide))); replace bM := ae.mk (hp_); replace HB := ae.mk ((by rw [hw]; exact bn (HB.out) mZ.out : Below w.heap.size w w17)); clear hg hw hp_))
         go_roundg k1
         case measure => have := HK1.out; omega
         case rel => exact ⟨(y107), (wrap64 (ax + 1)), (by first | rfl | (simp; done) | (simp [*]; done)), H', ⟨by have := HK1.out; omega⟩, ⟨by (with_reducible repeat (first | apply Kd.di | apply Kd.dm | apply Kd.dR)); exact bM.out⟩, ⟨by repeat (first | (with_reducible first | exact HB.out | apply au | apply ai | apply ak | refine bn ?_ lu.out) | exact HB.out)⟩⟩
        ·rw [if_neg c11] at H
         exact absurd H (by simp)
       ·rw [if_neg c9] at H
        exact absurd H (by simp)
      ·rw [if_neg c8] at H
       exact absurd H (by simp)
     ·rw [if_neg c7] at H
      have jg : decide (ax < (l0.length : Int)) = false := decide_eq_false c7
      clear c7
      obtain rfl := Option.some.inj H
      go_wp2
      go_ret
      exact ⟨_, by first | rfl | (simp [errW_none, errW_some] <;> rfl) | (simp [*, errW_none, errW_some] <;> rfl), by (with_reducible repeat (first | apply Kd.di | apply Kd.dm | apply Kd.dR)); exact bM.out, by repeat (first | (with_reducible first | exact HB.out | apply au | apply ai | apply ak) | exact HB.out)⟩
  ·rw [if_neg c4] at H
   exact absurd H (by simp)
 ·rw [if_neg c3] at H
  exact absurd H (by simp)
end Go.Proofs.YteidaijpaijgpaaGreatDoor.P
end
section
namespace Go.Proofs.YteidaijpaijgpaaGreatDoor.P
open Go.RowKit Go.Proofs.YteidaijpaijgpaaGreatDoorW.ay Go.Proofs.YteidaijpaijgpaaGreatDoorW.aQ Go.Proofs.YteidaijpaijgpaaGreatDoorW.aZ
attribute [local go_sem] bz bA bP bQ bq bu bB bC
set_option linter.unusedVariables false
set_option linter.unusedSimpArgs false
def fD.f (k : Nat) (l0 : List (S45)) : Option (ByteArray) := (bW.f k l0 uA).bind fun bR => ((strings_Join.f bR (⟨#[]⟩ : ByteArray)).bind fun bH => (some bH))
theorem fD.mono : ∀ a0 k, LeO (fD.f k a0) (fD.f (k + 1) a0) := by
 intro a0 k
 unfold fD.f
 repeat' first
   | (with_reducible exact bW.mono _ _ _)
   | (with_reducible exact LeO.refl _)
   | (with_reducible exact LeO.none _)
   | (with_reducible refine LeO.ite ?_ ?_)
   | (with_reducible refine LeO.bind ?_ (fun _ => ?_))
   | exact bW.mono _ _ _
   | exact LeO.none _
   | refine LeO.ite ?_ ?_
   | refine LeO.bind ?_ (fun _ => ?_)
set_option maxHeartbeats 8000000 in
set_option maxRecDepth 100000 in
theorem fD.calls (k : Nat) (A0 : Option Addr) (c0 : Nat) (l0 : List (S45)) (r : ByteArray) (w : World) (hr0 : Kd.C k45 w A0 l0.length l0) (hc0 : l0.length ≤ c0) (h : fD.f k l0 = some r) (HGT : ae (Go.Proofs.YteidaijpaijgpaaGreatDoorV.GT w)) :
  Calls Tryz.prog 43 #[.slice A0 l0.length c0] w fun e w' => e = .returned (.string r) ∧ Below w.heap.size w w' := by
 have HR0 := ae.mk hr0
 have HC0 := ae.mk hc0
 clear hr0 hc0
 have HB := ae.mk (Below.refl w.heap.size w)
 have H : ((bW.f k l0 uA).bind fun bR => ((strings_Join.f bR (⟨#[]⟩ : ByteArray)).bind fun bH => (some bH))) = some r := h
 clear h
 replace H := Option.bind_eq_some_iff.mp H
 obtain ⟨bR, A20, H⟩ := H
 replace H : ((strings_Join.f bR (⟨#[]⟩ : ByteArray)).bind fun bH => (some bH)) = some r := H
 have A2 := ae.mk A20
 clear A20
 replace H := Option.bind_eq_some_iff.mp H
 obtain ⟨bH, A30, H⟩ := H
 replace H : (some bH) = some r := H
 have A3 := ae.mk A30
 clear A30
 obtain rfl := Option.some.inj H
 go_enter Tryz.func43, Tryz.ntmps43
 go_wp2_with (first | ((with_reducible refine aH (f := 79) rfl ?_); refine bN (some 4) rfl rfl Tryz.func79 (by kernel_rfl) rfl #[.slice A0 l0.length c0, .func (.func 80) #[] #[]] rfl qt ?_; (with_reducible refine (bW.calls k _ _ l0 uA bR _ ?aX ?aY A2.out ?gt).mono ?_); (case gt => exact Go.Proofs.YteidaijpaijgpaaGreatDoorV.GT.below HGT (qw HB)); (case aX => exact qs (HR0.out)); (case aY => exact HC0.out); rintro e w4 ⟨v102, rfl, ho0, hb⟩; refine ⟨_, rfl, ?_⟩; have eX := ae.mk (Kd.dI ho0 (bi (qw HB))); replace HB := ae.mk (aj (qw HB) hb); (try clear hb); (try clear hb2); (try clear hk); (try clear hi); (try clear ho0); obtain ⟨Ao5, co5, eo5⟩ := Kd.dM eX.out; subst eo5) | ((with_reducible refine aH (f := 26) rfl ?_); refine bN (some 5) rfl rfl Tryz.func26 (by kernel_rfl) rfl #[.slice Ao5 bR.length co5, .string (⟨#[]⟩ : ByteArray)] rfl qt ?_; (with_reducible refine (strings_Join.calls _ _ bR (⟨#[]⟩ : ByteArray) bH _ ?aX ?aY A3.out).mono ?_); (case aX => exact qs ((Kd.aV eX.out).2.2)); (case aY => exact (Kd.aV eX.out).2.1); rintro e w6 ⟨rfl, hb⟩; refine ⟨_, rfl, ?_⟩; replace eX := ae.mk (Kd.bD (qr eX) hb); replace HB := ae.mk (aj (qw HB) hb); (try clear hb); (try clear hb2); (try clear hk); (try clear hi)))
 go_ret
 exact ⟨by first | rfl | (simp [errW_none, errW_some] <;> rfl) | (simp [*, errW_none, errW_some] <;> rfl), by repeat (first | (with_reducible first | exact HB.out | apply au | apply ai | apply ak) | exact HB.out)⟩
end Go.Proofs.YteidaijpaijgpaaGreatDoor.P
end
section
namespace Go.Proofs.YteidaijpaijgpaaGreatDoor.P
open Go.RowKit Go.Proofs.YteidaijpaijgpaaGreatDoorW.ay Go.Proofs.YteidaijpaijgpaaGreatDoorW.aQ Go.Proofs.YteidaijpaijgpaaGreatDoorW.aZ
attribute [local go_sem] bz bA bP bQ bq bu bB bC
set_option linter.unusedVariables false
set_option linter.unusedSimpArgs false
def bX.l0 : Nat → List (S45) → ByteArray → Int → Option (ByteArray)
 | 0, _, _, _ => none
 | k + 1, x0, x3, x4 => if x4 < (x0.length : Int) then (if 0 ≤ x4 then ((aK.f k ((aI x0 x4).f0) ((aI x0 x4).f1) ((aI x0 x4).f2) ((aI x0 x4).f3) ((aI x0 x4).f4) ((aI x0 x4).f5.f0) ((aI x0 x4).f5.f1) ((aI x0 x4).f6)).bind fun aJ => (if aJ.size + 1 ≤ 9223372036854775807 then (if x3.size + (aJ ++ (⟨#[10]⟩ : ByteArray)).size ≤ 9223372036854775807 then (bX.l0 k x0 (x3 ++ (aJ ++ (⟨#[10]⟩ : ByteArray))) (wrap64 (x4 + 1))) else (none)) else (none))) else (none)) else (some x3)
def bX.f (k : Nat) (l0 : List (S45)) : Option (ByteArray) := bX.l0 k l0 (⟨#[]⟩ : ByteArray) 0
set_option maxHeartbeats 8000000 in
set_option maxRecDepth 100000 in
theorem bX.calls (k : Nat) (A0 : Option Addr) (c0 : Nat) (l0 : List (S45)) (r : ByteArray) (w : World) (hr0 : Kd.C k45 w A0 l0.length l0) (hc0 : l0.length ≤ c0) (h : bX.f k l0 = some r) :
  Calls Tryz.prog 44 #[.slice A0 l0.length c0] w fun e w' => e = .returned (.string r) ∧ Below w.heap.size w w' := by
 have hu45 := Tryz.underlying45
 have HR0 := ae.mk hr0
 have HC0 := ae.mk hc0
 clear hr0 hc0
 have HB := ae.mk (Below.refl w.heap.size w)
 have H : (bX.l0 k l0 (⟨#[]⟩ : ByteArray) 0) = some r := h
 clear h
 have H' := ae.mk H
 clear H
 go_enter Tryz.func44, Tryz.ntmps44
 go_wp2
 go_loopg [3, 4] k (fun kq v3 v4 w' => ∃ (fu : ByteArray) (fH : Int), v3 = .string fu ∧ v4 = .int .i64 fH ∧ ae (bX.l0 kq l0 fu fH = some r) ∧ ae (kq ≤ k) ∧ ae (Below w.heap.size w w'))
 case atStart => exact ⟨((⟨#[]⟩ : ByteArray)), (0), (by first | rfl | (simp; done) | (simp [*]; done)), (by first | rfl | (simp; done) | (simp [*]; done)), H', ⟨Nat.le_refl _⟩, ⟨by repeat (first | (with_reducible first | exact HB.out | apply au | apply ai | apply ak) | exact HB.out)⟩⟩
 case round =>
  clear H'
  obtain ⟨fu, fH, rfl, rfl, HA, HK1, HB⟩ := hrel
  cases gk with
  | zero => exact absurd HA.out (by simp [bX.l0])
  | succ k1 =>
   have H := HA.out
   clear HA
   simp only [bX.l0] at H
   by_cases c2 : fH < (l0.length : Int)
   ·rw [if_pos c2] at H
    have jF : decide (fH < (l0.length : Int)) = true := decide_eq_true c2
    clear c2
    by_cases c3 : 0 ≤ fH
    ·rw [if_pos c3] at H
     have gN : decide (0 ≤ fH) = true := decide_eq_true c3
     clear c3
     replace H := Option.bind_eq_some_iff.mp H
     obtain ⟨aJ, A40, H⟩ := H
     replace H : (if aJ.size + 1 ≤ 9223372036854775807 then (if fu.size + (aJ ++ (⟨#[10]⟩ : ByteArray)).size ≤ 9223372036854775807 then (bX.l0 k1 l0 (fu ++ (aJ ++ (⟨#[10]⟩ : ByteArray))) (wrap64 (fH + 1))) else (none)) else (none)) = some r := H
     have A4 := ae.mk A40
     clear A40
     by_cases c5 : aJ.size + 1 ≤ 9223372036854775807
     ·rw [if_pos c5] at H
      have jG := eq_true c5
      have lS : decide (aJ.size + 1 ≤ 9223372036854775807) = true := decide_eq_true c5
      try have tJ : (9223372036854775807 < aJ.size + 1) = False := eq_false (Nat.not_lt.2 c5)
      by_cases c6 : fu.size + (aJ ++ (⟨#[10]⟩ : ByteArray)).size ≤ 9223372036854775807
      ·rw [if_pos c6] at H
       have kE := eq_true c6
       have tK : decide (fu.size + (aJ ++ (⟨#[10]⟩ : ByteArray)).size ≤ 9223372036854775807) = true := decide_eq_true c6
       try have zn : (9223372036854775807 < fu.size + (aJ ++ (⟨#[10]⟩ : ByteArray)).size) = False := eq_false (Nat.not_lt.2 c6)
       have H' := ae.mk H
       clear H
       have p101 : 0 ≤ (fH : Int) := of_decide_eq_true qa
       have q101 : fH < (l0.length : Int) := of_decide_eq_true qa
       obtain ⟨ad101, e101, hx101_0, hx101_1, hx101_2, hx101_3, hx101_4, hx101_5, hx101_6, hx101_7⟩ := ma HR0.out fH p101 q101
       cases e101
       replace hx101_0 := (HB.out.cell (World.block_lt_of_cell? w _ hx101_0)).trans hx101_0
       replace hx101_1 := (HB.out.cell (World.block_lt_of_cell? w _ hx101_1)).trans hx101_1
       replace hx101_2 := (HB.out.cell (World.block_lt_of_cell? w _ hx101_2)).trans hx101_2
       replace hx101_3 := (HB.out.cell (World.block_lt_of_cell? w _ hx101_3)).trans hx101_3
       replace hx101_4 := (HB.out.cell (World.block_lt_of_cell? w _ hx101_4)).trans hx101_4
       replace hx101_5 := (HB.out.cell (World.block_lt_of_cell? w _ hx101_5)).trans hx101_5
       replace hx101_6 := (HB.out.cell (World.block_lt_of_cell? w _ hx101_6)).trans hx101_6
       replace hx101_7 := (HB.out.cell (World.block_lt_of_cell? w _ hx101_7)).trans hx101_7
       replace p101 := eq_true p101
       replace q101 := eq_true q101
       go_wp2_with (first | ((with_reducible refine aH (f := 82) rfl ?_); refine bN (some 16) rfl rfl Tryz.func82 (by kernel_rfl) rfl #[.agg #[.int .i64 ((aI l0 fH).f0), .string ((aI l0 fH).f1), .string ((aI l0 fH).f2), .string ((aI l0 fH).f3), .int .u32 ((aI l0 fH).f4), .int .u32 ((aI l0 fH).f5.f0), .int .i64 ((aI l0 fH).f5.f1), .int .i64 ((aI l0 fH).f6)]] rfl qt ?_; (with_reducible refine (aK.calls k1 ((aI l0 fH).f0) ((aI l0 fH).f1) ((aI l0 fH).f2) ((aI l0 fH).f3) ((aI l0 fH).f4) ((aI l0 fH).f5.f0) ((aI l0 fH).f5.f1) ((aI l0 fH).f6) aJ _ A4.out).mono ?_); rintro e w7 ⟨rfl, hb⟩; refine ⟨_, rfl, ?_⟩; replace HB := ae.mk (aj (qw HB) hb); (try clear hb); (try clear hb2); (try clear hk); (try clear hi)))
       go_roundg k1
       case measure => have := HK1.out; omega
       case rel => exact ⟨(fu ++ (aJ ++ (⟨#[10]⟩ : ByteArray))), (wrap64 (fH + 1)), (by first | rfl | (simp; done) | (simp [*]; done)), (by first | rfl | (simp; done) | (simp [*]; done)), H', ⟨by have := HK1.out; omega⟩, ⟨by repeat (first | (with_reducible first | exact HB.out | apply au | apply ai | apply ak) | exact HB.out)⟩⟩
      ·rw [if_neg c6] at H
       exact absurd H (by simp)
     ·rw [if_neg c5] at H
      exact absurd H (by simp)
    ·rw [if_neg c3] at H
     exact absurd H (by simp)
   ·rw [if_neg c2] at H
    have jF : decide (fH < (l0.length : Int)) = false := decide_eq_false c2
    clear c2
    obtain rfl := Option.some.inj H
    go_wp2
    go_ret
    exact ⟨by first | rfl | (simp [errW_none, errW_some] <;> rfl) | (simp [*, errW_none, errW_some] <;> rfl), by repeat (first | (with_reducible first | exact HB.out | apply au | apply ai | apply ak) | exact HB.out)⟩
end Go.Proofs.YteidaijpaijgpaaGreatDoor.P
end
section
namespace Go.Proofs.YteidaijpaijgpaaGreatDoor.P
open Go.RowKit Go.Proofs.YteidaijpaijgpaaGreatDoorW.ay Go.Proofs.YteidaijpaijgpaaGreatDoorW.aQ Go.Proofs.YteidaijpaijgpaaGreatDoorW.aZ
attribute [local go_sem] bz bA bP bQ bq bu bB bC
set_option linter.unusedVariables false
set_option linter.unusedSimpArgs false
def bV.f (a0 : ByteArray) : Option (ByteArray) := if 0 ≤ (mn (a0.size : Int) 20) then (if (mn (a0.size : Int) 20) ≤ (a0.size : Int) then (some (a0.extract 0 ((mn (a0.size : Int) 20) : Int).toNat)) else (none)) else (none)
set_option maxHeartbeats 8000000 in
set_option maxRecDepth 100000 in
theorem bV.calls (a0 : ByteArray) (r : ByteArray) (w : World) (h : bV.f a0 = some r) :
  Calls Tryz.prog 25 #[.string a0] w fun e w' => e = .returned (.string r) ∧ Below w.heap.size w w' := by
 have HB := ae.mk (Below.refl w.heap.size w)
 have H : (if 0 ≤ (mn (a0.size : Int) 20) then (if (mn (a0.size : Int) 20) ≤ (a0.size : Int) then (some (a0.extract 0 ((mn (a0.size : Int) 20) : Int).toNat)) else (none)) else (none)) = some r := h
 clear h
 obtain ⟨ji2, hji2⟩ : ∃ j_ : Int, (mn (a0.size : Int) 20) = j_ := ⟨_, rfl⟩
 replace H : (if 0 ≤ (ji2) then (if (ji2) ≤ (a0.size : Int) then (some (a0.extract 0 ((ji2) : Int).toNat)) else (none)) else (none)) = some r := by first | (rw [hji2] at H; exact H) | (simp only [hji2] at H ⊢; exact H)
 (try (have hji2h : ji2 ≤ 20 := by (rw [← hji2]; unfold mn; (repeat' split) <;> omega)))
 (try (have hji2g : ji2 ≤ 64 := by omega))
 (try (have hji2l : 0 ≤ ji2 := by (rw [← hji2]; unfold mn; (repeat' split) <;> omega)))
 (try (have hji2m : 0 ≤ ji2 := by omega))
 have hji2_ : (if 20 < (a0.size : Int) then 20 else (a0.size : Int)) = ji2 := hji2
 by_cases c3 : 0 ≤ (ji2)
 ·rw [if_pos c3] at H
  have gN := eq_true c3
  have jk : decide (0 ≤ (ji2)) = true := decide_eq_true c3
  clear c3
  by_cases c4 : (ji2) ≤ (a0.size : Int)
  ·rw [if_pos c4] at H
   have iQ := eq_true c4
   have jv : decide ((ji2) ≤ (a0.size : Int)) = true := decide_eq_true c4
   clear c4
   obtain rfl := Option.some.inj H
   go_enter Tryz.func25, Tryz.ntmps25
   go_wp2
   go_ret
   exact ⟨by first | rfl | (simp [errW_none, errW_some] <;> rfl) | (simp only [← hji2]; first | rfl | (simp [errW_none, errW_some] <;> rfl)) | (simp [*, errW_none, errW_some] <;> rfl), by repeat (first | (with_reducible first | exact HB.out | apply au | apply ai | apply ak) | exact HB.out)⟩
  ·rw [if_neg c4] at H
   exact absurd H (by simp)
 ·rw [if_neg c3] at H
  exact absurd H (by simp)
end Go.Proofs.YteidaijpaijgpaaGreatDoor.P
end
section
namespace Go.Proofs.YteidaijpaijgpaaGreatDoor.P
open Go.RowKit Go.Proofs.YteidaijpaijgpaaGreatDoorW.ay Go.Proofs.YteidaijpaijgpaaGreatDoorW.aQ Go.Proofs.YteidaijpaijgpaaGreatDoorW.aZ
attribute [local go_sem] bz bA bP bQ bq bu bB bC
set_option linter.unusedVariables false
set_option linter.unusedSimpArgs false
def bK.f (aD : Int) (aA : ByteArray) (bU : ByteArray) (bf : ByteArray) (eu : Int) (fq : Int) (fA : Int) (fe : Int) : Option (Int × ByteArray × ByteArray × ByteArray × Int × Int × Int × Int) := (bV.f aA).bind fun bJ => ((bV.f bU).bind fun bH => ((bV.f bf).bind fun t105 => (if fe < (-1000000) then (some (aD, bJ, bH, t105, eu, fq, fA, 3)) else (if fe > 2147483648 then (some (aD, bJ, bH, t105, eu, fq, fA, 3)) else (some (aD, bJ, bH, t105, eu, fq, fA, fe))))))
def bK.T1 : Bool × List (List Nat × List Nat) := (true, [([], []), ([0], [0]), ([1], [1]), ([], []), ([3], [3]), ([4, 2], [4]), ([], []), ([6], [6]), ([7, 5], [7]), ([0, 1, 2, 3, 4, 6, 7], []), ([9, 2, 8, 0, 1, 2, 3, 4, 6, 7], [2, 9]), ([0, 1, 2, 3, 4, 5, 6, 7, 9, 10], []), ([11, 5, 10, 0, 1, 2, 3, 4, 5, 6, 7, 9, 10], [5, 11]), ([0, 1, 2, 3, 4, 5, 6, 7, 8, 9, 10, 11, 12], []), ([13, 8, 12, 0, 1, 2, 3, 4, 5, 6, 7, 8, 9, 10, 11, 12], [8, 13])])
def bK.B1 : List Nat := [0, 1, 3, 0, 8, 31, 0, 64, 255, 223, 1023, 2047, 4095, 8191, 16383]
theorem bK.ou : iV .any (opsOf Tryz.f21 1) = bK.T1 := by kernel_rfl
theorem bK.lN : iA bK.T1.2 bK.B1 = true := by kernel_rfl
set_option maxHeartbeats 8000000 in
set_option maxRecDepth 100000 in
theorem bK.calls (aD : Int) (aA : ByteArray) (bU : ByteArray) (bf : ByteArray) (eu : Int) (fq : Int) (fA : Int) (fe : Int) (r1 : Int) (r2 : ByteArray) (r3 : ByteArray) (r4 : ByteArray) (r5 : Int) (r6 : Int) (r7 : Int) (r8 : Int) (w : World) (h : bK.f aD aA bU bf eu fq fA fe = some (r1, r2, r3, r4, r5, r6, r7, r8)) :
  Calls Tryz.prog 21 #[.agg #[.int .i64 aD, .string aA, .string bU, .string bf, .int .u32 eu, .int .u32 fq, .int .i64 fA, .int .i64 fe]] w fun e w' => e = .returned (.agg #[.int .i64 r1, .string r2, .string r3, .string r4, .int .u32 r5, .int .u32 r6, .int .i64 r7, .int .i64 r8]) ∧ Below w.heap.size w w' := by
 have hu45 := Tryz.underlying45
 have HB := ae.mk (Below.refl w.heap.size w)
 have H : ((bV.f aA).bind fun bJ => ((bV.f bU).bind fun bH => ((bV.f bf).bind fun t105 => (if fe < (-1000000) then (some (aD, bJ, bH, t105, eu, fq, fA, 3)) else (if fe > 2147483648 then (some (aD, bJ, bH, t105, eu, fq, fA, 3)) else (some (aD, bJ, bH, t105, eu, fq, fA, fe))))))) = some (r1, r2, r3, r4, r5, r6, r7, r8) := h
 clear h
 replace H := Option.bind_eq_some_iff.mp H
 obtain ⟨bJ, A20, H⟩ := H
 replace H : ((bV.f bU).bind fun bH => ((bV.f bf).bind fun t105 => (if fe < (-1000000) then (some (aD, bJ, bH, t105, eu, fq, fA, 3)) else (if fe > 2147483648 then (some (aD, bJ, bH, t105, eu, fq, fA, 3)) else (some (aD, bJ, bH, t105, eu, fq, fA, fe)))))) = some (r1, r2, r3, r4, r5, r6, r7, r8) := H
 have A2 := ae.mk A20
 clear A20
 replace H := Option.bind_eq_some_iff.mp H
 obtain ⟨bH, A30, H⟩ := H
 replace H : ((bV.f bf).bind fun t105 => (if fe < (-1000000) then (some (aD, bJ, bH, t105, eu, fq, fA, 3)) else (if fe > 2147483648 then (some (aD, bJ, bH, t105, eu, fq, fA, 3)) else (some (aD, bJ, bH, t105, eu, fq, fA, fe))))) = some (r1, r2, r3, r4, r5, r6, r7, r8) := H
 have A3 := ae.mk A30
 clear A30
 replace H := Option.bind_eq_some_iff.mp H
 obtain ⟨t105, A40, H⟩ := H
 replace H : (if fe < (-1000000) then (some (aD, bJ, bH, t105, eu, fq, fA, 3)) else (if fe > 2147483648 then (some (aD, bJ, bH, t105, eu, fq, fA, 3)) else (some (aD, bJ, bH, t105, eu, fq, fA, fe)))) = some (r1, r2, r3, r4, r5, r6, r7, r8) := H
 have A4 := ae.mk A40
 clear A40
 by_cases c5 : fe < (-1000000)
 ·rw [if_pos c5] at H
  have jG : decide (fe < (-1000000)) = true := decide_eq_true c5
  clear c5
  simp only [Option.some.injEq, Prod.mk.injEq] at H
  obtain ⟨rfl, rfl, rfl, rfl, rfl, rfl, rfl, rfl⟩ := H
  go_enter Tryz.func21, Tryz.ntmps21
  try go_wp2_with (first | ((with_reducible refine bg (N := 1) rfl ?_); refine bE ?hg (N := 1) ?hd (cs := #[.int .i64 aD, .string aA, .string bU, .string bf, .int .u32 eu, .int .u32 fq, .int .i64 fA, .int .i64 fe]) (t := 45) ?hr ?_; (case hd => rfl); (case hg => rfl); (case hr => first | (go_simp; done) | (go_simp; rfl)); intro av hg w6 hbox hb; have ag := ae.mk (hbox); have GW101 := qge HB hg; have dh := qge HB hg; replace HB := ae.mk (aj (qw HB) hb); clear hb hbox hg) | ((with_reducible refine bg (N := 2) rfl ?_); refine bE ?hg (N := 2) ?hd (cs := #[.int .i64 0, .string (⟨#[]⟩ : ByteArray), .string (⟨#[]⟩ : ByteArray), .string (⟨#[]⟩ : ByteArray), .int .u32 0, .int .u32 0, .int .i64 0, .int .i64 0]) (t := 45) ?hr ?_; (case hd => rfl); (case hg => rfl); (case hr => first | (go_simp; done) | (go_simp; rfl)); intro iJ hg w7 hbox hb; have ek := ae.mk (hbox); have GW102 := qge HB hg; have sj := qge HB hg; replace HB := ae.mk (aj (qw HB) hb); have il := qnl ag hg; have fC := qng ag hg; replace ag := qbb ag hb; clear hb hbox hg))
  replace ag := ae.mk (dQ ag.out)
  replace ek := ae.mk (dQ ek.out)
  replace HB := ae.mk (ak HB.out)
  refine iP (n := 15) (S := fun w' => w'.cell? ⟨av, 0, none⟩ = some (.int .i64 aD) ∧ w'.cell? ⟨av, 1, none⟩ = some (.string aA) ∧ w'.cell? ⟨av, 2, none⟩ = some (.string bU) ∧ w'.cell? ⟨av, 3, none⟩ = some (.string bf) ∧ w'.cell? ⟨av, 4, none⟩ = some (.int .u32 eu) ∧ w'.cell? ⟨av, 5, none⟩ = some (.int .u32 fq) ∧ w'.cell? ⟨av, 6, none⟩ = some (.int .i64 fA) ∧ w'.cell? ⟨av, 7, none⟩ = some (.int .i64 fe)) (ds := [10, 12, 14]) #[bF,bF,bF,bF,bF,bF,bF,bF,bF,bF,bF,bF,bF,bF,bF] (by kernel_rfl) rfl rfl ⟨(af ag.out 0).trans rfl, (af ag.out 1).trans rfl, (af ag.out 2).trans rfl, (af ag.out 3).trans rfl, (af ag.out 4).trans rfl, (af ag.out 5).trans rfl, (af ag.out 6).trans rfl, (af ag.out 7).trans rfl⟩ (fun hHeld => ?_); refine fV bK.ou bK.lN (fun HT_ HW_ => ?_)
  generalize w7.drew = w8 at ag ek HB hHeld ⊢
  refine bL 0 (some 3) HT_ ?_
  refine bL 3 (some 6) HT_ ?_
  refine bL 6 (some 9) HT_ ?_
  refine fI 1 (some 4) HT_ HW_ hHeld ?_
  refine fI 4 (some 7) HT_ HW_ hHeld ?_
  refine fI 7 (some 10) HT_ HW_ hHeld ?_
  refine iW 2 (some 5) HT_ (fun K hK => ?_)
  refine gX Tryz.func25 #[.string aA] ?_
  with_reducible refine (bV.calls aA bJ _ A2.out).mono ?_
  rintro e w9 ⟨rfl, hb⟩
  refine ⟨_, rfl, ?_⟩
  replace ag := qbb ag hb
  replace ek := qbb ek hb
  replace HB := ae.mk (aj (qw HB) hb)
  (try clear hb)
  (try clear hb2)
  (try clear hk)
  (try clear hi)
  refine hK.out _ _ ⟨(af ag.out 0).trans rfl, (af ag.out 1).trans rfl, (af ag.out 2).trans rfl, (af ag.out 3).trans rfl, (af ag.out 4).trans rfl, (af ag.out 5).trans rfl, (af ag.out 6).trans rfl, (af ag.out 7).trans rfl⟩ (fun hHeld => ?_)
  clear hK K
  refine gD (some 5) ?_
  refine bL 9 (some 12) HT_ ?_
  refine iW 5 (some 8) HT_ (fun K hK => ?_)
  refine gX Tryz.func25 #[.string bU] ?_
  with_reducible refine (bV.calls bU bH _ A3.out).mono ?_
  rintro e w10 ⟨rfl, hb⟩
  refine ⟨_, rfl, ?_⟩
  replace ag := qbb ag hb
  replace ek := qbb ek hb
  replace HB := ae.mk (aj (qw HB) hb)
  (try clear hb)
  (try clear hb2)
  (try clear hk)
  (try clear hi)
  refine hK.out _ _ ⟨(af ag.out 0).trans rfl, (af ag.out 1).trans rfl, (af ag.out 2).trans rfl, (af ag.out 3).trans rfl, (af ag.out 4).trans rfl, (af ag.out 5).trans rfl, (af ag.out 6).trans rfl, (af ag.out 7).trans rfl⟩ (fun hHeld => ?_)
  clear hK K
  refine gD (some 8) ?_
  refine iW 8 (some 11) HT_ (fun K hK => ?_)
  refine gX Tryz.func25 #[.string bf] ?_
  with_reducible refine (bV.calls bf t105 _ A4.out).mono ?_
  rintro e w11 ⟨rfl, hb⟩
  refine ⟨_, rfl, ?_⟩
  replace ag := qbb ag hb
  replace ek := qbb ek hb
  replace HB := ae.mk (aj (qw HB) hb)
  (try clear hb)
  (try clear hb2)
  (try clear hk)
  (try clear hi)
  refine hK.out _ _ ⟨(af ag.out 0).trans rfl, (af ag.out 1).trans rfl, (af ag.out 2).trans rfl, (af ag.out 3).trans rfl, (af ag.out 4).trans rfl, (af ag.out 5).trans rfl, (af ag.out 6).trans rfl, (af ag.out 7).trans rfl⟩ (fun hHeld => ?_)
  clear hK K
  refine gD (some 11) ?_
  refine ny (i := 10) (N := none) #[bT,bT,bT,bT,bT,bT,bT,bT,bT,bT,bT,bF,bF,bF,bF] rfl rfl (kV HT_.out (by kernel_rfl)) (by decide) (fun K hK => ?_)
  have hs12 : w11.cell? ⟨av, 1, none⟩ = some (.string aA) := (af ag.out 1).trans rfl
  have hfs12 := ah ag.out 1
  have hns12_1 := fC.out
  have hms12_1 := il.out
  refine nz (w1 := ?_) (by rfl) rfl ?_ ?_
  rotate_left
  ·go_simp
   rfl
  refine hK.out _ _ ?_
  clear hK K
  refine bL 11 (some 13) HT_ ?_
  refine ny (i := 12) (N := none) #[bT,bT,bT,bT,bT,bT,bT,bT,bT,bT,bT,bT,bT,bF,bF] rfl rfl (kV HT_.out (by kernel_rfl)) (by decide) (fun K hK => ?_)
  have hs13 : w11.cell? ⟨av, 2, none⟩ = some (.string bU) := (af ag.out 2).trans rfl
  have hfs13 := ah ag.out 2
  have hns13_1 := fC.out
  have hms13_1 := il.out
  refine nz (w1 := ?_) (by rfl) rfl ?_ ?_
  rotate_left
  ·go_simp
   rfl
  refine hK.out _ _ ?_
  clear hK K
  refine bL 13 (some 14) HT_ ?_
  refine ny (i := 14) (N := none) #[bT,bT,bT,bT,bT,bT,bT,bT,bT,bT,bT,bT,bT,bT,bT] rfl rfl (kV HT_.out (by kernel_rfl)) (by decide) (fun K hK => ?_)
  have hs14 : w11.cell? ⟨av, 3, none⟩ = some (.string bf) := (af ag.out 3).trans rfl
  have hfs14 := ah ag.out 3
  have hns14_1 := fC.out
  have hms14_1 := il.out
  refine nz (w1 := ?_) (by rfl) rfl ?_ ?_
  rotate_left
  ·go_simp
   rfl
  refine hK.out _ _ ?_
  clear hK K
  refine jI HT_ ?_
  have hnb15 := il.out
  have hnc15 := fC.out
  have hcz16_0 : w11.cell? ⟨av, 0, none⟩ = some (.int .i64 aD) := (af ag.out 0).trans rfl
  have hcz16_1 : w11.cell? ⟨av, 1, none⟩ = some (.string aA) := (af ag.out 1).trans rfl
  have hcz16_2 : w11.cell? ⟨av, 2, none⟩ = some (.string bU) := (af ag.out 2).trans rfl
  have hcz16_3 : w11.cell? ⟨av, 3, none⟩ = some (.string bf) := (af ag.out 3).trans rfl
  have hcz16_4 : w11.cell? ⟨av, 4, none⟩ = some (.int .u32 eu) := (af ag.out 4).trans rfl
  have hcz16_5 : w11.cell? ⟨av, 5, none⟩ = some (.int .u32 fq) := (af ag.out 5).trans rfl
  have hcz16_6 : w11.cell? ⟨av, 6, none⟩ = some (.int .i64 fA) := (af ag.out 6).trans rfl
  have hcz16_7 : w11.cell? ⟨av, 7, none⟩ = some (.int .i64 fe) := (af ag.out 7).trans rfl
  have hfz16_0 := ah ag.out 0
  have hfz16_1 := ah ag.out 1
  have hfz16_2 := ah ag.out 2
  have hfz16_3 := ah ag.out 3
  have hfz16_4 := ah ag.out 4
  have hfz16_5 := ah ag.out 5
  have hfz16_6 := ah ag.out 6
  have hfz16_7 := ah ag.out 7
  have hcz17_0 : w11.cell? ⟨iJ, 0, none⟩ = some (.int .i64 0) := (af ek.out 0).trans rfl
  have hcz17_1 : w11.cell? ⟨iJ, 1, none⟩ = some (.string (⟨#[]⟩ : ByteArray)) := (af ek.out 1).trans rfl
  have hcz17_2 : w11.cell? ⟨iJ, 2, none⟩ = some (.string (⟨#[]⟩ : ByteArray)) := (af ek.out 2).trans rfl
  have hcz17_3 : w11.cell? ⟨iJ, 3, none⟩ = some (.string (⟨#[]⟩ : ByteArray)) := (af ek.out 3).trans rfl
  have hcz17_4 : w11.cell? ⟨iJ, 4, none⟩ = some (.int .u32 0) := (af ek.out 4).trans rfl
  have hcz17_5 : w11.cell? ⟨iJ, 5, none⟩ = some (.int .u32 0) := (af ek.out 5).trans rfl
  have hcz17_6 : w11.cell? ⟨iJ, 6, none⟩ = some (.int .i64 0) := (af ek.out 6).trans rfl
  have hcz17_7 : w11.cell? ⟨iJ, 7, none⟩ = some (.int .i64 0) := (af ek.out 7).trans rfl
  have hfz17_0 := ah ek.out 0
  have hfz17_1 := ah ek.out 1
  have hfz17_2 := ah ek.out 2
  have hfz17_3 := ah ek.out 3
  have hfz17_4 := ah ek.out 4
  have hfz17_5 := ah ek.out 5
  have hfz17_6 := ah ek.out 6
  have hfz17_7 := ah ek.out 7
  try go_wp2
  refine bodyPost_ret (results_cell_row rfl _ _ iJ 45 #[.int .i64 aD, .string bJ, .string bH, .string t105, .int .u32 eu, .int .u32 fq, .int .i64 fA, .int .i64 3] (0, 0) _ rfl (by refine dL (cs := #[.int .i64 aD, .string bJ, .string bH, .string t105, .int .u32 eu, .int .u32 fq, .int .i64 fA, .int .i64 0]) ?_ 7 _ rfl; refine dL (cs := #[.int .i64 aD, .string bJ, .string bH, .string t105, .int .u32 eu, .int .u32 fq, .int .i64 0, .int .i64 0]) ?_ 6 _ rfl; refine dL (cs := #[.int .i64 aD, .string bJ, .string bH, .string t105, .int .u32 eu, .int .u32 0, .int .i64 0, .int .i64 0]) ?_ 5 _ rfl; refine dL (cs := #[.int .i64 aD, .string bJ, .string bH, .string t105, .int .u32 0, .int .u32 0, .int .i64 0, .int .i64 0]) ?_ 4 _ rfl; refine dL (cs := #[.int .i64 aD, .string bJ, .string bH, .string (⟨#[]⟩ : ByteArray), .int .u32 0, .int .u32 0, .int .i64 0, .int .i64 0]) ?_ 3 _ rfl; refine dL (cs := #[.int .i64 aD, .string bJ, .string (⟨#[]⟩ : ByteArray), .string (⟨#[]⟩ : ByteArray), .int .u32 0, .int .u32 0, .int .i64 0, .int .i64 0]) ?_ 2 _ rfl; refine dL (cs := #[.int .i64 aD, .string (⟨#[]⟩ : ByteArray), .string (⟨#[]⟩ : ByteArray), .string (⟨#[]⟩ : ByteArray), .int .u32 0, .int .u32 0, .int .i64 0, .int .i64 0]) ?_ 1 _ rfl; refine dL (cs := #[.int .i64 0, .string (⟨#[]⟩ : ByteArray), .string (⟨#[]⟩ : ByteArray), .string (⟨#[]⟩ : ByteArray), .int .u32 0, .int .u32 0, .int .i64 0, .int .i64 0]) ?_ 0 _ rfl; refine jH ?_ fC.out _; refine jH ?_ fC.out _; refine jH ?_ fC.out _; refine jH ?_ fC.out _; (with_reducible repeat (first | refine gz ?_ _ | refine dQ ?_ | refine gy ?_ _)); exact ek.out) Tryz.underlying45 rfl (by kernel_rfl)) rfl ?_
  exact ⟨by first | rfl | (simp [errW_none, errW_some] <;> rfl) | (simp [*, errW_none, errW_some] <;> rfl), by repeat (first | (with_reducible first | exact HB.out | apply au | apply ai | apply ak | refine bn ?_ dh.out | refine bn ?_ sj.out) | exact HB.out)⟩
 ·rw [if_neg c5] at H
  have jG : decide (fe < (-1000000)) = false := decide_eq_false c5
  clear c5
  by_cases c18 : fe > 2147483648
  ·rw [if_pos c18] at H
   have yQ : decide (2147483648 < fe) = true := decide_eq_true c18
   clear c18
   simp only [Option.some.injEq, Prod.mk.injEq] at H
   obtain ⟨rfl, rfl, rfl, rfl, rfl, rfl, rfl, rfl⟩ := H
   go_enter Tryz.func21, Tryz.ntmps21
   try go_wp2_with (first | ((with_reducible refine bg (N := 1) rfl ?_); refine bE ?hg (N := 1) ?hd (cs := #[.int .i64 aD, .string aA, .string bU, .string bf, .int .u32 eu, .int .u32 fq, .int .i64 fA, .int .i64 fe]) (t := 45) ?hr ?_; (case hd => rfl); (case hg => rfl); (case hr => first | (go_simp; done) | (go_simp; rfl)); intro av hg w19 hbox hb; have ag := ae.mk (hbox); have GW101 := qge HB hg; have dh := qge HB hg; replace HB := ae.mk (aj (qw HB) hb); clear hb hbox hg) | ((with_reducible refine bg (N := 2) rfl ?_); refine bE ?hg (N := 2) ?hd (cs := #[.int .i64 0, .string (⟨#[]⟩ : ByteArray), .string (⟨#[]⟩ : ByteArray), .string (⟨#[]⟩ : ByteArray), .int .u32 0, .int .u32 0, .int .i64 0, .int .i64 0]) (t := 45) ?hr ?_; (case hd => rfl); (case hg => rfl); (case hr => first | (go_simp; done) | (go_simp; rfl)); intro iJ hg w20 hbox hb; have ek := ae.mk (hbox); have GW102 := qge HB hg; have sj := qge HB hg; replace HB := ae.mk (aj (qw HB) hb); have il := qnl ag hg; have fC := qng ag hg; replace ag := qbb ag hb; clear hb hbox hg))
   replace ag := ae.mk (dQ ag.out)
   replace ek := ae.mk (dQ ek.out)
   replace HB := ae.mk (ak HB.out)
   refine iP (n := 15) (S := fun w' => w'.cell? ⟨av, 0, none⟩ = some (.int .i64 aD) ∧ w'.cell? ⟨av, 1, none⟩ = some (.string aA) ∧ w'.cell? ⟨av, 2, none⟩ = some (.string bU) ∧ w'.cell? ⟨av, 3, none⟩ = some (.string bf) ∧ w'.cell? ⟨av, 4, none⟩ = some (.int .u32 eu) ∧ w'.cell? ⟨av, 5, none⟩ = some (.int .u32 fq) ∧ w'.cell? ⟨av, 6, none⟩ = some (.int .i64 fA) ∧ w'.cell? ⟨av, 7, none⟩ = some (.int .i64 fe)) (ds := [10, 12, 14]) #[bF,bF,bF,bF,bF,bF,bF,bF,bF,bF,bF,bF,bF,bF,bF] (by kernel_rfl) rfl rfl ⟨(af ag.out 0).trans rfl, (af ag.out 1).trans rfl, (af ag.out 2).trans rfl, (af ag.out 3).trans rfl, (af ag.out 4).trans rfl, (af ag.out 5).trans rfl, (af ag.out 6).trans rfl, (af ag.out 7).trans rfl⟩ (fun hHeld => ?_); refine fV bK.ou bK.lN (fun HT_ HW_ => ?_)
   generalize w20.drew = w21 at ag ek HB hHeld ⊢
   refine bL 0 (some 3) HT_ ?_
   refine bL 3 (some 6) HT_ ?_
   refine bL 6 (some 9) HT_ ?_
   refine fI 1 (some 4) HT_ HW_ hHeld ?_
   refine fI 4 (some 7) HT_ HW_ hHeld ?_
   refine fI 7 (some 10) HT_ HW_ hHeld ?_
   refine iW 2 (some 5) HT_ (fun K hK => ?_)
   refine gX Tryz.func25 #[.string aA] ?_
   with_reducible refine (bV.calls aA bJ _ A2.out).mono ?_
   rintro e w22 ⟨rfl, hb⟩
   refine ⟨_, rfl, ?_⟩
   replace ag := qbb ag hb
   replace ek := qbb ek hb
   replace HB := ae.mk (aj (qw HB) hb)
   (try clear hb)
   (try clear hb2)
   (try clear hk)
   (try clear hi)
   refine hK.out _ _ ⟨(af ag.out 0).trans rfl, (af ag.out 1).trans rfl, (af ag.out 2).trans rfl, (af ag.out 3).trans rfl, (af ag.out 4).trans rfl, (af ag.out 5).trans rfl, (af ag.out 6).trans rfl, (af ag.out 7).trans rfl⟩ (fun hHeld => ?_)
   clear hK K
   refine gD (some 5) ?_
   refine bL 9 (some 12) HT_ ?_
   refine iW 5 (some 8) HT_ (fun K hK => ?_)
   refine gX Tryz.func25 #[.string bU] ?_
   with_reducible refine (bV.calls bU bH _ A3.out).mono ?_
   rintro e w23 ⟨rfl, hb⟩
   refine ⟨_, rfl, ?_⟩
   replace ag := qbb ag hb
   replace ek := qbb ek hb
   replace HB := ae.mk (aj (qw HB) hb)
   (try clear hb)
   (try clear hb2)
   (try clear hk)
   (try clear hi)
   refine hK.out _ _ ⟨(af ag.out 0).trans rfl, (af ag.out 1).trans rfl, (af ag.out 2).trans rfl, (af ag.out 3).trans rfl, (af ag.out 4).trans rfl, (af ag.out 5).trans rfl, (af ag.out 6).trans rfl, (af ag.out 7).trans rfl⟩ (fun hHeld => ?_)
   clear hK K
   refine gD (some 8) ?_
   refine iW 8 (some 11) HT_ (fun K hK => ?_)
   refine gX Tryz.func25 #[.string bf] ?_
   with_reducible refine (bV.calls bf t105 _ A4.out).mono ?_
   rintro e w24 ⟨rfl, hb⟩
   refine ⟨_, rfl, ?_⟩
   replace ag := qbb ag hb
   replace ek := qbb ek hb
   replace HB := ae.mk (aj (qw HB) hb)
   (try clear hb)
   (try clear hb2)
   (try clear hk)
   (try clear hi)
   refine hK.out _ _ ⟨(af ag.out 0).trans rfl, (af ag.out 1).trans rfl, (af ag.out 2).trans rfl, (af ag.out 3).trans rfl, (af ag.out 4).trans rfl, (af ag.out 5).trans rfl, (af ag.out 6).trans rfl, (af ag.out 7).trans rfl⟩ (fun hHeld => ?_)
   clear hK K
   refine gD (some 11) ?_
   refine ny (i := 10) (N := none) #[bT,bT,bT,bT,bT,bT,bT,bT,bT,bT,bT,bF,bF,bF,bF] rfl rfl (kV HT_.out (by kernel_rfl)) (by decide) (fun K hK => ?_)
   have hs25 : w24.cell? ⟨av, 1, none⟩ = some (.string aA) := (af ag.out 1).trans rfl
   have hfs25 := ah ag.out 1
   have hns25_1 := fC.out
   have hms25_1 := il.out
   refine nz (w1 := ?_) (by rfl) rfl ?_ ?_
   rotate_left
   ·go_simp
    rfl
   refine hK.out _ _ ?_
   clear hK K
   refine bL 11 (some 13) HT_ ?_
   refine ny (i := 12) (N := none) #[bT,bT,bT,bT,bT,bT,bT,bT,bT,bT,bT,bT,bT,bF,bF] rfl rfl (kV HT_.out (by kernel_rfl)) (by decide) (fun K hK => ?_)
   have hs26 : w24.cell? ⟨av, 2, none⟩ = some (.string bU) := (af ag.out 2).trans rfl
   have hfs26 := ah ag.out 2
   have hns26_1 := fC.out
   have hms26_1 := il.out
   refine nz (w1 := ?_) (by rfl) rfl ?_ ?_
   rotate_left
   ·go_simp
    rfl
   refine hK.out _ _ ?_
   clear hK K
   refine bL 13 (some 14) HT_ ?_
   refine ny (i := 14) (N := none) #[bT,bT,bT,bT,bT,bT,bT,bT,bT,bT,bT,bT,bT,bT,bT] rfl rfl (kV HT_.out (by kernel_rfl)) (by decide) (fun K hK => ?_)
   have hs27 : w24.cell? ⟨av, 3, none⟩ = some (.string bf) := (af ag.out 3).trans rfl
   have hfs27 := ah ag.out 3
   have hns27_1 := fC.out
   have hms27_1 := il.out
   refine nz (w1 := ?_) (by rfl) rfl ?_ ?_
   rotate_left
   ·go_simp
    rfl
   refine hK.out _ _ ?_
   clear hK K
   refine jI HT_ ?_
   have hnb28 := il.out
   have hnc28 := fC.out
   have hcz29_0 : w24.cell? ⟨av, 0, none⟩ = some (.int .i64 aD) := (af ag.out 0).trans rfl
   have hcz29_1 : w24.cell? ⟨av, 1, none⟩ = some (.string aA) := (af ag.out 1).trans rfl
   have hcz29_2 : w24.cell? ⟨av, 2, none⟩ = some (.string bU) := (af ag.out 2).trans rfl
   have hcz29_3 : w24.cell? ⟨av, 3, none⟩ = some (.string bf) := (af ag.out 3).trans rfl
   have hcz29_4 : w24.cell? ⟨av, 4, none⟩ = some (.int .u32 eu) := (af ag.out 4).trans rfl
   have hcz29_5 : w24.cell? ⟨av, 5, none⟩ = some (.int .u32 fq) := (af ag.out 5).trans rfl
   have hcz29_6 : w24.cell? ⟨av, 6, none⟩ = some (.int .i64 fA) := (af ag.out 6).trans rfl
   have hcz29_7 : w24.cell? ⟨av, 7, none⟩ = some (.int .i64 fe) := (af ag.out 7).trans rfl
   have hfz29_0 := ah ag.out 0
   have hfz29_1 := ah ag.out 1
   have hfz29_2 := ah ag.out 2
   have hfz29_3 := ah ag.out 3
   have hfz29_4 := ah ag.out 4
   have hfz29_5 := ah ag.out 5
   have hfz29_6 := ah ag.out 6
   have hfz29_7 := ah ag.out 7
   have hcz30_0 : w24.cell? ⟨iJ, 0, none⟩ = some (.int .i64 0) := (af ek.out 0).trans rfl
   have hcz30_1 : w24.cell? ⟨iJ, 1, none⟩ = some (.string (⟨#[]⟩ : ByteArray)) := (af ek.out 1).trans rfl
   have hcz30_2 : w24.cell? ⟨iJ, 2, none⟩ = some (.string (⟨#[]⟩ : ByteArray)) := (af ek.out 2).trans rfl
   have hcz30_3 : w24.cell? ⟨iJ, 3, none⟩ = some (.string (⟨#[]⟩ : ByteArray)) := (af ek.out 3).trans rfl
   have hcz30_4 : w24.cell? ⟨iJ, 4, none⟩ = some (.int .u32 0) := (af ek.out 4).trans rfl
   have hcz30_5 : w24.cell? ⟨iJ, 5, none⟩ = some (.int .u32 0) := (af ek.out 5).trans rfl
   have hcz30_6 : w24.cell? ⟨iJ, 6, none⟩ = some (.int .i64 0) := (af ek.out 6).trans rfl
   have hcz30_7 : w24.cell? ⟨iJ, 7, none⟩ = some (.int .i64 0) := (af ek.out 7).trans rfl
   have hfz30_0 := ah ek.out 0
   have hfz30_1 := ah ek.out 1
   have hfz30_2 := ah ek.out 2
   have hfz30_3 := ah ek.out 3
   have hfz30_4 := ah ek.out 4
   have hfz30_5 := ah ek.out 5
   have hfz30_6 := ah ek.out 6
   have hfz30_7 := ah ek.out 7
   try go_wp2
   refine bodyPost_ret (results_cell_row rfl _ _ iJ 45 #[.int .i64 aD, .string bJ, .string bH, .string t105, .int .u32 eu, .int .u32 fq, .int .i64 fA, .int .i64 3] (0, 0) _ rfl (by refine dL (cs := #[.int .i64 aD, .string bJ, .string bH, .string t105, .int .u32 eu, .int .u32 fq, .int .i64 fA, .int .i64 0]) ?_ 7 _ rfl; refine dL (cs := #[.int .i64 aD, .string bJ, .string bH, .string t105, .int .u32 eu, .int .u32 fq, .int .i64 0, .int .i64 0]) ?_ 6 _ rfl; refine dL (cs := #[.int .i64 aD, .string bJ, .string bH, .string t105, .int .u32 eu, .int .u32 0, .int .i64 0, .int .i64 0]) ?_ 5 _ rfl; refine dL (cs := #[.int .i64 aD, .string bJ, .string bH, .string t105, .int .u32 0, .int .u32 0, .int .i64 0, .int .i64 0]) ?_ 4 _ rfl; refine dL (cs := #[.int .i64 aD, .string bJ, .string bH, .string (⟨#[]⟩ : ByteArray), .int .u32 0, .int .u32 0, .int .i64 0, .int .i64 0]) ?_ 3 _ rfl; refine dL (cs := #[.int .i64 aD, .string bJ, .string (⟨#[]⟩ : ByteArray), .string (⟨#[]⟩ : ByteArray), .int .u32 0, .int .u32 0, .int .i64 0, .int .i64 0]) ?_ 2 _ rfl; refine dL (cs := #[.int .i64 aD, .string (⟨#[]⟩ : ByteArray), .string (⟨#[]⟩ : ByteArray), .string (⟨#[]⟩ : ByteArray), .int .u32 0, .int .u32 0, .int .i64 0, .int .i64 0]) ?_ 1 _ rfl; refine dL (cs := #[.int .i64 0, .string (⟨#[]⟩ : ByteArray), .string (⟨#[]⟩ : ByteArray), .string (⟨#[]⟩ : ByteArray), .int .u32 0, .int .u32 0, .int .i64 0, .int .i64 0]) ?_ 0 _ rfl; refine jH ?_ fC.out _; refine jH ?_ fC.out _; refine jH ?_ fC.out _; refine jH ?_ fC.out _; (with_reducible repeat (first | refine gz ?_ _ | refine dQ ?_ | refine gy ?_ _)); exact ek.out) Tryz.underlying45 rfl (by kernel_rfl)) rfl ?_
   exact ⟨by first | rfl | (simp [errW_none, errW_some] <;> rfl) | (simp [*, errW_none, errW_some] <;> rfl), by repeat (first | (with_reducible first | exact HB.out | apply au | apply ai | apply ak | refine bn ?_ dh.out | refine bn ?_ sj.out) | exact HB.out)⟩
  ·rw [if_neg c18] at H
   have yQ : decide (2147483648 < fe) = false := decide_eq_false c18
   clear c18
   simp only [Option.some.injEq, Prod.mk.injEq] at H
   obtain ⟨rfl, rfl, rfl, rfl, rfl, rfl, rfl, rfl⟩ := H
   go_enter Tryz.func21, Tryz.ntmps21
   try go_wp2_with (first | ((with_reducible refine bg (N := 1) rfl ?_); refine bE ?hg (N := 1) ?hd (cs := #[.int .i64 aD, .string aA, .string bU, .string bf, .int .u32 eu, .int .u32 fq, .int .i64 fA, .int .i64 fe]) (t := 45) ?hr ?_; (case hd => rfl); (case hg => rfl); (case hr => first | (go_simp; done) | (go_simp; rfl)); intro av hg w31 hbox hb; have ag := ae.mk (hbox); have GW101 := qge HB hg; have dh := qge HB hg; replace HB := ae.mk (aj (qw HB) hb); clear hb hbox hg) | ((with_reducible refine bg (N := 2) rfl ?_); refine bE ?hg (N := 2) ?hd (cs := #[.int .i64 0, .string (⟨#[]⟩ : ByteArray), .string (⟨#[]⟩ : ByteArray), .string (⟨#[]⟩ : ByteArray), .int .u32 0, .int .u32 0, .int .i64 0, .int .i64 0]) (t := 45) ?hr ?_; (case hd => rfl); (case hg => rfl); (case hr => first | (go_simp; done) | (go_simp; rfl)); intro iJ hg w32 hbox hb; have ek := ae.mk (hbox); have GW102 := qge HB hg; have sj := qge HB hg; replace HB := ae.mk (aj (qw HB) hb); have il := qnl ag hg; have fC := qng ag hg; replace ag := qbb ag hb; clear hb hbox hg))
   replace ag := ae.mk (dQ ag.out)
   replace ek := ae.mk (dQ ek.out)
   replace HB := ae.mk (ak HB.out)
   refine iP (n := 15) (S := fun w' => w'.cell? ⟨av, 0, none⟩ = some (.int .i64 aD) ∧ w'.cell? ⟨av, 1, none⟩ = some (.string aA) ∧ w'.cell? ⟨av, 2, none⟩ = some (.string bU) ∧ w'.cell? ⟨av, 3, none⟩ = some (.string bf) ∧ w'.cell? ⟨av, 4, none⟩ = some (.int .u32 eu) ∧ w'.cell? ⟨av, 5, none⟩ = some (.int .u32 fq) ∧ w'.cell? ⟨av, 6, none⟩ = some (.int .i64 fA) ∧ w'.cell? ⟨av, 7, none⟩ = some (.int .i64 fe)) (ds := [10, 12, 14]) #[bF,bF,bF,bF,bF,bF,bF,bF,bF,bF,bF,bF,bF,bF,bF] (by kernel_rfl) rfl rfl ⟨(af ag.out 0).trans rfl, (af ag.out 1).trans rfl, (af ag.out 2).trans rfl, (af ag.out 3).trans rfl, (af ag.out 4).trans rfl, (af ag.out 5).trans rfl, (af ag.out 6).trans rfl, (af ag.out 7).trans rfl⟩ (fun hHeld => ?_); refine fV bK.ou bK.lN (fun HT_ HW_ => ?_)
   generalize w32.drew = w33 at ag ek HB hHeld ⊢
   refine bL 0 (some 3) HT_ ?_
   refine bL 3 (some 6) HT_ ?_
   refine bL 6 (some 9) HT_ ?_
   refine fI 1 (some 4) HT_ HW_ hHeld ?_
   refine fI 4 (some 7) HT_ HW_ hHeld ?_
   refine fI 7 (some 10) HT_ HW_ hHeld ?_
   refine iW 2 (some 5) HT_ (fun K hK => ?_)
   refine gX Tryz.func25 #[.string aA] ?_
   with_reducible refine (bV.calls aA bJ _ A2.out).mono ?_
   rintro e w34 ⟨rfl, hb⟩
   refine ⟨_, rfl, ?_⟩
   replace ag := qbb ag hb
   replace ek := qbb ek hb
   replace HB := ae.mk (aj (qw HB) hb)
   (try clear hb)
   (try clear hb2)
   (try clear hk)
   (try clear hi)
   refine hK.out _ _ ⟨(af ag.out 0).trans rfl, (af ag.out 1).trans rfl, (af ag.out 2).trans rfl, (af ag.out 3).trans rfl, (af ag.out 4).trans rfl, (af ag.out 5).trans rfl, (af ag.out 6).trans rfl, (af ag.out 7).trans rfl⟩ (fun hHeld => ?_)
   clear hK K
   refine gD (some 5) ?_
   refine bL 9 (some 12) HT_ ?_
   refine iW 5 (some 8) HT_ (fun K hK => ?_)
   refine gX Tryz.func25 #[.string bU] ?_
   with_reducible refine (bV.calls bU bH _ A3.out).mono ?_
   rintro e w35 ⟨rfl, hb⟩
   refine ⟨_, rfl, ?_⟩
   replace ag := qbb ag hb
   replace ek := qbb ek hb
   replace HB := ae.mk (aj (qw HB) hb)
   (try clear hb)
   (try clear hb2)
   (try clear hk)
   (try clear hi)
   refine hK.out _ _ ⟨(af ag.out 0).trans rfl, (af ag.out 1).trans rfl, (af ag.out 2).trans rfl, (af ag.out 3).trans rfl, (af ag.out 4).trans rfl, (af ag.out 5).trans rfl, (af ag.out 6).trans rfl, (af ag.out 7).trans rfl⟩ (fun hHeld => ?_)
   clear hK K
   refine gD (some 8) ?_
   refine iW 8 (some 11) HT_ (fun K hK => ?_)
   refine gX Tryz.func25 #[.string bf] ?_
   with_reducible refine (bV.calls bf t105 _ A4.out).mono ?_
   rintro e w36 ⟨rfl, hb⟩
   refine ⟨_, rfl, ?_⟩
   replace ag := qbb ag hb
   replace ek := qbb ek hb
   replace HB := ae.mk (aj (qw HB) hb)
   (try clear hb)
   (try clear hb2)
   (try clear hk)
   (try clear hi)
   refine hK.out _ _ ⟨(af ag.out 0).trans rfl, (af ag.out 1).trans rfl, (af ag.out 2).trans rfl, (af ag.out 3).trans rfl, (af ag.out 4).trans rfl, (af ag.out 5).trans rfl, (af ag.out 6).trans rfl, (af ag.out 7).trans rfl⟩ (fun hHeld => ?_)
   clear hK K
   refine gD (some 11) ?_
   refine ny (i := 10) (N := none) #[bT,bT,bT,bT,bT,bT,bT,bT,bT,bT,bT,bF,bF,bF,bF] rfl rfl (kV HT_.out (by kernel_rfl)) (by decide) (fun K hK => ?_)
   have hs37 : w36.cell? ⟨av, 1, none⟩ = some (.string aA) := (af ag.out 1).trans rfl
   have hfs37 := ah ag.out 1
   have hns37_1 := fC.out
   have hms37_1 := il.out
   refine nz (w1 := ?_) (by rfl) rfl ?_ ?_
   rotate_left
   ·go_simp
    rfl
   refine hK.out _ _ ?_
   clear hK K
   refine bL 11 (some 13) HT_ ?_
   refine ny (i := 12) (N := none) #[bT,bT,bT,bT,bT,bT,bT,bT,bT,bT,bT,bT,bT,bF,bF] rfl rfl (kV HT_.out (by kernel_rfl)) (by decide) (fun K hK => ?_)
   have hs38 : w36.cell? ⟨av, 2, none⟩ = some (.string bU) := (af ag.out 2).trans rfl
   have hfs38 := ah ag.out 2
   have hns38_1 := fC.out
   have hms38_1 := il.out
   refine nz (w1 := ?_) (by rfl) rfl ?_ ?_
   rotate_left
   ·go_simp
    rfl
   refine hK.out _ _ ?_
   clear hK K
   refine bL 13 (some 14) HT_ ?_
   refine ny (i := 14) (N := none) #[bT,bT,bT,bT,bT,bT,bT,bT,bT,bT,bT,bT,bT,bT,bT] rfl rfl (kV HT_.out (by kernel_rfl)) (by decide) (fun K hK => ?_)
   have hs39 : w36.cell? ⟨av, 3, none⟩ = some (.string bf) := (af ag.out 3).trans rfl
   have hfs39 := ah ag.out 3
   have hns39_1 := fC.out
   have hms39_1 := il.out
   refine nz (w1 := ?_) (by rfl) rfl ?_ ?_
   rotate_left
   ·go_simp
    rfl
   refine hK.out _ _ ?_
   clear hK K
   refine jI HT_ ?_
   have hnb40 := il.out
   have hnc40 := fC.out
   have hcz41_0 : w36.cell? ⟨av, 0, none⟩ = some (.int .i64 aD) := (af ag.out 0).trans rfl
   have hcz41_1 : w36.cell? ⟨av, 1, none⟩ = some (.string aA) := (af ag.out 1).trans rfl
   have hcz41_2 : w36.cell? ⟨av, 2, none⟩ = some (.string bU) := (af ag.out 2).trans rfl
   have hcz41_3 : w36.cell? ⟨av, 3, none⟩ = some (.string bf) := (af ag.out 3).trans rfl
   have hcz41_4 : w36.cell? ⟨av, 4, none⟩ = some (.int .u32 eu) := (af ag.out 4).trans rfl
   have hcz41_5 : w36.cell? ⟨av, 5, none⟩ = some (.int .u32 fq) := (af ag.out 5).trans rfl
   have hcz41_6 : w36.cell? ⟨av, 6, none⟩ = some (.int .i64 fA) := (af ag.out 6).trans rfl
   have hcz41_7 : w36.cell? ⟨av, 7, none⟩ = some (.int .i64 fe) := (af ag.out 7).trans rfl
   have hfz41_0 := ah ag.out 0
   have hfz41_1 := ah ag.out 1
   have hfz41_2 := ah ag.out 2
   have hfz41_3 := ah ag.out 3
   have hfz41_4 := ah ag.out 4
   have hfz41_5 := ah ag.out 5
   have hfz41_6 := ah ag.out 6
   have hfz41_7 := ah ag.out 7
   have hcz42_0 : w36.cell? ⟨iJ, 0, none⟩ = some (.int .i64 0) := (af ek.out 0).trans rfl
   have hcz42_1 : w36.cell? ⟨iJ, 1, none⟩ = some (.string (⟨#[]⟩ : ByteArray)) := (af ek.out 1).trans rfl
   have hcz42_2 : w36.cell? ⟨iJ, 2, none⟩ = some (.string (⟨#[]⟩ : ByteArray)) := (af ek.out 2).trans rfl
   have hcz42_3 : w36.cell? ⟨iJ, 3, none⟩ = some (.string (⟨#[]⟩ : ByteArray)) := (af ek.out 3).trans rfl
   have hcz42_4 : w36.cell? ⟨iJ, 4, none⟩ = some (.int .u32 0) := (af ek.out 4).trans rfl
   have hcz42_5 : w36.cell? ⟨iJ, 5, none⟩ = some (.int .u32 0) := (af ek.out 5).trans rfl
   have hcz42_6 : w36.cell? ⟨iJ, 6, none⟩ = some (.int .i64 0) := (af ek.out 6).trans rfl
   have hcz42_7 : w36.cell? ⟨iJ, 7, none⟩ = some (.int .i64 0) := (af ek.out 7).trans rfl
   have hfz42_0 := ah ek.out 0
   have hfz42_1 := ah ek.out 1
   have hfz42_2 := ah ek.out 2
   have hfz42_3 := ah ek.out 3
   have hfz42_4 := ah ek.out 4
   have hfz42_5 := ah ek.out 5
   have hfz42_6 := ah ek.out 6
   have hfz42_7 := ah ek.out 7
   try go_wp2
   refine bodyPost_ret (results_cell_row rfl _ _ iJ 45 #[.int .i64 aD, .string bJ, .string bH, .string t105, .int .u32 eu, .int .u32 fq, .int .i64 fA, .int .i64 fe] (0, 0) _ rfl (by refine dL (cs := #[.int .i64 aD, .string bJ, .string bH, .string t105, .int .u32 eu, .int .u32 fq, .int .i64 fA, .int .i64 0]) ?_ 7 _ rfl; refine dL (cs := #[.int .i64 aD, .string bJ, .string bH, .string t105, .int .u32 eu, .int .u32 fq, .int .i64 0, .int .i64 0]) ?_ 6 _ rfl; refine dL (cs := #[.int .i64 aD, .string bJ, .string bH, .string t105, .int .u32 eu, .int .u32 0, .int .i64 0, .int .i64 0]) ?_ 5 _ rfl; refine dL (cs := #[.int .i64 aD, .string bJ, .string bH, .string t105, .int .u32 0, .int .u32 0, .int .i64 0, .int .i64 0]) ?_ 4 _ rfl; refine dL (cs := #[.int .i64 aD, .string bJ, .string bH, .string (⟨#[]⟩ : ByteArray), .int .u32 0, .int .u32 0, .int .i64 0, .int .i64 0]) ?_ 3 _ rfl; refine dL (cs := #[.int .i64 aD, .string bJ, .string (⟨#[]⟩ : ByteArray), .string (⟨#[]⟩ : ByteArray), .int .u32 0, .int .u32 0, .int .i64 0, .int .i64 0]) ?_ 2 _ rfl; refine dL (cs := #[.int .i64 aD, .string (⟨#[]⟩ : ByteArray), .string (⟨#[]⟩ : ByteArray), .string (⟨#[]⟩ : ByteArray), .int .u32 0, .int .u32 0, .int .i64 0, .int .i64 0]) ?_ 1 _ rfl; refine dL (cs := #[.int .i64 0, .string (⟨#[]⟩ : ByteArray), .string (⟨#[]⟩ : ByteArray), .string (⟨#[]⟩ : ByteArray), .int .u32 0, .int .u32 0, .int .i64 0, .int .i64 0]) ?_ 0 _ rfl; refine jH ?_ fC.out _; refine jH ?_ fC.out _; refine jH ?_ fC.out _; (with_reducible repeat (first | refine gz ?_ _ | refine dQ ?_ | refine gy ?_ _)); exact ek.out) Tryz.underlying45 rfl (by kernel_rfl)) rfl ?_
   exact ⟨by first | rfl | (simp [errW_none, errW_some] <;> rfl) | (simp [*, errW_none, errW_some] <;> rfl), by repeat (first | (with_reducible first | exact HB.out | apply au | apply ai | apply ak | refine bn ?_ dh.out | refine bn ?_ sj.out) | exact HB.out)⟩
end Go.Proofs.YteidaijpaijgpaaGreatDoor.P
end
section
set_option linter.unusedVariables false
set_option linter.unusedSimpArgs false
namespace Go.Proofs.YteidaijpaijgpaaGreatDoor.Pc
open Go.Proofs.YteidaijpaijgpaaGreatDoor.P Go.Proofs.YteidaijpaijgpaaGreatDoorW.ay Go.Proofs.YteidaijpaijgpaaGreatDoorW.aQ Go.Proofs.YteidaijpaijgpaaGreatDoorW.aZ Go.RowKit
abbrev Qy := S45
abbrev lf : ByteArray := ⟨#[10]⟩
def nH (l : List ByteArray) : ByteArray := ⟨(l.map (·.data.toList)).flatten.toArray⟩
theorem wZ (l : List ByteArray) : jW l (⟨#[]⟩ : ByteArray) = nH l := by
 refine jC ?_
 unfold jW nH
 simp only
 induction l with
 | nil => rfl
 | cons x l ih =>
  cases l with
  | nil => simp [Lib.join, List.intercalate]
  | cons y r =>
   have e : Lib.join ((x :: y :: r).map (·.data.toList)) ([] : List UInt8) = x.data.toList ++ Lib.join ((y :: r).map (·.data.toList)) [] := by simp [Lib.join, List.intercalate]
   simp at ih e ⊢
   rw [e, ih]
structure kT (q : Qy) : Prop where
 h1 : q.f1.size ≤ 1000
 h2 : q.f2.size ≤ 1000
 h3 : q.f3.size ≤ 1000
 h4 : 0 ≤ q.f4 ∧ q.f4 < 4294967296
 h5 : 0 ≤ q.f5.f0 ∧ q.f5.f0 < 4294967296
 h6 : -4611686018427387904 ≤ q.f6 ∧ q.f6 ≤ 4611686018427387904
def QQ (q : Qy) : ByteArray := QT q.f0 q.f1 q.f2 q.f3 q.f4 q.f5.f0 q.f5.f1 q.f6
def QL (q : Qy) : ByteArray := QQ q ++ lf
theorem xc {q : Qy} (h : kT q) : (QQ q).size ≤ 4000 := AO _ _ _ _ _ _ _ _ h.h1 h.h2 h.h3 h.h6.1 h.h6.2
theorem yU {q : Qy} (h : kT q) : (QL q).size ≤ 4001 := by
 have := xc h
 unfold QL; rw [iG]; show (QQ q).size + 1 ≤ 4001; omega
theorem Ce {q : Qy} (h : kT q) : Ev (fun k => dz.f k q.f0 q.f1 q.f2 q.f3 q.f4 q.f5.f0 q.f5.f1 q.f6) (QQ q) := yj _ _ _ _ _ _ _ _ h.h1 h.h2 h.h3 h.h4.1 h.h4.2 h.h5.1 h.h5.2 h.h6.1 h.h6.2
theorem AP {q : Qy} (h : kT q) : Ev (fun k => aK.f k q.f0 q.f1 q.f2 q.f3 q.f4 q.f5.f0 q.f5.f1 q.f6) (QQ q) := wW _ _ _ _ _ _ _ _ h.h1 h.h2 h.h3 h.h4.1 h.h4.2 h.h5.1 h.h5.2 h.h6.1 h.h6.2
theorem rdQ (l : List Qy) (i : Nat) (q : Qy) (h : l[i]? = some q) : aI l (i : Int) = q := by simp [aI, h]
theorem xe {α β : Type} (l : List α) (T : α → β) (e : β) (i d : Nat) (x : α) (hx : l[i]? = some x) : ((l.take i).map T ++ List.replicate (d + 1) e).set i (T x) = (l.take (i + 1)).map T ++ List.replicate d e := by
 have hi : i < l.length := (List.getElem?_eq_some_iff.1 hx).1
 have hl : ((l.take i).map T).length = i := by simp; omega
 rw [List.set_append_right _ _ (by omega), hl, Nat.sub_self, List.replicate_succ, List.set_cons_zero, List.take_add_one, hx]
 simp
theorem uW (l : List Qy) (hl : l.length ≤ 1000) (T : Qy → ByteArray) (hT : ∀ q ∈ l, Ev (fun k => eQ.f k q.f0 q.f1 q.f2 q.f3 q.f4 q.f5.f0 q.f5.f1 q.f6) (T q)) (d : Nat) : ∀ i : Nat, i + d = l.length →
  Ev (fun k => bW.l0 k ((l.take i).map T ++ List.replicate d (⟨#[]⟩ : ByteArray)) l (l.length : Int) (i : Int)) (l.map T) := by
 induction d with
 | zero =>
  intro i hi
  have hi : i = l.length := by omega
  subst hi
  refine Ev.step (f := fun _ => some (l.map T)) (fun k => ?_) (Ev.now _)
  rw [bW.l0, if_neg (by omega), List.take_length]
  simp
 | succ d ih =>
  intro i hi
  obtain ⟨q, hq⟩ : ∃ q, l[i]? = some q := ⟨_, List.getElem?_eq_getElem (show i < l.length by omega)⟩
  have hlen : ((l.take i).map T ++ List.replicate (d + 1) (⟨#[]⟩ : ByteArray)).length = l.length := by simp; omega
  refine Ev.step (f := fun k => (eQ.f k q.f0 q.f1 q.f2 q.f3 q.f4 q.f5.f0 q.f5.f1 q.f6).bind fun bG => (if (i : Int) < (((l.take i).map T ++ List.replicate (d + 1) (⟨#[]⟩ : ByteArray)).length : Int) then (bW.l0 k (((l.take i).map T ++ List.replicate (d + 1) (⟨#[]⟩ : ByteArray)).set (i : Int).toNat bG) l (l.length : Int) (wrap64 ((i : Int) + 1))) else (none))) (fun k => ?_) ?_
  ·rw [bW.l0, if_pos (by omega), if_pos (by omega), if_pos (by omega), rdQ l i q hq]
  ·refine Ev.bind (hT q (List.mem_of_getElem? hq)) (Ev.pos (by rw [hlen]; omega) ?_)
   rw [Int.toNat_natCast, xe l T _ i d q hq, w64 (by omega) (by omega)]
   exact ih (i + 1) (by omega)
theorem uX (l : List Qy) (hl : l.length ≤ 1000) (hg : ∀ q ∈ l, kT q) : Ev (fun k => fD.f k l) (nH (l.map QL)) := by
 have h1 : ∀ q ∈ l, Ev (fun k => eQ.f k q.f0 q.f1 q.f2 q.f3 q.f4 q.f5.f0 q.f5.f1 q.f6) (QL q) := fun q hq => by
  have := xc (hg q hq)
  unfold eQ.f
  exact Ev.bind (Ce (hg q hq)) (Ev.pos (by omega) (Ev.now _))
 have h2 : Ev (fun k => bW.f k l uA) (l.map QL) := by
  have h := uW l hl QL h1 l.length 0 (by omega)
  refine Ev.congr (fun k => ?_) h
  unfold bW.f
  rw [if_pos (by omega), if_pos (by rw [Int.toNat_natCast]; omega), Int.toNat_natCast]
  rfl
 have hs : ∀ ls : List Qy, (∀ q ∈ ls, kT q) → ((ls.map QL).map (·.size)).sum ≤ ls.length * 4001 := by
  intro ls
  induction ls with
  | nil => intro _; simp
  | cons q r ih =>
   intro hg
   have h3 := ih (fun q hq => hg q (List.mem_cons_of_mem _ hq))
   have h4 := yU (hg q List.mem_cons_self)
   simp at h3 ⊢
   omega
 unfold fD.f
 refine Ev.bind h2 (Ev.now' fun k => ?_)
 have := hs l hg
 rw [qN _ _ (by simp; omega) (by show _ + _ * 0 ≤ _; omega), Option.bind_some, wZ]
theorem ow (l : List Qy) (hl : l.length ≤ 1000) (hg : ∀ q ∈ l, kT q) (d : Nat) : ∀ (i : Nat) (acc : ByteArray), i + d = l.length → acc.size + d * 5000 ≤ 1000000000 →
  Ev (fun k => bX.l0 k l acc (i : Int)) (acc ++ nH ((l.drop i).map QL)) := by
 induction d with
 | zero =>
  intro i acc hi hs
  refine Ev.step (f := fun _ => some acc) (fun k => ?_) ?_
  ·rw [bX.l0, if_neg (by omega)]
  ·rw [List.drop_eq_nil_of_le (by omega)]
   exact Ev.now' fun k => congrArg some (jC (by simp [nH]))
 | succ d ih =>
  intro i acc hi hs
  have hlt : i < l.length := by omega
  obtain ⟨q, hq⟩ : ∃ q, l[i]? = some q := ⟨_, List.getElem?_eq_getElem hlt⟩
  have hgq := hg q (List.mem_of_getElem? hq)
  have hz := xc hgq
  have hz2 := yU hgq
  have hzl : (QQ q ++ (⟨#[10]⟩ : ByteArray)).size ≤ 4001 := hz2
  have hd : l.drop i = q :: l.drop (i + 1) := by
   obtain ⟨h, rfl⟩ := List.getElem?_eq_some_iff.1 hq
   exact List.drop_eq_getElem_cons h
  have hcat : acc ++ nH ((l.drop i).map QL) = (acc ++ (QQ q ++ (⟨#[10]⟩ : ByteArray))) ++ nH ((l.drop (i + 1)).map QL) := by
   rw [hd]; exact jC (by simp [nH, QL])
  rw [hcat]
  refine Ev.step (f := fun k => (aK.f k q.f0 q.f1 q.f2 q.f3 q.f4 q.f5.f0 q.f5.f1 q.f6).bind fun aJ => (if aJ.size + 1 ≤ 9223372036854775807 then (if acc.size + (aJ ++ (⟨#[10]⟩ : ByteArray)).size ≤ 9223372036854775807 then (bX.l0 k l (acc ++ (aJ ++ (⟨#[10]⟩ : ByteArray))) (wrap64 ((i : Int) + 1))) else (none)) else (none))) (fun k => ?_) ?_
  ·rw [bX.l0, if_pos (by omega), if_pos (by omega), rdQ l i q hq]
  ·refine Ev.bind (AP hgq) (Ev.pos (by omega) (Ev.pos (by omega) ?_))
   rw [w64 (by omega) (by omega)]
   exact ih (i + 1) _ (by omega) (by rw [iG]; omega)
theorem tV (l : List Qy) (hl : l.length ≤ 1000) (hg : ∀ q ∈ l, kT q) : Ev (fun k => bX.f k l) (nH (l.map QL)) := by
 have h := ow l hl hg l.length 0 (⟨#[]⟩ : ByteArray) (by omega) (by show 0 + _ ≤ _; omega)
 have e : (⟨#[]⟩ : ByteArray) ++ nH ((l.drop 0).map QL) = nH (l.map QL) := jC (by simp [nH])
 rw [e] at h
 exact h
def ku (s : ByteArray) : ByteArray := s.extract 0 (mn (s.size : Int) 20).toNat
theorem pO (s : ByteArray) : bV.f s = some (ku s) := by
 unfold bV.f mn
 have h : (if (20 : Int) < (s.size : Int) then (20 : Int) else (s.size : Int)) ≤ (s.size : Int) ∧ 0 ≤ (if (20 : Int) < (s.size : Int) then (20 : Int) else (s.size : Int)) := by split <;> omega
 rw [if_pos h.2, if_pos h.1]
 rfl
theorem pQ (s : ByteArray) : (ku s).size ≤ 20 := by
 unfold ku mn
 rw [ByteArray.size_extract]
 split <;> omega
def jU (q : Qy) : Qy := ⟨q.f0, ku q.f1, ku q.f2, ku q.f3, q.f4, ⟨q.f5.f0, q.f5.f1⟩, if q.f6 < -1000000 then 3 else if q.f6 > 2147483648 then 3 else q.f6⟩
theorem xg (q : Qy) : bK.f q.f0 q.f1 q.f2 q.f3 q.f4 q.f5.f0 q.f5.f1 q.f6 = some (q.f0, ku q.f1, ku q.f2, ku q.f3, q.f4, q.f5.f0, q.f5.f1, (jU q).f6) := by
 unfold bK.f jU
 rw [pO, Option.bind_some, pO, Option.bind_some, pO, Option.bind_some]
 simp only
 by_cases h : q.f6 < -1000000
 ·rw [if_pos h, if_pos h]
 ·rw [if_neg h, if_neg h]
  by_cases h2 : q.f6 > 2147483648
  ·rw [if_pos h2, if_pos h2]
  ·rw [if_neg h2, if_neg h2]
def yl (q : Qy) : Prop := (0 ≤ q.f4 ∧ q.f4 < 4294967296) ∧ (0 ≤ q.f5.f0 ∧ q.f5.f0 < 4294967296)
theorem tX {q : Qy} (h : yl q) : kT (jU q) := by
 have h1 := pQ q.f1
 have h2 := pQ q.f2
 have h3 := pQ q.f3
 refine ⟨Nat.le_trans h1 (by decide), Nat.le_trans h2 (by decide), Nat.le_trans h3 (by decide), h.1, h.2, ?_⟩
 unfold jU
 simp only
 repeat' split
 all_goals omega
end Go.Proofs.YteidaijpaijgpaaGreatDoor.Pc
end
section
namespace Go.Proofs.YteidaijpaijgpaaGreatDoor.Open
open Go.ChangeShapes Go.WideShapes Go.RowKit Go.Proofs.YteidaijpaijgpaaGreatDoor.P Go.Proofs.YteidaijpaijgpaaGreatDoorW.ay
set_option linter.unusedVariables false
theorem seven {α : Type} {l : List α} (h : l.length = 7) : ∃ a b c d e f g, l = [a, b, c, d, e, f, g] := by
  match l, h with
  | [a, b, c, d, e, f, g], _ => exact ⟨a, b, c, d, e, f, g, rfl⟩
theorem eight {α : Type} {l : List α} (h : l.length = 8) : ∃ a b c d e f g i, l = [a, b, c, d, e, f, g, i] := by
  match l, h with
  | [a, b, c, d, e, f, g, i], _ => exact ⟨a, b, c, d, e, f, g, i, rfl⟩
set_option maxRecDepth 100000 in
theorem qP : pF k25 25 (fun p => (0 ≤ p.f0 ∧ p.f0 < 4294967296) ∧ (-9223372036854775808 ≤ p.f1 ∧ p.f1 < 9223372036854775808)) := by
  intro H enc W fuel cs y h
  obtain ⟨xs, n, _, _, hl, hn, hf⟩ := DataW.trod_struct Tryz.underlying25 h
  have c0 : Tryz.prog.cellsOf 25 = 2 := by kernel_rfl
  have c1 : Tryz.prog.cellsOf 23 = 1 := by kernel_rfl
  have c2 : Tryz.prog.cellsOf 3 = 1 := by kernel_rfl
  rw [c0] at hl
  match cs, hl, xs, hn with
  | [a, b], _, [x, z], _ =>
    have f0 := hf 0 _ rfl
    have f1 := hf 1 _ rfl
    simp [c1, c2] at f0 f1
    obtain ⟨n0, e0, w0⟩ := lm Tryz.underlying23 f0
    obtain ⟨n1, e1, w1⟩ := lm Tryz.underlying3 f1
    obtain rfl : a = _ := by simpa [Kd.int, Kd.scalar] using e0
    obtain rfl : b = _ := by simpa [Kd.int, Kd.scalar] using e1
    exact ⟨⟨n0, n1⟩, ww W ⟨n0, n1⟩, wf_u32 w0, wf_i64 w1⟩
set_option maxRecDepth 100000 in
theorem su : pF k45 45 Pc.yl := by
  intro H enc W fuel cs y h
  obtain ⟨xs, n, _, _, hl, hn, hf⟩ := DataW.trod_struct Tryz.underlying45 h
  have c0 : Tryz.prog.cellsOf 45 = 8 := by kernel_rfl
  have c1 : Tryz.prog.cellsOf 23 = 1 := by kernel_rfl
  have c2 : Tryz.prog.cellsOf 3 = 1 := by kernel_rfl
  have c3 : Tryz.prog.cellsOf 9 = 1 := by kernel_rfl
  have c4 : Tryz.prog.cellsOf 25 = 2 := by kernel_rfl
  rw [c0] at hl
  obtain ⟨v0, v1, v2, v3, v4, v5, v6, v7, rfl⟩ := eight hl
  obtain ⟨x0, x1, x2, x3, x4, x5, x6, rfl⟩ := seven hn
  have f0 := hf 0 _ rfl
  have f1 := hf 1 _ rfl
  have f2 := hf 2 _ rfl
  have f3 := hf 3 _ rfl
  have f4 := hf 4 _ rfl
  have f5 := hf 5 _ rfl
  have f6 := hf 6 _ rfl
  simp [c1, c2, c3, c4] at f0 f1 f2 f3 f4 f5 f6
  obtain ⟨n0, e0, w0⟩ := lm Tryz.underlying3 f0
  obtain ⟨s1, e1, w1⟩ := lD Tryz.underlying9 f1
  obtain ⟨s2, e2, w2⟩ := lD Tryz.underlying9 f2
  obtain ⟨s3, e3, w3⟩ := lD Tryz.underlying9 f3
  obtain ⟨n4, e4, w4⟩ := lm Tryz.underlying23 f4
  obtain ⟨p5, e5, w5⟩ := qP f5
  obtain ⟨n6, e6, w6⟩ := lm Tryz.underlying3 f6
  have e5 := nD e5
  obtain rfl : v0 = _ := by simpa [Kd.int, Kd.scalar] using e0
  obtain rfl : v1 = _ := by simpa [Kd.string, Kd.scalar] using e1
  obtain rfl : v2 = _ := by simpa [Kd.string, Kd.scalar] using e2
  obtain rfl : v3 = _ := by simpa [Kd.string, Kd.scalar] using e3
  obtain rfl : v4 = _ := by simpa [Kd.int, Kd.scalar] using e4
  obtain rfl : v7 = _ := by simpa [Kd.int, Kd.scalar] using e6
  injection e5 with e5 e7
  injection e7 with e7
  subst e5 e7
  exact ⟨⟨n0, s1, s2, s3, n4, p5, n6⟩, zl W ⟨n0, s1, s2, s3, n4, p5, n6⟩, wf_u32 w4, w5.1⟩
end Go.Proofs.YteidaijpaijgpaaGreatDoor.Open
end
section
namespace Go.Proofs.YteidaijpaijgpaaGreatDoor.P
open Go.RowKit Go.Proofs.YteidaijpaijgpaaGreatDoorW.ay Go.Proofs.YteidaijpaijgpaaGreatDoorW.aQ Go.Proofs.YteidaijpaijgpaaGreatDoorW.aZ
attribute [local go_sem] bz bA bP bQ bq bu bB bC
set_option linter.unusedVariables false
set_option linter.unusedSimpArgs false
def gY.f (aD : Int) (aA : ByteArray) (bU : ByteArray) (bf : ByteArray) (eu : Int) (fq : Int) (fA : Int) (fe : Int) : Option (Bool) := some (decide (64 < fe))
set_option maxHeartbeats 8000000 in
set_option maxRecDepth 100000 in
theorem gY.calls (aD : Int) (aA : ByteArray) (bU : ByteArray) (bf : ByteArray) (eu : Int) (fq : Int) (fA : Int) (fe : Int) (r : Bool) (w : World) (h : gY.f aD aA bU bf eu fq fA fe = some r) :
  Calls Tryz.prog 42 #[.agg #[.int .i64 aD, .string aA, .string bU, .string bf, .int .u32 eu, .int .u32 fq, .int .i64 fA, .int .i64 fe]] w fun e w' => e = .returned (.bool r) ∧ Below w.heap.size w w' := by
 have hu45 := Tryz.underlying45
 have HB := ae.mk (Below.refl w.heap.size w)
 have H : (some (decide (64 < fe))) = some r := h
 clear h
 obtain rfl := Option.some.inj H
 go_enter Tryz.func42, Tryz.ntmps42
 go_wp2_with (first | ((with_reducible refine bg (N := 1) rfl ?_); refine bE ?hg (N := 1) ?hd (cs := #[.int .i64 aD, .string aA, .string bU, .string bf, .int .u32 eu, .int .u32 fq, .int .i64 fA, .int .i64 fe]) (t := 45) ?hr ?_; (case hd => rfl); (case hg => rfl); (case hr => first | (go_simp; done) | (go_simp; rfl)); intro av hg w2 hbox hb; have ag := ae.mk (hbox); have GW101 := qge HB hg; have dh := qge HB hg; replace HB := ae.mk (aj (qw HB) hb); clear hb hbox hg; have hcz3_0 : w2.cell? ⟨av, 0, none⟩ = some (.int .i64 aD) := (af ag.out 0).trans rfl; have hcz3_1 : w2.cell? ⟨av, 1, none⟩ = some (.string aA) := (af ag.out 1).trans rfl; have hcz3_2 : w2.cell? ⟨av, 2, none⟩ = some (.string bU) := (af ag.out 2).trans rfl; have hcz3_3 : w2.cell? ⟨av, 3, none⟩ = some (.string bf) := (af ag.out 3).trans rfl; have hcz3_4 : w2.cell? ⟨av, 4, none⟩ = some (.int .u32 eu) := (af ag.out 4).trans rfl; have hcz3_5 : w2.cell? ⟨av, 5, none⟩ = some (.int .u32 fq) := (af ag.out 5).trans rfl; have hcz3_6 : w2.cell? ⟨av, 6, none⟩ = some (.int .i64 fA) := (af ag.out 6).trans rfl; have hcz3_7 : w2.cell? ⟨av, 7, none⟩ = some (.int .i64 fe) := (af ag.out 7).trans rfl; have hfz3_0 := ah ag.out 0; have hfz3_1 := ah ag.out 1; have hfz3_2 := ah ag.out 2; have hfz3_3 := ah ag.out 3; have hfz3_4 := ah ag.out 4; have hfz3_5 := ah ag.out 5; have hfz3_6 := ah ag.out 6; have hfz3_7 := ah ag.out 7))
 go_ret
 exact ⟨by first | rfl | (simp [errW_none, errW_some] <;> rfl) | (simp [*, errW_none, errW_some] <;> rfl), by repeat (first | (with_reducible first | exact HB.out | apply au | apply ai | apply ak | refine bn ?_ dh.out) | exact HB.out)⟩
end Go.Proofs.YteidaijpaijgpaaGreatDoor.P
end
section
namespace Go.Proofs.YteidaijpaijgpaaGreatDoor.P
open Go.RowKit Go.Proofs.YteidaijpaijgpaaGreatDoorW.ay Go.Proofs.YteidaijpaijgpaaGreatDoorW.aQ Go.Proofs.YteidaijpaijgpaaGreatDoorW.aZ
attribute [local go_sem] bz bA bP bQ bq bu bB bC
set_option linter.unusedVariables false
set_option linter.unusedSimpArgs false
def bZ.l0 : Nat → List (S45) → Int → Int → Option (Int)
 | 0, _, _, _ => none
 | k + 1, x0, x7, x8 => if x8 < x7 then (if 0 ≤ x8 then (if x8 < (x0.length : Int) then ((gY.f ((aI x0 x8).f0) ((aI x0 x8).f1) ((aI x0 x8).f2) ((aI x0 x8).f3) ((aI x0 x8).f4) ((aI x0 x8).f5.f0) ((aI x0 x8).f5.f1) ((aI x0 x8).f6)).bind fun aJ => (if aJ = true then (some x8) else (bZ.l0 k x0 x7 (wrap64 (x8 + 1))))) else (none)) else (none)) else (some (-1))
def bZ.f (k : Nat) (l0 : List (S45)) (a1 : Bool) : Option (Int) := bZ.l0 k l0 (l0.length : Int) 0
theorem bZ.dF : ∀ k, (∀ y0 y1 y2, LeO (bZ.l0 k y0 y1 y2) (bZ.l0 (k + 1) y0 y1 y2))
 | 0 => fun _ _ _ r h => by simp [bZ.l0] at h
 | k + 1 => by
  have ih0 := bZ.dF k
  ·intro y0 y1 y2
   unfold bZ.l0
   repeat' first
   | (with_reducible exact ih0 _ _ _)
   | (with_reducible exact LeO.refl _)
   | (with_reducible exact LeO.none _)
   | (with_reducible refine LeO.ite ?_ ?_)
   | (with_reducible refine LeO.bind ?_ (fun _ => ?_))
   | exact ih0 _ _ _
   | exact LeO.none _
   | refine LeO.ite ?_ ?_
   | refine LeO.bind ?_ (fun _ => ?_)
theorem bZ.mono : ∀ a0 a1 k, LeO (bZ.f k a0 a1) (bZ.f (k + 1) a0 a1) := by
 intro a0 a1 k
 have ih0 := bZ.dF k
 unfold bZ.f
 repeat' first
   | (with_reducible exact ih0 _ _ _)
   | (with_reducible exact LeO.refl _)
   | (with_reducible exact LeO.none _)
   | (with_reducible refine LeO.ite ?_ ?_)
   | (with_reducible refine LeO.bind ?_ (fun _ => ?_))
   | exact ih0 _ _ _
   | exact LeO.none _
   | refine LeO.ite ?_ ?_
   | refine LeO.bind ?_ (fun _ => ?_)
set_option maxHeartbeats 8000000 in
set_option maxRecDepth 100000 in
theorem bZ.calls (k : Nat) (A0 : Option Addr) (c0 : Nat) (l0 : List (S45)) (a1 : Bool) (r : Int) (w : World) (hr0 : Kd.C k45 w A0 l0.length l0) (hc0 : l0.length ≤ c0) (h : bZ.f k l0 a1 = some r) :
  Calls Tryz.prog 78 #[.slice A0 l0.length c0, .func (.func 42) #[] #[]] w fun e w' => e = .returned (.int .i64 r) ∧ Below w.heap.size w w' := by
 have hu45 := Tryz.underlying45
 have HR0 := ae.mk hr0
 have HC0 := ae.mk hc0
 clear hr0 hc0
 have HB := ae.mk (Below.refl w.heap.size w)
 have H : (bZ.l0 k l0 (l0.length : Int) 0) = some r := h
 clear h
 have H' := ae.mk H
 clear H
 go_enter Tryz.func78, Tryz.ntmps78
 go_wp2
 go_loopg [8] k (fun kq v8 w' => ∃ (aW : Int), v8 = .int .i64 aW ∧ ae (bZ.l0 kq l0 (l0.length : Int) aW = some r) ∧ ae (kq ≤ k) ∧ ae (Below w.heap.size w w'))
 case atStart => exact ⟨(0), (by first | rfl | (simp; done) | (simp [*]; done)), H', ⟨Nat.le_refl _⟩, ⟨by repeat (first | (with_reducible first | exact HB.out | apply au | apply ai | apply ak) | exact HB.out)⟩⟩
 case round =>
  clear H'
  try clear p2
  obtain ⟨aW, rfl, HA, HK1, HB⟩ := hrel
  cases gk with
  | zero => exact absurd HA.out (by simp [bZ.l0])
  | succ k1 =>
   have H := HA.out
   clear HA
   simp only [bZ.l0] at H
   by_cases c3 : aW < (l0.length : Int)
   ·rw [if_pos c3] at H
    have gN : decide (aW < (l0.length : Int)) = true := decide_eq_true c3
    clear c3
    by_cases c4 : 0 ≤ aW
    ·rw [if_pos c4] at H
     have iQ : decide (0 ≤ aW) = true := decide_eq_true c4
     clear c4
     by_cases c5 : aW < (l0.length : Int)
     ·rw [if_pos c5] at H
      have jG : decide (aW < (l0.length : Int)) = true := decide_eq_true c5
      clear c5
      replace H := Option.bind_eq_some_iff.mp H
      obtain ⟨aJ, A60, H⟩ := H
      replace H : (if aJ = true then (some aW) else (bZ.l0 k1 l0 (l0.length : Int) (wrap64 (aW + 1)))) = some r := H
      have A6 := ae.mk A60
      clear A60
      by_cases c7 : aJ = true
      ·subst c7
       have H1 : (some aW) = some r := by rw [if_pos rfl] at H; exact H
       clear H
       have H := H1
       clear H1
       obtain rfl := Option.some.inj H
       have p101 : 0 ≤ (aW : Int) := of_decide_eq_true qa
       have q101 : aW < (l0.length : Int) := of_decide_eq_true qa
       obtain ⟨ad101, e101, hx101_0, hx101_1, hx101_2, hx101_3, hx101_4, hx101_5, hx101_6, hx101_7⟩ := ma HR0.out aW p101 q101
       cases e101
       replace hx101_0 := (HB.out.cell (World.block_lt_of_cell? w _ hx101_0)).trans hx101_0
       replace hx101_1 := (HB.out.cell (World.block_lt_of_cell? w _ hx101_1)).trans hx101_1
       replace hx101_2 := (HB.out.cell (World.block_lt_of_cell? w _ hx101_2)).trans hx101_2
       replace hx101_3 := (HB.out.cell (World.block_lt_of_cell? w _ hx101_3)).trans hx101_3
       replace hx101_4 := (HB.out.cell (World.block_lt_of_cell? w _ hx101_4)).trans hx101_4
       replace hx101_5 := (HB.out.cell (World.block_lt_of_cell? w _ hx101_5)).trans hx101_5
       replace hx101_6 := (HB.out.cell (World.block_lt_of_cell? w _ hx101_6)).trans hx101_6
       replace hx101_7 := (HB.out.cell (World.block_lt_of_cell? w _ hx101_7)).trans hx101_7
       replace p101 := eq_true p101
       replace q101 := eq_true q101
       go_wp2_with (first | ((with_reducible refine Go.Proofs.YteidaijpaijgpaaGreatDoorV.eG (s := 11) rfl ?_); refine Go.Proofs.YteidaijpaijgpaaGreatDoorV.gW (some 16) rfl rfl Tryz.func42 (by kernel_rfl) rfl #[.agg #[.int .i64 ((aI l0 aW).f0), .string ((aI l0 aW).f1), .string ((aI l0 aW).f2), .string ((aI l0 aW).f3), .int .u32 ((aI l0 aW).f4), .int .u32 ((aI l0 aW).f5.f0), .int .i64 ((aI l0 aW).f5.f1), .int .i64 ((aI l0 aW).f6)]] rfl qt ?_; (with_reducible refine (gY.calls ((aI l0 aW).f0) ((aI l0 aW).f1) ((aI l0 aW).f2) ((aI l0 aW).f3) ((aI l0 aW).f4) ((aI l0 aW).f5.f0) ((aI l0 aW).f5.f1) ((aI l0 aW).f6) true _ A6.out).mono ?_); rintro e w8 ⟨rfl, hb⟩; refine ⟨_, rfl, ?_⟩; replace HB := ae.mk (aj (qw HB) hb); (try clear hb); (try clear hb2); (try clear hk); (try clear hi)))
       go_ret
       exact ⟨by first | rfl | (simp [errW_none, errW_some] <;> rfl) | (simp [*, errW_none, errW_some] <;> rfl), by repeat (first | (with_reducible first | exact HB.out | apply au | apply ai | apply ak) | exact HB.out)⟩
      ·replace c7 := Bool.eq_false_iff.mpr c7
       subst c7
       have H1 : (bZ.l0 k1 l0 (l0.length : Int) (wrap64 (aW + 1))) = some r := by rw [if_neg (show ¬ (false = true) by decide)] at H; exact H
       clear H
       have H := H1
       clear H1
       have H' := ae.mk H
       clear H
       have p101 : 0 ≤ (aW : Int) := of_decide_eq_true qa
       have q101 : aW < (l0.length : Int) := of_decide_eq_true qa
       obtain ⟨ad101, e101, hx101_0, hx101_1, hx101_2, hx101_3, hx101_4, hx101_5, hx101_6, hx101_7⟩ := ma HR0.out aW p101 q101
       cases e101
       replace hx101_0 := (HB.out.cell (World.block_lt_of_cell? w _ hx101_0)).trans hx101_0
       replace hx101_1 := (HB.out.cell (World.block_lt_of_cell? w _ hx101_1)).trans hx101_1
       replace hx101_2 := (HB.out.cell (World.block_lt_of_cell? w _ hx101_2)).trans hx101_2
       replace hx101_3 := (HB.out.cell (World.block_lt_of_cell? w _ hx101_3)).trans hx101_3
       replace hx101_4 := (HB.out.cell (World.block_lt_of_cell? w _ hx101_4)).trans hx101_4
       replace hx101_5 := (HB.out.cell (World.block_lt_of_cell? w _ hx101_5)).trans hx101_5
       replace hx101_6 := (HB.out.cell (World.block_lt_of_cell? w _ hx101_6)).trans hx101_6
       replace hx101_7 := (HB.out.cell (World.block_lt_of_cell? w _ hx101_7)).trans hx101_7
       replace p101 := eq_true p101
       replace q101 := eq_true q101
       go_wp2_with (first | ((with_reducible refine Go.Proofs.YteidaijpaijgpaaGreatDoorV.eG (s := 11) rfl ?_); refine Go.Proofs.YteidaijpaijgpaaGreatDoorV.gW (some 16) rfl rfl Tryz.func42 (by kernel_rfl) rfl #[.agg #[.int .i64 ((aI l0 aW).f0), .string ((aI l0 aW).f1), .string ((aI l0 aW).f2), .string ((aI l0 aW).f3), .int .u32 ((aI l0 aW).f4), .int .u32 ((aI l0 aW).f5.f0), .int .i64 ((aI l0 aW).f5.f1), .int .i64 ((aI l0 aW).f6)]] rfl qt ?_; (with_reducible refine (gY.calls ((aI l0 aW).f0) ((aI l0 aW).f1) ((aI l0 aW).f2) ((aI l0 aW).f3) ((aI l0 aW).f4) ((aI l0 aW).f5.f0) ((aI l0 aW).f5.f1) ((aI l0 aW).f6) false _ A6.out).mono ?_); rintro e w9 ⟨rfl, hb⟩; refine ⟨_, rfl, ?_⟩; replace HB := ae.mk (aj (qw HB) hb); (try clear hb); (try clear hb2); (try clear hk); (try clear hi)))
       go_roundg k1
       case measure => have := HK1.out; omega
       case rel => exact ⟨(wrap64 (aW + 1)), (by first | rfl | (simp; done) | (simp [*]; done)), H', ⟨by have := HK1.out; omega⟩, ⟨by repeat (first | (with_reducible first | exact HB.out | apply au | apply ai | apply ak) | exact HB.out)⟩⟩
     ·rw [if_neg c5] at H
      exact absurd H (by simp)
    ·rw [if_neg c4] at H
     exact absurd H (by simp)
   ·rw [if_neg c3] at H
    have gN : decide (aW < (l0.length : Int)) = false := decide_eq_false c3
    clear c3
    obtain rfl := Option.some.inj H
    go_wp2
    go_ret
    exact ⟨by first | rfl | (simp [errW_none, errW_some] <;> rfl) | (simp [*, errW_none, errW_some] <;> rfl), by repeat (first | (with_reducible first | exact HB.out | apply au | apply ai | apply ak) | exact HB.out)⟩
end Go.Proofs.YteidaijpaijgpaaGreatDoor.P
end
section
namespace Go.Proofs.YteidaijpaijgpaaGreatDoor.P
open Go.RowKit Go.Proofs.YteidaijpaijgpaaGreatDoorW.ay Go.Proofs.YteidaijpaijgpaaGreatDoorW.aQ Go.Proofs.YteidaijpaijgpaaGreatDoorW.aZ
attribute [local go_sem] bz bA bP bQ bq bu bB bC
set_option linter.unusedVariables false
set_option linter.unusedSimpArgs false
def fP.f (k : Nat) (l0 : List (S45)) (a1 : Bool) : Option (Bool) := (bZ.f k l0 a1).bind fun bR => (some (decide (0 ≤ bR)))
theorem fP.mono : ∀ a0 a1 k, LeO (fP.f k a0 a1) (fP.f (k + 1) a0 a1) := by
 intro a0 a1 k
 unfold fP.f
 repeat' first
   | (with_reducible exact bZ.mono _ _ _)
   | (with_reducible exact LeO.refl _)
   | (with_reducible exact LeO.none _)
   | (with_reducible refine LeO.ite ?_ ?_)
   | (with_reducible refine LeO.bind ?_ (fun _ => ?_))
   | exact bZ.mono _ _ _
   | exact LeO.none _
   | refine LeO.ite ?_ ?_
   | refine LeO.bind ?_ (fun _ => ?_)
set_option maxHeartbeats 8000000 in
set_option maxRecDepth 100000 in
theorem fP.calls (k : Nat) (A0 : Option Addr) (c0 : Nat) (l0 : List (S45)) (a1 : Bool) (r : Bool) (w : World) (hr0 : Kd.C k45 w A0 l0.length l0) (hc0 : l0.length ≤ c0) (h : fP.f k l0 a1 = some r) :
  Calls Tryz.prog 41 #[.slice A0 l0.length c0, .func (.func 42) #[] #[]] w fun e w' => e = .returned (.bool r) ∧ Below w.heap.size w w' := by
 have HR0 := ae.mk hr0
 have HC0 := ae.mk hc0
 clear hr0 hc0
 have HB := ae.mk (Below.refl w.heap.size w)
 have H : ((bZ.f k l0 a1).bind fun bR => (some (decide (0 ≤ bR)))) = some r := h
 clear h
 replace H := Option.bind_eq_some_iff.mp H
 obtain ⟨bR, A30, H⟩ := H
 replace H : (some (decide (0 ≤ bR))) = some r := H
 have A3 := ae.mk A30
 clear A30
 obtain rfl := Option.some.inj H
 go_enter Tryz.func41, Tryz.ntmps41
 go_wp2_with (first | ((with_reducible refine aH (f := 78) rfl ?_); refine bN (some 7) rfl rfl Tryz.func78 (by kernel_rfl) rfl #[.slice A0 l0.length c0, .func (.func 42) #[] #[]] rfl qt ?_; (with_reducible refine (bZ.calls k _ _ l0 a1 bR _ ?aX ?aY A3.out).mono ?_); (case aX => exact qs (HR0.out)); (case aY => exact HC0.out); rintro e w4 ⟨rfl, hb⟩; refine ⟨_, rfl, ?_⟩; replace HB := ae.mk (aj (qw HB) hb); (try clear hb); (try clear hb2); (try clear hk); (try clear hi)))
 go_ret
 exact ⟨by first | rfl | (simp [errW_none, errW_some] <;> rfl) | (simp [*, errW_none, errW_some] <;> rfl), by repeat (first | (with_reducible first | exact HB.out | apply au | apply ai | apply ak) | exact HB.out)⟩
end Go.Proofs.YteidaijpaijgpaaGreatDoor.P
end
section
namespace Go.Proofs.YteidaijpaijgpaaGreatDoor.P
open Go.RowKit Go.Proofs.YteidaijpaijgpaaGreatDoorW.ay Go.Proofs.YteidaijpaijgpaaGreatDoorW.aQ Go.Proofs.YteidaijpaijgpaaGreatDoorW.aZ
attribute [local go_sem] bz bA bP bQ bq bu bB bC
set_option linter.unusedVariables false
set_option linter.unusedSimpArgs false
def bI.f (k : Nat) (l0 : List (S45)) : Option (Bool) := if (l0.length : Int) > 32 then (some false) else ((fP.f k l0 rQ).bind fun bR => (if bR = true then (some false) else ((fD.f k l0).bind fun aJ => (some (decide ((aJ.size : Int) ≤ 8192))))))
theorem bI.mono : ∀ a0 k, LeO (bI.f k a0) (bI.f (k + 1) a0) := by
 intro a0 k
 unfold bI.f
 repeat' first
   | (with_reducible exact fP.mono _ _ _)
   | (with_reducible exact fD.mono _ _)
   | (with_reducible exact LeO.refl _)
   | (with_reducible exact LeO.none _)
   | (with_reducible refine LeO.ite ?_ ?_)
   | (with_reducible refine LeO.bind ?_ (fun _ => ?_))
   | exact fP.mono _ _ _
   | exact fD.mono _ _
   | exact LeO.none _
   | refine LeO.ite ?_ ?_
   | refine LeO.bind ?_ (fun _ => ?_)
set_option maxHeartbeats 8000000 in
set_option maxRecDepth 100000 in
theorem bI.calls (k : Nat) (A0 : Option Addr) (c0 : Nat) (l0 : List (S45)) (r : Bool) (w : World) (hr0 : Kd.C k45 w A0 l0.length l0) (hc0 : l0.length ≤ c0) (h : bI.f k l0 = some r) (HGT : ae (Go.Proofs.YteidaijpaijgpaaGreatDoorV.GT w)) :
  Calls Tryz.prog 22 #[.slice A0 l0.length c0] w fun e w' => e = .returned (.bool r) ∧ Below w.heap.size w w' := by
 have HR0 := ae.mk hr0
 have HC0 := ae.mk hc0
 clear hr0 hc0
 have HB := ae.mk (Below.refl w.heap.size w)
 have H : (if (l0.length : Int) > 32 then (some false) else ((fP.f k l0 rQ).bind fun bR => (if bR = true then (some false) else ((fD.f k l0).bind fun aJ => (some (decide ((aJ.size : Int) ≤ 8192))))))) = some r := h
 clear h
 by_cases c2 : (l0.length : Int) > 32
 ·rw [if_pos c2] at H
  have jF : decide (32 < (l0.length : Int)) = true := decide_eq_true c2
  have mI : decide (32 < l0.length) = true := decide_eq_true (by omega)
  clear c2
  obtain rfl := Option.some.inj H
  go_enter Tryz.func22, Tryz.ntmps22
  go_wp2
  go_ret
  exact ⟨by first | rfl | (simp [errW_none, errW_some] <;> rfl) | (simp [*, errW_none, errW_some] <;> rfl), by repeat (first | (with_reducible first | exact HB.out | apply au | apply ai | apply ak) | exact HB.out)⟩
 ·rw [if_neg c2] at H
  have jF : decide (32 < (l0.length : Int)) = false := decide_eq_false c2
  have mI : decide (32 < l0.length) = false := decide_eq_false (by omega)
  clear c2
  replace H := Option.bind_eq_some_iff.mp H
  obtain ⟨bR, A30, H⟩ := H
  replace H : (if bR = true then (some false) else ((fD.f k l0).bind fun aJ => (some (decide ((aJ.size : Int) ≤ 8192))))) = some r := H
  have A3 := ae.mk A30
  clear A30
  by_cases c4 : bR = true
  ·subst c4
   have H1 : (some false) = some r := by rw [if_pos rfl] at H; exact H
   clear H
   have H := H1
   clear H1
   obtain rfl := Option.some.inj H
   go_enter Tryz.func22, Tryz.ntmps22
   go_wp2_with (first | (go_at_call 41; (with_reducible refine (fP.calls k _ _ l0 rQ true _ ?aX ?aY A3.out).mono ?_); (case aX => exact qs (HR0.out)); (case aY => exact HC0.out); rintro e w5 ⟨rfl, hb⟩; replace HB := ae.mk (aj (qw HB) hb); (try clear hb); (try clear hb2); (try clear hk); (try clear hi)))
   go_ret
   exact ⟨by first | rfl | (simp [errW_none, errW_some] <;> rfl) | (simp [*, errW_none, errW_some] <;> rfl), by repeat (first | (with_reducible first | exact HB.out | apply au | apply ai | apply ak) | exact HB.out)⟩
  ·replace c4 := Bool.eq_false_iff.mpr c4
   subst c4
   have H1 : ((fD.f k l0).bind fun aJ => (some (decide ((aJ.size : Int) ≤ 8192)))) = some r := by rw [if_neg (show ¬ (false = true) by decide)] at H; exact H
   clear H
   have H := H1
   clear H1
   replace H := Option.bind_eq_some_iff.mp H
   obtain ⟨aJ, A60, H⟩ := H
   replace H : (some (decide ((aJ.size : Int) ≤ 8192))) = some r := H
   have A6 := ae.mk A60
   clear A60
   obtain rfl := Option.some.inj H
   go_enter Tryz.func22, Tryz.ntmps22
   go_wp2_with (first | (go_at_call 41; (with_reducible refine (fP.calls k _ _ l0 rQ false _ ?aX ?aY A3.out).mono ?_); (case aX => exact qs (HR0.out)); (case aY => exact HC0.out); rintro e w7 ⟨rfl, hb⟩; replace HB := ae.mk (aj (qw HB) hb); (try clear hb); (try clear hb2); (try clear hk); (try clear hi)) | ((with_reducible refine aH (f := 43) rfl ?_); refine bN (some 11) rfl rfl Tryz.func43 (by kernel_rfl) rfl #[.slice A0 l0.length c0] rfl qt ?_; (with_reducible refine (fD.calls k _ _ l0 aJ _ ?aX ?aY A6.out ?gt).mono ?_); (case gt => exact Go.Proofs.YteidaijpaijgpaaGreatDoorV.GT.below HGT (qw HB)); (case aX => exact qs ((Kd.dC HR0.out HB.out))); (case aY => exact HC0.out); rintro e w8 ⟨rfl, hb⟩; refine ⟨_, rfl, ?_⟩; replace HB := ae.mk (aj (qw HB) hb); (try clear hb); (try clear hb2); (try clear hk); (try clear hi)))
   go_ret
   exact ⟨by first | rfl | (simp [errW_none, errW_some] <;> rfl) | (simp [*, errW_none, errW_some] <;> rfl), by repeat (first | (with_reducible first | exact HB.out | apply au | apply ai | apply ak) | exact HB.out)⟩
end Go.Proofs.YteidaijpaijgpaaGreatDoor.P
end
section
namespace Go.Proofs.YteidaijpaijgpaaGreatDoor.P
open Go.RowKit Go.Proofs.YteidaijpaijgpaaGreatDoorW.ay Go.Proofs.YteidaijpaijgpaaGreatDoorW.aQ Go.Proofs.YteidaijpaijgpaaGreatDoorW.aZ
attribute [local go_sem] bz bA bP bQ bq bu bB bC
set_option linter.unusedVariables false
set_option linter.unusedSimpArgs false
def gM.f (a0 : ByteArray) : Option (Bool) := some (decide (12 < (a0.size : Int)))
set_option maxHeartbeats 8000000 in
set_option maxRecDepth 100000 in
theorem gM.calls (a0 : ByteArray) (r : Bool) (w : World) (h : gM.f a0 = some r) :
  Calls Tryz.prog 71 #[.string a0] w fun e w' => e = .returned (.bool r) ∧ eT w w' := by
 have H : (some (decide (12 < (a0.size : Int)))) = some r := h
 clear h
 obtain rfl := Option.some.inj H
 go_enter Tryz.func71, Tryz.ntmps71
 go_wp2
 go_ret
 exact ⟨by first | rfl | (simp; done) | (simp [*]; done), by repeat (first | exact eT.refl _ | apply eT.step)⟩
end Go.Proofs.YteidaijpaijgpaaGreatDoor.P
end
section
namespace Go.Proofs.YteidaijpaijgpaaGreatDoor.P
open Go.RowKit Go.Proofs.YteidaijpaijgpaaGreatDoorW.ay Go.Proofs.YteidaijpaijgpaaGreatDoorW.aQ Go.Proofs.YteidaijpaijgpaaGreatDoorW.aZ
attribute [local go_sem] bz bA bP bQ bq bu bB bC
set_option linter.unusedVariables false
set_option linter.unusedSimpArgs false
def jl.f (a0 : Int) : Option (Int) := if a0 < 2 then (some 2) else (if a0 > 36 then (some 2) else (some 0))
set_option maxHeartbeats 8000000 in
set_option maxRecDepth 100000 in
theorem jl.calls (a0 : Int) (r : Int) (w : World) (h : jl.f a0 = some r) :
  Calls Tryz.prog 123 #[.int .i64 a0] w fun e w' => e = .returned (.int .i64 r) ∧ eT w w' := by
 have H : (if a0 < 2 then (some 2) else (if a0 > 36 then (some 2) else (some 0))) = some r := h
 clear h
 by_cases c2 : a0 < 2
 ·rw [if_pos c2] at H
  have jF : decide (a0 < 2) = true := decide_eq_true c2
  clear c2
  obtain rfl := Option.some.inj H
  go_enter Tryz.func123, Tryz.ntmps123
  go_wp2
  go_ret
  exact ⟨by first | rfl | (simp; done) | (simp [*]; done), by repeat (first | exact eT.refl _ | apply eT.step)⟩
 ·rw [if_neg c2] at H
  have jF : decide (a0 < 2) = false := decide_eq_false c2
  clear c2
  by_cases c3 : a0 > 36
  ·rw [if_pos c3] at H
   have gN : decide (36 < a0) = true := decide_eq_true c3
   clear c3
   obtain rfl := Option.some.inj H
   go_enter Tryz.func123, Tryz.ntmps123
   go_wp2
   go_ret
   exact ⟨by first | rfl | (simp; done) | (simp [*]; done), by repeat (first | exact eT.refl _ | apply eT.step)⟩
  ·rw [if_neg c3] at H
   have gN : decide (36 < a0) = false := decide_eq_false c3
   clear c3
   obtain rfl := Option.some.inj H
   go_enter Tryz.func123, Tryz.ntmps123
   go_wp2
   go_ret
   exact ⟨by first | rfl | (simp; done) | (simp [*]; done), by repeat (first | exact eT.refl _ | apply eT.step)⟩
end Go.Proofs.YteidaijpaijgpaaGreatDoor.P
end
section
namespace Go.Proofs.YteidaijpaijgpaaGreatDoor.P
open Go.RowKit Go.Proofs.YteidaijpaijgpaaGreatDoorW.ay Go.Proofs.YteidaijpaijgpaaGreatDoorW.aQ Go.Proofs.YteidaijpaijgpaaGreatDoorW.aZ
attribute [local go_sem] bz bA bP bQ bq bu bB bC
set_option linter.unusedVariables false
set_option linter.unusedSimpArgs false
def dE.l0 : Nat → Int → Int → Int → Option (Int × Int)
 | 0, _, _, _ => none
 | k + 1, x0, x4, x5 => if (IntKind.u64.wrap (x4 * (IntKind.u64.wrap (x0)))) < 4294967296 then (dE.l0 k x0 (IntKind.u64.wrap (x4 * (IntKind.u64.wrap (x0)))) (wrap64 (x5 + 1))) else (some (x4, x5))
def dE.f (k : Nat) (a0 : Int) : Option (Int × Int) := dE.l0 k a0 (IntKind.u64.wrap (a0)) 1
theorem dE.dF : ∀ k, (∀ y0 y1 y2, LeO (dE.l0 k y0 y1 y2) (dE.l0 (k + 1) y0 y1 y2))
 | 0 => fun _ _ _ r h => by simp [dE.l0] at h
 | k + 1 => by
  have ih0 := dE.dF k
  ·intro y0 y1 y2
   unfold dE.l0
   repeat' first
   | (with_reducible exact ih0 _ _ _)
   | (with_reducible exact LeO.refl _)
   | (with_reducible exact LeO.none _)
   | (with_reducible refine LeO.ite ?_ ?_)
   | (with_reducible refine LeO.bind ?_ (fun _ => ?_))
   | exact ih0 _ _ _
   | exact LeO.none _
   | refine LeO.ite ?_ ?_
   | refine LeO.bind ?_ (fun _ => ?_)
theorem dE.mono : ∀ a0 k, LeO (dE.f k a0) (dE.f (k + 1) a0) := by
 intro a0 k
 have ih0 := dE.dF k
 unfold dE.f
 repeat' first
   | (with_reducible exact ih0 _ _ _)
   | (with_reducible exact LeO.refl _)
   | (with_reducible exact LeO.none _)
   | (with_reducible refine LeO.ite ?_ ?_)
   | (with_reducible refine LeO.bind ?_ (fun _ => ?_))
   | exact ih0 _ _ _
   | exact LeO.none _
   | refine LeO.ite ?_ ?_
   | refine LeO.bind ?_ (fun _ => ?_)
set_option maxHeartbeats 8000000 in
set_option maxRecDepth 100000 in
theorem dE.calls (k : Nat) (a0 : Int) (r1 : Int) (r2 : Int) (w : World) (h : dE.f k a0 = some (r1, r2)) :
  Calls Tryz.prog 124 #[.int .i64 a0] w fun e w' => e = .returned (.tuple #[.int .u64 r1, .int .i64 r2]) ∧ eT w w' := by
 have H : (dE.l0 k a0 (IntKind.u64.wrap (a0)) 1) = some (r1, r2) := h
 clear h
 have H' := ae.mk H
 clear H
 go_enter Tryz.func124, Tryz.ntmps124
 go_wp2
 go_loopg [4, 5] k (fun kq v4 v5 w' => ∃ (fH : Int) (cZ : Int), v4 = .int .u64 fH ∧ v5 = .int .i64 cZ ∧ ae (dE.l0 kq a0 fH cZ = some (r1, r2)) ∧ ae (kq ≤ k) ∧ eT w w')
 case atStart => exact ⟨(IntKind.u64.wrap (a0)), (1), (by first | rfl | (simp; done) | (simp [*]; done)), (by first | rfl | (simp; done) | (simp [*]; done)), H', ⟨Nat.le_refl _⟩, by repeat (first | exact eT.refl _ | apply eT.step)⟩
 case round =>
  clear H'
  try clear c1
  obtain ⟨fH, cZ, rfl, rfl, HA, HK1, ⟨m1, rfl⟩⟩ := hrel
  cases gk with
  | zero => exact absurd HA.out (by simp [dE.l0])
  | succ k1 =>
   have H := HA.out
   clear HA
   simp only [dE.l0] at H
   by_cases c2 : (IntKind.u64.wrap (fH * (IntKind.u64.wrap (a0)))) < 4294967296
   ·rw [if_pos c2] at H
    have jF : decide ((IntKind.u64.wrap (fH * (IntKind.u64.wrap (a0)))) < 4294967296) = true := decide_eq_true c2
    clear c2
    have H' := ae.mk H
    clear H
    go_wp2
    go_roundg k1
    case measure => have := HK1.out; omega
    case rel => exact ⟨(IntKind.u64.wrap (fH * (IntKind.u64.wrap (a0)))), (wrap64 (cZ + 1)), (by first | rfl | (simp; done) | (simp [*]; done)), (by first | rfl | (simp; done) | (simp [*]; done)), H', ⟨by have := HK1.out; omega⟩, by repeat (first | exact eT.refl _ | apply eT.step)⟩
   ·rw [if_neg c2] at H
    have jF : decide ((IntKind.u64.wrap (fH * (IntKind.u64.wrap (a0)))) < 4294967296) = false := decide_eq_false c2
    clear c2
    simp only [Option.some.injEq, Prod.mk.injEq] at H
    obtain ⟨rfl, rfl⟩ := H
    go_wp2
    go_ret2
    exact ⟨by first | rfl | (simp; done) | (simp [*]; done), by repeat (first | exact eT.refl _ | apply eT.step)⟩
end Go.Proofs.YteidaijpaijgpaaGreatDoor.P
end
section
namespace Go.Proofs.YteidaijpaijgpaaGreatDoor.P
open Go.RowKit Go.Proofs.YteidaijpaijgpaaGreatDoorW.ay Go.Proofs.YteidaijpaijgpaaGreatDoorW.aQ Go.Proofs.YteidaijpaijgpaaGreatDoorW.aZ
attribute [local go_sem] bz bA bP bQ bq bu bB bC
set_option linter.unusedVariables false
set_option linter.unusedSimpArgs false
def df.l0 : Nat → Int → Int → Int → List Int → Int → Int → Option (ByteArray)
 | 0, _, _, _, _, _, _ => none
 | k + 1, x0, x1, x2, x7, x11, x12 => if x12 < x11 then (if (IntKind.u64.wrap (x1)) = 0 then (none) else (if 0 ≤ (Int.tmod x0 (IntKind.u64.wrap (x1))) then (if (Int.tmod x0 (IntKind.u64.wrap (x1))) < 36 then (if 0 ≤ (wrap64 ((wrap64 (x2 - 1)) - x12)) then (if (wrap64 ((wrap64 (x2 - 1)) - x12)) < (x7.length : Int) then (df.l0 k (IntKind.u64.wrap (Int.tdiv x0 (IntKind.u64.wrap (x1)))) x1 x2 (x7.set ((wrap64 ((wrap64 (x2 - 1)) - x12)) : Int).toNat (bt (⟨#[48, 49, 50, 51, 52, 53, 54, 55, 56, 57, 97, 98, 99, 100, 101, 102, 103, 104, 105, 106, 107, 108, 109, 110, 111, 112, 113, 114, 115, 116, 117, 118, 119, 120, 121, 122]⟩ : ByteArray) (Int.tmod x0 (IntKind.u64.wrap (x1))))) x11 (wrap64 (x12 + 1))) else (none)) else (none)) else (none)) else (none))) else (some (strOfNums x7))
def df.f (k : Nat) (a0 : Int) (a1 : Int) (a2 : Int) : Option (ByteArray) := if 0 ≤ a2 then (if (a2 : Int).toNat ≤ 281474976710656 then (df.l0 k a0 a1 a2 (List.replicate (a2 : Int).toNat 0) a2 0) else (none)) else (none)
theorem df.dF : ∀ k, (∀ y0 y1 y2 y3 y4 y5, LeO (df.l0 k y0 y1 y2 y3 y4 y5) (df.l0 (k + 1) y0 y1 y2 y3 y4 y5))
 | 0 => fun _ _ _ _ _ _ r h => by simp [df.l0] at h
 | k + 1 => by
  have ih0 := df.dF k
  ·intro y0 y1 y2 y3 y4 y5
   unfold df.l0
   repeat' first
   | (with_reducible exact ih0 _ _ _ _ _ _)
   | (with_reducible exact LeO.refl _)
   | (with_reducible exact LeO.none _)
   | (with_reducible refine LeO.ite ?_ ?_)
   | (with_reducible refine LeO.bind ?_ (fun _ => ?_))
   | exact ih0 _ _ _ _ _ _
   | exact LeO.none _
   | refine LeO.ite ?_ ?_
   | refine LeO.bind ?_ (fun _ => ?_)
theorem df.mono : ∀ a0 a1 a2 k, LeO (df.f k a0 a1 a2) (df.f (k + 1) a0 a1 a2) := by
 intro a0 a1 a2 k
 have ih0 := df.dF k
 unfold df.f
 repeat' first
   | (with_reducible exact ih0 _ _ _ _ _ _)
   | (with_reducible exact LeO.refl _)
   | (with_reducible exact LeO.none _)
   | (with_reducible refine LeO.ite ?_ ?_)
   | (with_reducible refine LeO.bind ?_ (fun _ => ?_))
   | exact ih0 _ _ _ _ _ _
   | exact LeO.none _
   | refine LeO.ite ?_ ?_
   | refine LeO.bind ?_ (fun _ => ?_)
set_option maxHeartbeats 8000000 in
set_option maxRecDepth 100000 in
theorem df.calls (k : Nat) (a0 : Int) (a1 : Int) (a2 : Int) (r : ByteArray) (w : World) (h : df.f k a0 a1 a2 = some r) :
  Calls Tryz.prog 127 #[.int .u64 a0, .int .i64 a1, .int .i64 a2] w fun e w' => e = .returned (.string r) ∧ Below w.heap.size w w' := by
 have HB := ae.mk (Below.refl w.heap.size w)
 have H : (if 0 ≤ a2 then (if (a2 : Int).toNat ≤ 281474976710656 then (df.l0 k a0 a1 a2 (List.replicate (a2 : Int).toNat 0) a2 0) else (none)) else (none)) = some r := h
 clear h
 by_cases c4 : 0 ≤ a2
 ·rw [if_pos c4] at H
  have iQ := eq_true c4
  have jv : decide (0 ≤ a2) = true := decide_eq_true c4
  clear c4
  by_cases c5 : (a2 : Int).toNat ≤ 281474976710656
  ·rw [if_pos c5] at H
   have jG := eq_true c5
   have lS : decide ((a2 : Int).toNat ≤ 281474976710656) = true := decide_eq_true c5
   clear c5
   obtain ⟨y101, hy101⟩ : ∃ y_ : List Int, y_ = (List.replicate (a2 : Int).toNat 0) := ⟨_, rfl⟩
   replace H : (df.l0 k a0 a1 a2 y101 a2 0) = some r := by first | (rw [hy101]; with_reducible exact H) | (have H2_ := (Option.bind_some _ _).symm.trans H; rw [hy101]; with_reducible exact H2_) | (have H2_ := (Option.bind_some _ _).symm.trans H; with_reducible exact H2_) | with_reducible exact H | (rw [hy101]; exact H) | exact H
   have Ny101 := ae.mk hy101
   clear hy101
   have H' := ae.mk H
   clear H
   go_enter Tryz.func127, Tryz.ntmps127
   go_wp2_with (first | ((with_reducible refine bg (N := 10) rfl ?_); refine Kd.kC (Kd.int .u8) _ 5 rfl (N := 10) rfl 98 _ _ rfl a2 rfl rfl Tryz.underlying98 (.int .u8 0) 1 info5 rfl (by decide) (by omega) 0 (ok := fun _ => True) (okp := fun _ => True) rfl (fun _ hk => hk) trivial (of_decide_eq_true qa) (Nat.le_trans (Nat.mul_le_mul_right _ (of_decide_eq_true qa : a2.toNat ≤ 281474976710656)) (by omega)) (Below.refl _ _) (Nat.le_refl _) ?_; intro v102 w6 ho7 hb hg_ hnew_; clear hg_ hnew_; (first | rw [← Ny101.out] at ho7 | (simp only [Int.reduceToNat] at ho7; rw [← Ny101.out] at ho7)); have eX := ae.mk (Kd.dI ho7 (bi (qw HB))); replace HB := ae.mk (aj (qw HB) hb); clear hb ho7))
   go_loopg [0, 12] k (fun kq v0 v12 w' => ∃ (sw : Int) (jM : List Int) (gK : Int), v0 = .int .u64 sw ∧ v12 = .int .i64 gK ∧ ae (df.l0 kq sw a1 a2 jM a2 gK = some r) ∧ ae (kq ≤ k) ∧ ae (Kd.R (Kd.int .u8) 5 w' w.heap.size (fun _ => True) v102 jM) ∧ ae (Below w.heap.size w w'))
   case atStart => exact ⟨(a0), (y101), (0), (by first | rfl | (simp; done) | (simp [*]; done)), (by first | rfl | (simp; done) | (simp [*]; done)), H', ⟨Nat.le_refl _⟩, ⟨by (with_reducible repeat (first | apply Kd.di | apply Kd.dm | apply Kd.dR)); exact eX.out⟩, ⟨by repeat (first | (with_reducible first | exact HB.out | apply au | apply ai | apply ak) | exact HB.out)⟩⟩
   case round =>
    clear H'
    try clear c1
    try clear p2
    try clear c4
    try clear iQ
    try clear jv
    try clear c5
    try clear jG
    try clear lS
    obtain ⟨sw, jM, gK, rfl, rfl, HA, HK1, kY, HB⟩ := hrel
    cases gk with
    | zero => exact absurd HA.out (by simp [df.l0])
    | succ k1 =>
     have H := HA.out
     clear HA
     simp only [df.l0] at H
     by_cases c8 : gK < a2
     ·rw [if_pos c8] at H
      have kK : decide (gK < a2) = true := decide_eq_true c8
      clear c8
      by_cases c9 : (IntKind.u64.wrap (a1)) = 0
      ·rw [if_pos c9] at H
       exact absurd H (by simp)
      ·rw [if_neg c9] at H
       have lT : ((IntKind.u64.wrap (a1)) == 0) = false := beq_eq_false_iff_ne.mpr c9
       have rV : ((IntKind.u64.wrap (a1)) != 0) = true := bne_iff_ne.mpr c9
       obtain ⟨ji10, hji10⟩ : ∃ j_ : Int, (Int.tmod sw (IntKind.u64.wrap (a1))) = j_ := ⟨_, rfl⟩
       replace H : (if 0 ≤ (ji10) then (if (ji10) < 36 then (if 0 ≤ (wrap64 ((wrap64 (a2 - 1)) - gK)) then (if (wrap64 ((wrap64 (a2 - 1)) - gK)) < (jM.length : Int) then (df.l0 k1 (IntKind.u64.wrap (Int.tdiv sw (IntKind.u64.wrap (a1)))) a1 a2 (jM.set ((wrap64 ((wrap64 (a2 - 1)) - gK)) : Int).toNat (bt (⟨#[48, 49, 50, 51, 52, 53, 54, 55, 56, 57, 97, 98, 99, 100, 101, 102, 103, 104, 105, 106, 107, 108, 109, 110, 111, 112, 113, 114, 115, 116, 117, 118, 119, 120, 121, 122]⟩ : ByteArray) (ji10))) a2 (wrap64 (gK + 1))) else (none)) else (none)) else (none)) else (none)) = some r := by first | (rw [hji10] at H; exact H) | (simp only [hji10] at H ⊢; exact H)
       by_cases c11 : 0 ≤ (ji10)
       ·rw [if_pos c11] at H
        have lq : decide (0 ≤ (ji10)) = true := decide_eq_true c11
        clear c11
        by_cases c12 : (ji10) < 36
        ·rw [if_pos c12] at H
         have uC : decide ((ji10) < 36) = true := decide_eq_true c12
         clear c12
         obtain ⟨ji14, hji14⟩ : ∃ j_ : Int, (wrap64 ((wrap64 (a2 - 1)) - gK)) = j_ := ⟨_, rfl⟩
         (try (have hji14r := hji14; simp only [hji10] at hji14r))
         (try (have hji14wr := (jD _).trans hji14r))
         replace H : (if 0 ≤ (ji14) then (if (ji14) < (jM.length : Int) then (df.l0 k1 (IntKind.u64.wrap (Int.tdiv sw (IntKind.u64.wrap (a1)))) a1 a2 (jM.set ((ji14) : Int).toNat (bt (⟨#[48, 49, 50, 51, 52, 53, 54, 55, 56, 57, 97, 98, 99, 100, 101, 102, 103, 104, 105, 106, 107, 108, 109, 110, 111, 112, 113, 114, 115, 116, 117, 118, 119, 120, 121, 122]⟩ : ByteArray) (ji10))) a2 (wrap64 (gK + 1))) else (none)) else (none)) = some r := by first | (rw [hji14] at H; exact H) | (simp only [hji14] at H ⊢; exact H)
         have hji14w : (IntKind.i64.wrap ((wrap64 (a2 - 1)) - gK)) = ji14 := (jD _).trans hji14
         by_cases c15 : 0 ≤ (ji14)
         ·rw [if_pos c15] at H
          have wU : decide (0 ≤ (ji14)) = true := decide_eq_true c15
          clear c15
          by_cases c16 : (ji14) < (jM.length : Int)
          ·rw [if_pos c16] at H
           have wO : decide ((ji14) < (jM.length : Int)) = true := decide_eq_true c16
           clear c16
           obtain ⟨y104, hy104⟩ : ∃ y_ : List Int, y_ = (jM.set ((ji14) : Int).toNat (bt (⟨#[48, 49, 50, 51, 52, 53, 54, 55, 56, 57, 97, 98, 99, 100, 101, 102, 103, 104, 105, 106, 107, 108, 109, 110, 111, 112, 113, 114, 115, 116, 117, 118, 119, 120, 121, 122]⟩ : ByteArray) (ji10))) := ⟨_, rfl⟩
           replace H : (df.l0 k1 (IntKind.u64.wrap (Int.tdiv sw (IntKind.u64.wrap (a1)))) a1 a2 y104 a2 (wrap64 (gK + 1))) = some r := by first | (rw [hy104]; with_reducible exact H) | (have H2_ := (Option.bind_some _ _).symm.trans H; rw [hy104]; with_reducible exact H2_) | (have H2_ := (Option.bind_some _ _).symm.trans H; with_reducible exact H2_) | with_reducible exact H | (rw [hy104]; exact H) | exact H
           have Ny104 := ae.mk hy104
           clear hy104
           have H' := ae.mk H
           clear H
           have p13 : 0 ≤ ((ji10) : Int) := of_decide_eq_true qa
           have q13 : (ji10) < (36 : Int) := of_decide_eq_true qa
           have hx13 := zH (⟨#[48, 49, 50, 51, 52, 53, 54, 55, 56, 57, 97, 98, 99, 100, 101, 102, 103, 104, 105, 106, 107, 108, 109, 110, 111, 112, 113, 114, 115, 116, 117, 118, 119, 120, 121, 122]⟩ : ByteArray) (ji10)
           replace p13 := eq_true p13
           replace q13 := eq_true q13
           have p17 : 0 ≤ ((ji14) : Int) := of_decide_eq_true qa
           have q17 : ((ji14) : Int) < ((jM.length : Int) : Int) := of_decide_eq_true qa
           obtain ⟨go17, uY, tY, AQ, gl17, cl17, HG17⟩ := Kd.kz kY.out (by omega)
           (first | cases tY | (injection tY with ea_ en_ ec_; (first | subst ea_ | (injection ea_ with ea_; subst ea_)); subst ec_; clear en_))
           have Cf := ae.mk AQ
           have GG17 := ae.mk HG17
           clear AQ gl17 HG17
           obtain ⟨hx17_0, hf17_0⟩ := Kd.ib 0 kY.out ((ji14) : Int) p17 q17
           replace p17 := eq_true p17
           replace q17 := eq_true q17
           have HP18 := Kd.kD kY.out ((ji14) : Int) (bt (⟨#[48, 49, 50, 51, 52, 53, 54, 55, 56, 57, 97, 98, 99, 100, 101, 102, 103, 104, 105, 106, 107, 108, 109, 110, 111, 112, 113, 114, 115, 116, 117, 118, 119, 120, 121, 122]⟩ : ByteArray) (ji10))
           go_wp2_with (first | ((with_reducible refine iD (t := 5) (p := 25) rfl ?_); refine ic (t := 5) (p := 25) (v := ?vo_w19) (w1 := (wr.setCell ⟨go17, ((ji14) : Int).toNat, none⟩ (.int .u8 (bt (⟨#[48, 49, 50, 51, 52, 53, 54, 55, 56, 57, 97, 98, 99, 100, 101, 102, 103, 104, 105, 106, 107, 108, 109, 110, 111, 112, 113, 114, 115, 116, 117, 118, 119, 120, 121, 122]⟩ : ByteArray) (ji10))))) ?hg ?ho ?hn ?hr ?_; (case ho => rfl); (case hg => rfl); (case hn => rfl); (case hr => first | (go_simp; done) | (go_simp; rfl)); intro w19 hw; have hg : wr.grownBy w19 (some go17) := (by rw [hw]; exact HP18.2); have hp_ : Kd.R (Kd.int .u8) 5 w19 w.heap.size (fun _ => True) (.slice (some ⟨go17, 0, none⟩) jM.length uY) y104 := (by rw [hw, Ny104.out]; exact HP18.1); clear HP18; replace kY := ae.mk (hp_); replace HB := ae.mk ((by rw [hw]; exact bn (HB.out) Cf.out : Below w.heap.size w w19)); clear hg hw hp_))
           go_roundg k1
           case measure => have := HK1.out; omega
           case rel => exact ⟨(IntKind.u64.wrap (Int.tdiv sw (IntKind.u64.wrap (a1)))), (y104), (wrap64 (gK + 1)), (by first | rfl | (simp; done) | (simp [*]; done)), (by first | rfl | (simp; done) | (simp [*]; done)), H', ⟨by have := HK1.out; omega⟩, ⟨by (with_reducible repeat (first | apply Kd.di | apply Kd.dm | apply Kd.dR)); exact kY.out⟩, ⟨by repeat (first | (with_reducible first | exact HB.out | apply au | apply ai | apply ak) | exact HB.out)⟩⟩
          ·rw [if_neg c16] at H
           exact absurd H (by simp)
         ·rw [if_neg c15] at H
          exact absurd H (by simp)
        ·rw [if_neg c12] at H
         exact absurd H (by simp)
       ·rw [if_neg c11] at H
        exact absurd H (by simp)
     ·rw [if_neg c8] at H
      have kK : decide (gK < a2) = false := decide_eq_false c8
      clear c8
      obtain rfl := Option.some.inj H
      have hcv20 := mU (P := Tryz.prog) Tryz.underlying98 Tryz.underlying5 Tryz.underlying9 (Kd.lX kY.out)
      go_wp2
      go_ret
      exact ⟨by first | rfl | (simp [errW_none, errW_some] <;> rfl) | (simp [*, errW_none, errW_some] <;> rfl), by repeat (first | (with_reducible first | exact HB.out | apply au | apply ai | apply ak) | exact HB.out)⟩
  ·rw [if_neg c5] at H
   exact absurd H (by simp)
 ·rw [if_neg c4] at H
  exact absurd H (by simp)
end Go.Proofs.YteidaijpaijgpaaGreatDoor.P
end
section
namespace Go.Proofs.YteidaijpaijgpaaGreatDoor.P
open Go.RowKit Go.Proofs.YteidaijpaijgpaaGreatDoorW.ay Go.Proofs.YteidaijpaijgpaaGreatDoorW.aQ Go.Proofs.YteidaijpaijgpaaGreatDoorW.aZ
attribute [local go_sem] bz bA bP bQ bq bu bB bC
set_option linter.unusedVariables false
set_option linter.unusedSimpArgs false
def mh.f (a0 : Int) (a1 : Int) (a2 : Int) : Option (Int × Int × Int) := if (Go.bits .and .u64 a2 4294967295) = 0 then (some (0, 0, 3)) else (if (Go.bits .and .u64 a0 4294967295) ≥ (Go.bits .and .u64 a2 4294967295) then (some (0, 0, 2)) else (some (IntKind.u64.wrap (Int.tdiv (Go.bits .or .u64 (IntKind.u64.wrap ((Go.bits .and .u64 a0 4294967295) * 4294967296)) (Go.bits .and .u64 a1 4294967295)) (Go.bits .and .u64 a2 4294967295)), Int.tmod (Go.bits .or .u64 (IntKind.u64.wrap ((Go.bits .and .u64 a0 4294967295) * 4294967296)) (Go.bits .and .u64 a1 4294967295)) (Go.bits .and .u64 a2 4294967295), 0)))
set_option maxHeartbeats 8000000 in
set_option maxRecDepth 100000 in
theorem mh.calls (a0 : Int) (a1 : Int) (a2 : Int) (r1 : Int) (r2 : Int) (r3 : Int) (w : World) (h : mh.f a0 a1 a2 = some (r1, r2, r3)) :
  Calls Tryz.prog 134 #[.int .u64 a0, .int .u64 a1, .int .u64 a2] w fun e w' => e = .returned (.tuple #[.int .u64 r1, .int .u64 r2, .int .i64 r3]) ∧ eT w w' := by
 have H : (if (Go.bits .and .u64 a2 4294967295) = 0 then (some (0, 0, 3)) else (if (Go.bits .and .u64 a0 4294967295) ≥ (Go.bits .and .u64 a2 4294967295) then (some (0, 0, 2)) else (some (IntKind.u64.wrap (Int.tdiv (Go.bits .or .u64 (IntKind.u64.wrap ((Go.bits .and .u64 a0 4294967295) * 4294967296)) (Go.bits .and .u64 a1 4294967295)) (Go.bits .and .u64 a2 4294967295)), Int.tmod (Go.bits .or .u64 (IntKind.u64.wrap ((Go.bits .and .u64 a0 4294967295) * 4294967296)) (Go.bits .and .u64 a1 4294967295)) (Go.bits .and .u64 a2 4294967295), 0)))) = some (r1, r2, r3) := h
 clear h
 by_cases c4 : (Go.bits .and .u64 a2 4294967295) = 0
 ·rw [if_pos c4] at H
  have iQ : ((Go.bits .and .u64 a2 4294967295) == 0) = true := beq_iff_eq.mpr c4
  have jv : ((Go.bits .and .u64 a2 4294967295) != 0) = false := bne_eq_false_iff_eq.mpr c4
  clear c4
  simp only [Option.some.injEq, Prod.mk.injEq] at H
  obtain ⟨rfl, rfl, rfl⟩ := H
  go_enter Tryz.func134, Tryz.ntmps134
  go_wp2
  repeat (go_quiet (fail); try go_wp2)
  go_ret3
  exact ⟨by first | rfl | (simp; done) | (simp [*]; done), by repeat (first | exact eT.refl _ | apply eT.step)⟩
 ·rw [if_neg c4] at H
  have iQ : ((Go.bits .and .u64 a2 4294967295) == 0) = false := beq_eq_false_iff_ne.mpr c4
  have jv : ((Go.bits .and .u64 a2 4294967295) != 0) = true := bne_iff_ne.mpr c4
  by_cases c5 : (Go.bits .and .u64 a0 4294967295) ≥ (Go.bits .and .u64 a2 4294967295)
  ·rw [if_pos c5] at H
   have jG : decide ((Go.bits .and .u64 a2 4294967295) ≤ (Go.bits .and .u64 a0 4294967295)) = true := decide_eq_true c5
   clear c5
   simp only [Option.some.injEq, Prod.mk.injEq] at H
   obtain ⟨rfl, rfl, rfl⟩ := H
   go_enter Tryz.func134, Tryz.ntmps134
   go_wp2
   repeat (go_quiet (fail); try go_wp2)
   go_ret3
   exact ⟨by first | rfl | (simp; done) | (simp [*]; done), by repeat (first | exact eT.refl _ | apply eT.step)⟩
  ·rw [if_neg c5] at H
   have jG : decide ((Go.bits .and .u64 a2 4294967295) ≤ (Go.bits .and .u64 a0 4294967295)) = false := decide_eq_false c5
   clear c5
   simp only [Option.some.injEq, Prod.mk.injEq] at H
   obtain ⟨rfl, rfl, rfl⟩ := H
   go_enter Tryz.func134, Tryz.ntmps134
   go_wp2
   repeat (go_quiet (fail); try go_wp2)
   go_ret3
   exact ⟨by first | rfl | (simp; done) | (simp [*]; done), by repeat (first | exact eT.refl _ | apply eT.step)⟩
end Go.Proofs.YteidaijpaijgpaaGreatDoor.P
end
section
namespace Go.Proofs.YteidaijpaijgpaaGreatDoor.P
open Go.RowKit Go.Proofs.YteidaijpaijgpaaGreatDoorW.ay Go.Proofs.YteidaijpaijgpaaGreatDoorW.aQ Go.Proofs.YteidaijpaijgpaaGreatDoorW.aZ
attribute [local go_sem] bz bA bP bQ bq bu bB bC
set_option linter.unusedVariables false
set_option linter.unusedSimpArgs false
def fo.l0 : Nat → List Int → Int → Option (List Int)
 | 0, _, _ => none
 | k + 1, x0, x3 => if x3 > 0 then (if 0 ≤ (wrap64 (x3 - 1)) then (if (wrap64 (x3 - 1)) < (x0.length : Int) then (if (rd x0 (wrap64 (x3 - 1))) = 0 then (fo.l0 k x0 (wrap64 (x3 - 1))) else (if 0 ≤ x3 then (if x3 ≤ (x0.length : Int) then (some (x0.take (x3 : Int).toNat)) else (none)) else (none))) else (none)) else (none)) else (if 0 ≤ x3 then (if x3 ≤ (x0.length : Int) then (some (x0.take (x3 : Int).toNat)) else (none)) else (none))
def fo.f (k : Nat) (l0 : List Int) : Option (List Int) := fo.l0 k l0 (l0.length : Int)
theorem fo.dF : ∀ k, (∀ y0 y1, LeO (fo.l0 k y0 y1) (fo.l0 (k + 1) y0 y1))
 | 0 => fun _ _ r h => by simp [fo.l0] at h
 | k + 1 => by
  have ih0 := fo.dF k
  ·intro y0 y1
   unfold fo.l0
   repeat' first
   | (with_reducible exact ih0 _ _)
   | (with_reducible exact LeO.refl _)
   | (with_reducible exact LeO.none _)
   | (with_reducible refine LeO.ite ?_ ?_)
   | (with_reducible refine LeO.bind ?_ (fun _ => ?_))
   | exact ih0 _ _
   | exact LeO.none _
   | refine LeO.ite ?_ ?_
   | refine LeO.bind ?_ (fun _ => ?_)
theorem fo.mono : ∀ a0 k, LeO (fo.f k a0) (fo.f (k + 1) a0) := by
 intro a0 k
 have ih0 := fo.dF k
 unfold fo.f
 repeat' first
   | (with_reducible exact ih0 _ _)
   | (with_reducible exact LeO.refl _)
   | (with_reducible exact LeO.none _)
   | (with_reducible refine LeO.ite ?_ ?_)
   | (with_reducible refine LeO.bind ?_ (fun _ => ?_))
   | exact ih0 _ _
   | exact LeO.none _
   | refine LeO.ite ?_ ?_
   | refine LeO.bind ?_ (fun _ => ?_)
set_option maxHeartbeats 8000000 in
set_option maxRecDepth 100000 in
theorem fo.calls (k : Nat) (P0_ : Nat → Prop) (u9000_ : Value) (l0 : List Int) (r : List Int) (w0 w : World) (hB : Below w0.heap.size w0 w) (ho0 : Kd.R (Kd.int .u64) 96 w w0.heap.size P0_ u9000_ l0) (h : fo.f k l0 = some r) :
  Calls Tryz.prog 117 #[u9000_] w fun e w' => ∃ v0_ : Value, e = .returned (v0_) ∧ Kd.R (Kd.int .u64) 96 w' w0.heap.size (fun k_ => (P0_ k_ ∨ w.heap.size ≤ k_)) v0_ r ∧ Below w0.heap.size w0 w' ∧ Kept w w' (fun k_ => P0_ k_) := by
 have HO0 := ae.mk (show Kd.R (Kd.int .u64) 96 w w0.heap.size (fun k_ => (P0_ k_ ∨ w.heap.size ≤ k_)) u9000_ l0 from Kd.gu ho0 (fun k_ hk => (.inl hk)))
 have HK := ae.mk (Kept.refl w (fun k_ => P0_ k_))
 have HW0 := ae.mk hB.size
 have HB := ae.mk hB
 clear hB
 have H : (fo.l0 k l0 (l0.length : Int)) = some r := h
 clear h
 have H' := ae.mk H
 clear H
 obtain ⟨Ao2, co2, eo2⟩ := Kd.dM HO0.out
 subst eo2
 go_enter Tryz.func117, Tryz.ntmps117
 go_wp2
 go_loopg [3] k (fun kq v3 w' => ∃ (fu : Int), v3 = .int .i64 fu ∧ ae (fo.l0 kq l0 fu = some r) ∧ ae (kq ≤ k) ∧ ae (Kd.R (Kd.int .u64) 96 w' w0.heap.size (fun k_ => (P0_ k_ ∨ w.heap.size ≤ k_)) (.slice Ao2 l0.length co2) l0) ∧ ae (Kept w w' (fun k_ => P0_ k_)) ∧ ae (Below w0.heap.size w0 w'))
 case atStart => exact ⟨((l0.length : Int)), (by first | rfl | (simp; done) | (simp [*]; done)), H', ⟨Nat.le_refl _⟩, ⟨by (with_reducible repeat (first | apply Kd.di | apply Kd.dm | apply Kd.dR)); exact HO0.out⟩, ⟨by repeat (first | (with_reducible first | exact HK.out | apply Kept.alloc | apply Kept.drewN | apply Kept.drew) | exact HK.out)⟩, ⟨by repeat (first | (with_reducible first | exact HB.out | apply au | apply ai | apply ak) | exact HB.out)⟩⟩
 case round =>
  clear H'
  try clear c1
  try clear p2
  obtain ⟨fu, rfl, HA, HK1, qQ, HK, HB⟩ := hrel
  cases gk with
  | zero => exact absurd HA.out (by simp [fo.l0])
  | succ k1 =>
   have H := HA.out
   clear HA
   simp only [fo.l0] at H
   by_cases c3 : fu > 0
   ·rw [if_pos c3] at H
    have gN : decide (0 < fu) = true := decide_eq_true c3
    clear c3
    obtain ⟨ji4, hji4⟩ : ∃ j_ : Int, (wrap64 (fu - 1)) = j_ := ⟨_, rfl⟩
    replace H : (if 0 ≤ (ji4) then (if (ji4) < (l0.length : Int) then (if (rd l0 (ji4)) = 0 then (fo.l0 k1 l0 ji4) else (if 0 ≤ fu then (if fu ≤ (l0.length : Int) then (some (l0.take (fu : Int).toNat)) else (none)) else (none))) else (none)) else (none)) = some r := by first | (rw [hji4] at H; exact H) | (simp only [hji4] at H ⊢; exact H)
    have hji4w : (IntKind.i64.wrap (fu - 1)) = ji4 := (jD _).trans hji4
    by_cases c5 : 0 ≤ (ji4)
    ·rw [if_pos c5] at H
     have jG : decide (0 ≤ (ji4)) = true := decide_eq_true c5
     clear c5
     by_cases c6 : (ji4) < (l0.length : Int)
     ·rw [if_pos c6] at H
      have kE : decide ((ji4) < (l0.length : Int)) = true := decide_eq_true c6
      clear c6
      by_cases c7 : (rd l0 (ji4)) = 0
      ·rw [if_pos c7] at H
       have jg : ((rd l0 (ji4)) == 0) = true := beq_iff_eq.mpr c7
       have oq : ((rd l0 (ji4)) != 0) = false := bne_eq_false_iff_eq.mpr c7
       clear c7
       have H' := ae.mk H
       clear H
       have p101 : 0 ≤ ((ji4) : Int) := of_decide_eq_true qa
       have q101 : (ji4) < (l0.length : Int) := of_decide_eq_true qa
       obtain ⟨ad101, e101, hx101_0⟩ := Kd.jA (Kd.aV qQ.out).2.2 (ji4) p101 q101
       cases e101
       replace p101 := eq_true p101
       replace q101 := eq_true q101
       go_wp2
       go_roundg k1
       case measure => have := HK1.out; omega
       case rel => exact ⟨(ji4), (by first | rfl | (simp; done) | (simp only [← hji4] <;> (first | rfl | simp)) | (simp [*]; done)), H', ⟨by have := HK1.out; omega⟩, ⟨by (with_reducible repeat (first | apply Kd.di | apply Kd.dm | apply Kd.dR)); exact qQ.out⟩, ⟨by repeat (first | (with_reducible first | exact HK.out | apply Kept.alloc | apply Kept.drewN | apply Kept.drew) | exact HK.out)⟩, ⟨by repeat (first | (with_reducible first | exact HB.out | apply au | apply ai | apply ak) | exact HB.out)⟩⟩
      ·rw [if_neg c7] at H
       have jg : ((rd l0 (ji4)) == 0) = false := beq_eq_false_iff_ne.mpr c7
       have oq : ((rd l0 (ji4)) != 0) = true := bne_iff_ne.mpr c7
       by_cases c8 : 0 ≤ fu
       ·rw [if_pos c8] at H
        have kK := eq_true c8
        have tL : decide (0 ≤ fu) = true := decide_eq_true c8
        clear c8
        by_cases c9 : fu ≤ (l0.length : Int)
        ·rw [if_pos c9] at H
         have lT := eq_true c9
         have rV : decide (fu ≤ (l0.length : Int)) = true := decide_eq_true c9
         clear c9
         obtain ⟨y102, hy102⟩ : ∃ y_ : List Int, y_ = (l0.take (fu : Int).toNat) := ⟨_, rfl⟩
         replace H : (some y102) = some r := by first | (rw [hy102]; with_reducible exact H) | (have H2_ := (Option.bind_some _ _).symm.trans H; rw [hy102]; with_reducible exact H2_) | (have H2_ := (Option.bind_some _ _).symm.trans H; with_reducible exact H2_) | with_reducible exact H | (rw [hy102]; exact H) | exact H
         have Ny102 := ae.mk hy102
         clear hy102
         obtain rfl := Option.some.inj H
         have p101 : 0 ≤ ((ji4) : Int) := of_decide_eq_true qa
         have q101 : (ji4) < (l0.length : Int) := of_decide_eq_true qa
         obtain ⟨ad101, e101, hx101_0⟩ := Kd.jA (Kd.aV qQ.out).2.2 (ji4) p101 q101
         cases e101
         replace p101 := eq_true p101
         replace q101 := eq_true q101
         have q10 : (fu : Int) ≤ ((l0.length : Int) : Int) := of_decide_eq_true qa
         obtain ⟨i010, hi010, _, hsz10, _⟩ := info_parts pq
         have hcut10 := vP (P := Tryz.prog) 68 96 .i64 Tryz.underlying68 hi010 (some ad101) l0.length co2 fu (of_decide_eq_true qa) q10 (Kd.aV qQ.out).2.1
         have hr10 := Kd.vQ (m := (fu : Int).toNat) qQ.out (by omega)
         have hy10 : y102.length = (fu : Int).toNat := (by rw [Ny102.out, List.length_take]; omega)
         rw [← Ny102.out] at hr10
         rw [← hy10] at hr10 hcut10
         clear hy10 hi010 hsz10 qQ
         have fF := ae.mk hr10
         clear hr10
         replace q10 := eq_true q10
         go_wp2
         go_ret
         exact ⟨_, by first | rfl | (simp [errW_none, errW_some] <;> rfl) | (simp only [← hji4]; first | rfl | (simp [errW_none, errW_some] <;> rfl)) | (simp [*, errW_none, errW_some] <;> rfl), by (with_reducible repeat (first | apply Kd.di | apply Kd.dm | apply Kd.dR)); exact fF.out, by repeat (first | (with_reducible first | exact HB.out | apply au | apply ai | apply ak) | exact HB.out), by repeat (first | (with_reducible first | exact HK.out | apply Kept.alloc | apply Kept.drewN | apply Kept.drew) | exact HK.out)⟩
        ·rw [if_neg c9] at H
         exact absurd H (by simp)
       ·rw [if_neg c8] at H
        exact absurd H (by simp)
     ·rw [if_neg c6] at H
      exact absurd H (by simp)
    ·rw [if_neg c5] at H
     exact absurd H (by simp)
   ·rw [if_neg c3] at H
    have gN : decide (0 < fu) = false := decide_eq_false c3
    clear c3
    by_cases c11 : 0 ≤ fu
    ·rw [if_pos c11] at H
     have lq := eq_true c11
     have wJ : decide (0 ≤ fu) = true := decide_eq_true c11
     clear c11
     by_cases c12 : fu ≤ (l0.length : Int)
     ·rw [if_pos c12] at H
      have uC := eq_true c12
      have AR : decide (fu ≤ (l0.length : Int)) = true := decide_eq_true c12
      clear c12
      obtain ⟨y105, hy105⟩ : ∃ y_ : List Int, y_ = (l0.take (fu : Int).toNat) := ⟨_, rfl⟩
      replace H : (some y105) = some r := by first | (rw [hy105]; with_reducible exact H) | (have H2_ := (Option.bind_some _ _).symm.trans H; rw [hy105]; with_reducible exact H2_) | (have H2_ := (Option.bind_some _ _).symm.trans H; with_reducible exact H2_) | with_reducible exact H | (rw [hy105]; exact H) | exact H
      have Ny105 := ae.mk hy105
      clear hy105
      obtain rfl := Option.some.inj H
      have q13 : (fu : Int) ≤ ((l0.length : Int) : Int) := of_decide_eq_true qa
      obtain ⟨i013, hi013, _, hsz13, _⟩ := info_parts pq
      have hcut13 := vP (P := Tryz.prog) 68 96 .i64 Tryz.underlying68 hi013 Ao2 l0.length co2 fu (of_decide_eq_true qa) q13 (Kd.aV qQ.out).2.1
      have hr13 := Kd.vQ (m := (fu : Int).toNat) qQ.out (by omega)
      have hy13 : y105.length = (fu : Int).toNat := (by rw [Ny105.out, List.length_take]; omega)
      rw [← Ny105.out] at hr13
      rw [← hy13] at hr13 hcut13
      clear hy13 hi013 hsz13 qQ
      have jJ := ae.mk hr13
      clear hr13
      replace q13 := eq_true q13
      go_wp2
      go_ret
      exact ⟨_, by first | rfl | (simp [errW_none, errW_some] <;> rfl) | (simp [*, errW_none, errW_some] <;> rfl), by (with_reducible repeat (first | apply Kd.di | apply Kd.dm | apply Kd.dR)); exact jJ.out, by repeat (first | (with_reducible first | exact HB.out | apply au | apply ai | apply ak) | exact HB.out), by repeat (first | (with_reducible first | exact HK.out | apply Kept.alloc | apply Kept.drewN | apply Kept.drew) | exact HK.out)⟩
     ·rw [if_neg c12] at H
      exact absurd H (by simp)
    ·rw [if_neg c11] at H
     exact absurd H (by simp)
end Go.Proofs.YteidaijpaijgpaaGreatDoor.P
end
section
namespace Go.Proofs.YteidaijpaijgpaaGreatDoor.P
open Go.RowKit Go.Proofs.YteidaijpaijgpaaGreatDoorW.ay Go.Proofs.YteidaijpaijgpaaGreatDoorW.aQ Go.Proofs.YteidaijpaijgpaaGreatDoorW.aZ
attribute [local go_sem] bz bA bP bQ bq bu bB bC
set_option linter.unusedVariables false
set_option linter.unusedSimpArgs false
def eH.l0 : Nat → List Int → List Int → Int → Int → Option (List Int × Int)
 | 0, _, _, _, _ => none
 | k + 1, x4, x10, x11, x12 => if x12 < x11 then (if 0 ≤ x12 then (if x12 < (x10.length : Int) then (if (rd x10 x12) ≥ 4294967296 then (some (([] : List Int), 2)) else (if x4.length < 17592186044416 then (eH.l0 k (x4 ++ [rd x10 x12]) x10 x11 (wrap64 (x12 + 1))) else (none))) else (none)) else (none)) else ((fo.f k x4).bind fun jw => (some (jw, 0)))
def eH.f (k : Nat) (l0 : List Int) : Option (List Int × Int) := if 0 ≤ (l0.length : Int) then (if ((l0.length : Int) : Int).toNat ≤ 35184372088832 then (eH.l0 k (([] : List Int)) l0 (l0.length : Int) 0) else (none)) else (none)
theorem eH.dF : ∀ k, (∀ y0 y1 y2 y3, LeO (eH.l0 k y0 y1 y2 y3) (eH.l0 (k + 1) y0 y1 y2 y3))
 | 0 => fun _ _ _ _ r h => by simp [eH.l0] at h
 | k + 1 => by
  have ih0 := eH.dF k
  ·intro y0 y1 y2 y3
   unfold eH.l0
   repeat' first
   | (with_reducible exact ih0 _ _ _ _)
   | (with_reducible exact fo.mono _ _)
   | (with_reducible exact LeO.refl _)
   | (with_reducible exact LeO.none _)
   | (with_reducible refine LeO.ite ?_ ?_)
   | (with_reducible refine LeO.bind ?_ (fun _ => ?_))
   | exact ih0 _ _ _ _
   | exact fo.mono _ _
   | exact LeO.none _
   | refine LeO.ite ?_ ?_
   | refine LeO.bind ?_ (fun _ => ?_)
theorem eH.mono : ∀ a0 k, LeO (eH.f k a0) (eH.f (k + 1) a0) := by
 intro a0 k
 have ih0 := eH.dF k
 unfold eH.f
 repeat' first
   | (with_reducible exact ih0 _ _ _ _)
   | (with_reducible exact fo.mono _ _)
   | (with_reducible exact LeO.refl _)
   | (with_reducible exact LeO.none _)
   | (with_reducible refine LeO.ite ?_ ?_)
   | (with_reducible refine LeO.bind ?_ (fun _ => ?_))
   | exact ih0 _ _ _ _
   | exact fo.mono _ _
   | exact LeO.none _
   | refine LeO.ite ?_ ?_
   | refine LeO.bind ?_ (fun _ => ?_)
set_option maxHeartbeats 8000000 in
set_option maxRecDepth 100000 in
theorem eH.calls (k : Nat) (A0 : Option Addr) (c0 : Nat) (l0 : List Int) (r1 : List Int) (r2 : Int) (w : World) (hr0 : Kd.C (Kd.int .u64) w A0 l0.length l0) (hc0 : l0.length ≤ c0) (h : eH.f k l0 = some (r1, r2)) :
  Calls Tryz.prog 125 #[.slice A0 l0.length c0] w fun e w' => ∃ v0_ : Value, e = .returned (.tuple #[v0_, .int .i64 r2]) ∧ Kd.R (Kd.int .u64) 96 w' w.heap.size (fun _ => True) v0_ r1 ∧ Below w.heap.size w w' := by
 have HR0 := ae.mk hr0
 have HC0 := ae.mk hc0
 clear hr0 hc0
 have HB := ae.mk (Below.refl w.heap.size w)
 have H : (if 0 ≤ (l0.length : Int) then (if ((l0.length : Int) : Int).toNat ≤ 35184372088832 then (eH.l0 k (([] : List Int)) l0 (l0.length : Int) 0) else (none)) else (none)) = some (r1, r2) := h
 clear h
 by_cases c2 : 0 ≤ (l0.length : Int)
 ·rw [if_pos c2] at H
  have jF := eq_true c2
  have mI : decide (0 ≤ (l0.length : Int)) = true := decide_eq_true c2
  clear c2
  by_cases c3 : ((l0.length : Int) : Int).toNat ≤ 35184372088832
  ·rw [if_pos c3] at H
   have gN := eq_true c3
   have jk : decide (((l0.length : Int) : Int).toNat ≤ 35184372088832) = true := decide_eq_true c3
   clear c3
   obtain ⟨y101, hy101⟩ : ∃ y_ : List Int, y_ = (([] : List Int)) := ⟨_, rfl⟩
   replace H : (eH.l0 k y101 l0 (l0.length : Int) 0) = some (r1, r2) := by first | (rw [hy101]; with_reducible exact H) | (have H2_ := (Option.bind_some _ _).symm.trans H; rw [hy101]; with_reducible exact H2_) | (have H2_ := (Option.bind_some _ _).symm.trans H; with_reducible exact H2_) | with_reducible exact H | (rw [hy101]; exact H) | exact H
   have Ny101 := ae.mk hy101
   clear hy101
   have H' := ae.mk H
   clear H
   go_enter Tryz.func125, Tryz.ntmps125
   go_wp2_with (first | ((with_reducible refine bg (N := 9) rfl ?_); refine Go.Proofs.YteidaijpaijgpaaGreatDoorV.xU (Kd.int .u64) _ 96 rfl (N := 9) rfl 68 _ _ rfl (l0.length : Int) rfl rfl Tryz.underlying68 (.int .u64 0) 8 pq rfl (by decide) (by omega) (ok := fun _ => True) (okp := fun _ => True) trivial (of_decide_eq_true qa) (Nat.le_trans (Nat.mul_le_mul_right _ (of_decide_eq_true qa : (l0.length : Int).toNat ≤ 35184372088832)) (by omega)) (Below.refl _ _) (Nat.le_refl _) ?_; intro v102 w4 ho5 hb hg_ hnew_; clear hg_ hnew_; (first | rw [← Ny101.out] at ho5 | (simp only [Int.reduceToNat] at ho5; rw [← Ny101.out] at ho5)); have eX := ae.mk (Kd.dI ho5 (bi (qw HB))); replace HB := ae.mk (aj (qw HB) hb); clear hb ho5))
   go_loopg [4, 12] k (fun kq v4 v12 w' => ∃ (fH : List Int) (gK : Int), v12 = .int .i64 gK ∧ ae (eH.l0 kq fH l0 (l0.length : Int) gK = some (r1, r2)) ∧ ae (kq ≤ k) ∧ ae (Kd.R (Kd.int .u64) 96 w' w.heap.size (fun _ => True) v4 fH) ∧ ae (Below w.heap.size w w'))
   case atStart => exact ⟨(y101), (0), (by first | rfl | (simp; done) | (simp [*]; done)), H', ⟨Nat.le_refl _⟩, ⟨by (with_reducible repeat (first | apply Kd.di | apply Kd.dm | apply Kd.dR)); exact eX.out⟩, ⟨by repeat (first | (with_reducible first | exact HB.out | apply au | apply ai | apply ak) | exact HB.out)⟩⟩
   case round =>
    clear H'
    try clear c1
    try clear c2
    try clear jF
    try clear mI
    try clear p2
    try clear c3
    try clear gN
    try clear jk
    obtain ⟨fH, gK, rfl, HA, HK1, xh, HB⟩ := hrel
    cases gk with
    | zero => exact absurd HA.out (by simp [eH.l0])
    | succ k1 =>
     have H := HA.out
     clear HA
     simp only [eH.l0] at H
     by_cases c6 : gK < (l0.length : Int)
     ·rw [if_pos c6] at H
      have kE : decide (gK < (l0.length : Int)) = true := decide_eq_true c6
      clear c6
      by_cases c7 : 0 ≤ gK
      ·rw [if_pos c7] at H
       have jg : decide (0 ≤ gK) = true := decide_eq_true c7
       clear c7
       by_cases c8 : gK < (l0.length : Int)
       ·rw [if_pos c8] at H
        have kK : decide (gK < (l0.length : Int)) = true := decide_eq_true c8
        clear c8
        by_cases c9 : (rd l0 gK) ≥ 4294967296
        ·rw [if_pos c9] at H
         have lT : decide (4294967296 ≤ (rd l0 gK)) = true := decide_eq_true c9
         clear c9
         simp only [Option.some.injEq, Prod.mk.injEq] at H
         obtain ⟨rfl, rfl⟩ := H
         have p104 : 0 ≤ (gK : Int) := of_decide_eq_true qa
         have q104 : gK < (l0.length : Int) := of_decide_eq_true qa
         obtain ⟨ad104, e104, hx104_0⟩ := Kd.jA HR0.out gK p104 q104
         cases e104
         replace hx104_0 := (HB.out.cell (World.block_lt_of_cell? w _ hx104_0)).trans hx104_0
         replace p104 := eq_true p104
         replace q104 := eq_true q104
         go_wp2
         go_ret2
         exact ⟨_, by first | rfl | (simp [errW_none, errW_some] <;> rfl) | (simp [*, errW_none, errW_some] <;> rfl), by first | exact Kd.gm _ _ _ _ _ | exact Kd.N_nil _ _ _ _ _ | exact Kd.V_nil _ _ _ _ _ | exact Kd.Q_nil _ _ _ _ _ | exact Kd.S_nil _ _ _ _ _, by repeat (first | (with_reducible first | exact HB.out | apply au | apply ai | apply ak) | exact HB.out)⟩
        ·rw [if_neg c9] at H
         have lT : decide (4294967296 ≤ (rd l0 gK)) = false := decide_eq_false c9
         clear c9
         by_cases c10 : fH.length < 17592186044416
         ·rw [if_pos c10] at H
          have LMc10 := ae.mk c10
          clear c10
          obtain ⟨y105, hy105⟩ : ∃ y_ : List Int, y_ = (fH ++ [rd l0 gK]) := ⟨_, rfl⟩
          replace H : (eH.l0 k1 y105 l0 (l0.length : Int) (wrap64 (gK + 1))) = some (r1, r2) := by first | (rw [hy105]; with_reducible exact H) | (have H2_ := (Option.bind_some _ _).symm.trans H; rw [hy105]; with_reducible exact H2_) | (have H2_ := (Option.bind_some _ _).symm.trans H; with_reducible exact H2_) | with_reducible exact H | (rw [hy105]; exact H) | exact H
          have Ny105 := ae.mk hy105
          clear hy105
          have H' := ae.mk H
          clear H
          have p104 : 0 ≤ (gK : Int) := of_decide_eq_true qa
          have q104 : gK < (l0.length : Int) := of_decide_eq_true qa
          obtain ⟨ad104, e104, hx104_0⟩ := Kd.jA HR0.out gK p104 q104
          cases e104
          replace hx104_0 := (HB.out.cell (World.block_lt_of_cell? w _ hx104_0)).trans hx104_0
          replace p104 := eq_true p104
          replace q104 := eq_true q104
          go_wp2_with (first | ((with_reducible refine gG (b := .append) (xs := #[.tmp 18, .tmp 20]) rfl ?_); at_builtin; refine Kd.ll (Kd.int .u64) (w0 := w) w.heap.size rfl (.tmp 18) (.tmp 20) 68 96 (.int .u64 0) 8 rfl Tryz.underlying68 pq rfl (by decide) (by omega) u4 fH (rd l0 gK) [.int .u64 (rd l0 gK)] (fun _ => True) (fun _ => False) rfl rfl ?aP (fun _ hk => hk.elim) ?aF ?aO ?aB ?aS ?aL ?_; (case aP => exact rfl); (case aB => exact (qw HB)); (case aF => exact (fun _ _ => trivial)); (case aO => exact (qr xh)); (case aS => exact (bi (qw HB))); (case aL => have := LMc10.out; omega); intro v106 w11 ho hb hg hat; rw [← Ny105.out] at ho; replace HB := ae.mk (hb); have jJ := ae.mk (ho); clear xh; clear ho hb hg hat))
          go_roundg k1
          case measure => have := HK1.out; omega
          case rel => exact ⟨(y105), (wrap64 (gK + 1)), (by first | rfl | (simp; done) | (simp [*]; done)), H', ⟨by have := HK1.out; omega⟩, ⟨by (with_reducible repeat (first | apply Kd.di | apply Kd.dm | apply Kd.dR)); exact jJ.out⟩, ⟨by repeat (first | (with_reducible first | exact HB.out | apply au | apply ai | apply ak) | exact HB.out)⟩⟩
         ·rw [if_neg c10] at H
          exact absurd H (by simp)
       ·rw [if_neg c8] at H
        exact absurd H (by simp)
      ·rw [if_neg c7] at H
       exact absurd H (by simp)
     ·rw [if_neg c6] at H
      have kE : decide (gK < (l0.length : Int)) = false := decide_eq_false c6
      clear c6
      replace H := Option.bind_eq_some_iff.mp H
      obtain ⟨jw, A120, H⟩ := H
      replace H : (some (jw, 0)) = some (r1, r2) := H
      have A12 := ae.mk A120
      clear A120
      simp only [Option.some.injEq, Prod.mk.injEq] at H
      obtain ⟨rfl, rfl⟩ := H
      obtain ⟨zy, xZ, yc⟩ := Kd.dM xh.out
      subst yc
      go_wp2_with (first | ((with_reducible refine aH (f := 117) rfl ?_); refine bN (some 24) rfl rfl Tryz.func117 (by kernel_rfl) rfl #[.slice zy fH.length xZ] rfl qt ?_; (with_reducible refine (fo.calls k1 (fun k_ => some k_ = (.slice zy fH.length xZ : Value).ownBlock) (.slice zy fH.length xZ) fH jw w _ ?aX ?aY A12.out).mono ?_); (case aX => repeat (first | (with_reducible first | exact HB.out | apply au | apply ai | apply ak) | exact HB.out)); (case aY => exact Kd.qI rfl xh.out); rintro e w14 ⟨v109, rfl, ho0, hb, hkp⟩; refine ⟨_, rfl, ?_⟩; have AU := ae.mk (Kd.gu (ok' := fun k_ => True) ho0 (fun k_ hk_ => trivial)); replace HB := ae.mk (hb); clear xh; (try clear hb); (try clear hkp); (try clear ho0)))
      go_ret2
      exact ⟨_, by first | rfl | (simp [errW_none, errW_some] <;> rfl) | (simp [*, errW_none, errW_some] <;> rfl), by (with_reducible repeat (first | apply Kd.di | apply Kd.dm | apply Kd.dR)); exact AU.out, by repeat (first | (with_reducible first | exact HB.out | apply au | apply ai | apply ak) | exact HB.out)⟩
  ·rw [if_neg c3] at H
   exact absurd H (by simp)
 ·rw [if_neg c2] at H
  exact absurd H (by simp)
end Go.Proofs.YteidaijpaijgpaaGreatDoor.P
end
section
namespace Go.Proofs.YteidaijpaijgpaaGreatDoor.P
open Go.RowKit Go.Proofs.YteidaijpaijgpaaGreatDoorW.ay Go.Proofs.YteidaijpaijgpaaGreatDoorW.aQ Go.Proofs.YteidaijpaijgpaaGreatDoorW.aZ
attribute [local go_sem] bz bA bP bQ bq bu bB bC
set_option linter.unusedVariables false
set_option linter.unusedSimpArgs false
def dn.l0 : Nat → List Int → Int → List Int → Int → Int → Int → Option (List Int × Int × Int)
 | 0, _, _, _, _, _, _ => none
 | k + 1, x0, x1, x7, x8, x20, x21 => if x21 < x20 then (if 0 ≤ (wrap64 ((wrap64 ((x0.length : Int) - 1)) - x21)) then (if (wrap64 ((wrap64 ((x0.length : Int) - 1)) - x21)) < (x0.length : Int) then ((mh.f x8 (rd x0 (wrap64 ((wrap64 ((x0.length : Int) - 1)) - x21))) x1).bind fun kU => (if (wrap64 ((wrap64 ((x0.length : Int) - 1)) - x21)) < (x7.length : Int) then (dn.l0 k x0 x1 (x7.set ((wrap64 ((wrap64 ((x0.length : Int) - 1)) - x21)) : Int).toNat kU.1) kU.2.1 x20 (wrap64 (x21 + 1))) else (none))) else (none)) else (none)) else ((eH.f k x7).bind fun AV => (some (AV.1, x8, 0)))
def dn.f (k : Nat) (l0 : List Int) (a1 : Int) : Option (List Int × Int × Int) := if (Int.tmod a1 4294967296) = 0 then (some (([] : List Int), 0, 3)) else (if 0 ≤ (l0.length : Int) then (if ((l0.length : Int) : Int).toNat ≤ 35184372088832 then (dn.l0 k l0 a1 (List.replicate ((l0.length : Int) : Int).toNat 0) 0 (l0.length : Int) 0) else (none)) else (none))
theorem dn.dF : ∀ k, (∀ y0 y1 y2 y3 y4 y5, LeO (dn.l0 k y0 y1 y2 y3 y4 y5) (dn.l0 (k + 1) y0 y1 y2 y3 y4 y5))
 | 0 => fun _ _ _ _ _ _ r h => by simp [dn.l0] at h
 | k + 1 => by
  have ih0 := dn.dF k
  ·intro y0 y1 y2 y3 y4 y5
   unfold dn.l0
   repeat' first
   | (with_reducible exact ih0 _ _ _ _ _ _)
   | (with_reducible exact eH.mono _ _)
   | (with_reducible exact LeO.refl _)
   | (with_reducible exact LeO.none _)
   | (with_reducible refine LeO.ite ?_ ?_)
   | (with_reducible refine LeO.bind ?_ (fun _ => ?_))
   | exact ih0 _ _ _ _ _ _
   | exact eH.mono _ _
   | exact LeO.none _
   | refine LeO.ite ?_ ?_
   | refine LeO.bind ?_ (fun _ => ?_)
theorem dn.mono : ∀ a0 a1 k, LeO (dn.f k a0 a1) (dn.f (k + 1) a0 a1) := by
 intro a0 a1 k
 have ih0 := dn.dF k
 unfold dn.f
 repeat' first
   | (with_reducible exact ih0 _ _ _ _ _ _)
   | (with_reducible exact eH.mono _ _)
   | (with_reducible exact LeO.refl _)
   | (with_reducible exact LeO.none _)
   | (with_reducible refine LeO.ite ?_ ?_)
   | (with_reducible refine LeO.bind ?_ (fun _ => ?_))
   | exact ih0 _ _ _ _ _ _
   | exact eH.mono _ _
   | exact LeO.none _
   | refine LeO.ite ?_ ?_
   | refine LeO.bind ?_ (fun _ => ?_)
set_option maxHeartbeats 8000000 in
set_option maxRecDepth 100000 in
theorem dn.calls (k : Nat) (A0 : Option Addr) (c0 : Nat) (l0 : List Int) (a1 : Int) (r1 : List Int) (r2 : Int) (r3 : Int) (w : World) (hr0 : Kd.C (Kd.int .u64) w A0 l0.length l0) (hc0 : l0.length ≤ c0) (h : dn.f k l0 a1 = some (r1, r2, r3)) :
  Calls Tryz.prog 126 #[.slice A0 l0.length c0, .int .u64 a1] w fun e w' => ∃ v0_ : Value, e = .returned (.tuple #[v0_, .int .u64 r2, .int .i64 r3]) ∧ Kd.R (Kd.int .u64) 96 w' w.heap.size (fun _ => True) v0_ r1 ∧ Below w.heap.size w w' := by
 have HR0 := ae.mk hr0
 have HC0 := ae.mk hc0
 clear hr0 hc0
 have HB := ae.mk (Below.refl w.heap.size w)
 have H : (if (Int.tmod a1 4294967296) = 0 then (some (([] : List Int), 0, 3)) else (if 0 ≤ (l0.length : Int) then (if ((l0.length : Int) : Int).toNat ≤ 35184372088832 then (dn.l0 k l0 a1 (List.replicate ((l0.length : Int) : Int).toNat 0) 0 (l0.length : Int) 0) else (none)) else (none))) = some (r1, r2, r3) := h
 clear h
 by_cases c3 : (Int.tmod a1 4294967296) = 0
 ·rw [if_pos c3] at H
  have gN : ((Int.tmod a1 4294967296) == 0) = true := beq_iff_eq.mpr c3
  have jk : ((Int.tmod a1 4294967296) != 0) = false := bne_eq_false_iff_eq.mpr c3
  clear c3
  simp only [Option.some.injEq, Prod.mk.injEq] at H
  obtain ⟨rfl, rfl, rfl⟩ := H
  go_enter Tryz.func126, Tryz.ntmps126
  go_wp2
  go_ret3
  exact ⟨_, by first | rfl | (simp [errW_none, errW_some] <;> rfl) | (simp [*, errW_none, errW_some] <;> rfl), by first | exact Kd.gm _ _ _ _ _ | exact Kd.N_nil _ _ _ _ _ | exact Kd.V_nil _ _ _ _ _ | exact Kd.Q_nil _ _ _ _ _ | exact Kd.S_nil _ _ _ _ _, by repeat (first | (with_reducible first | exact HB.out | apply au | apply ai | apply ak) | exact HB.out)⟩
 ·rw [if_neg c3] at H
  have gN : ((Int.tmod a1 4294967296) == 0) = false := beq_eq_false_iff_ne.mpr c3
  have jk : ((Int.tmod a1 4294967296) != 0) = true := bne_iff_ne.mpr c3
  by_cases c4 : 0 ≤ (l0.length : Int)
  ·rw [if_pos c4] at H
   have iQ := eq_true c4
   have jv : decide (0 ≤ (l0.length : Int)) = true := decide_eq_true c4
   clear c4
   by_cases c5 : ((l0.length : Int) : Int).toNat ≤ 35184372088832
   ·rw [if_pos c5] at H
    have jG := eq_true c5
    have lS : decide (((l0.length : Int) : Int).toNat ≤ 35184372088832) = true := decide_eq_true c5
    clear c5
    obtain ⟨y101, hy101⟩ : ∃ y_ : List Int, y_ = (List.replicate ((l0.length : Int) : Int).toNat 0) := ⟨_, rfl⟩
    replace H : (dn.l0 k l0 a1 y101 0 (l0.length : Int) 0) = some (r1, r2, r3) := by first | (rw [hy101]; with_reducible exact H) | (have H2_ := (Option.bind_some _ _).symm.trans H; rw [hy101]; with_reducible exact H2_) | (have H2_ := (Option.bind_some _ _).symm.trans H; with_reducible exact H2_) | with_reducible exact H | (rw [hy101]; exact H) | exact H
    have Ny101 := ae.mk hy101
    clear hy101
    have H' := ae.mk H
    clear H
    go_enter Tryz.func126, Tryz.ntmps126
    go_wp2_with (first | ((with_reducible refine bg (N := 18) rfl ?_); refine Kd.kC (Kd.int .u64) _ 96 rfl (N := 18) rfl 67 _ _ rfl (l0.length : Int) rfl rfl Tryz.underlying67 (.int .u64 0) 8 pq rfl (by decide) (by omega) 0 (ok := fun _ => True) (okp := fun _ => True) rfl (fun _ hk => hk) trivial (of_decide_eq_true qa) (Nat.le_trans (Nat.mul_le_mul_right _ (of_decide_eq_true qa : (l0.length : Int).toNat ≤ 35184372088832)) (by omega)) (Below.refl _ _) (Nat.le_refl _) ?_; intro v102 w6 ho7 hb hg_ hnew_; clear hg_ hnew_; (first | rw [← Ny101.out] at ho7 | (simp only [Int.reduceToNat] at ho7; rw [← Ny101.out] at ho7)); have eX := ae.mk (Kd.dI ho7 (bi (qw HB))); replace HB := ae.mk (aj (qw HB) hb); clear hb ho7))
    go_loopg [8, 21] k (fun kq v8 v21 w' => ∃ (jM : List Int) (aW : Int) (lQ : Int), v8 = .int .u64 aW ∧ v21 = .int .i64 lQ ∧ ae (dn.l0 kq l0 a1 jM aW (l0.length : Int) lQ = some (r1, r2, r3)) ∧ ae (kq ≤ k) ∧ ae (Kd.R (Kd.int .u64) 96 w' w.heap.size (fun _ => True) v102 jM) ∧ ae (Below w.heap.size w w'))
    case atStart => exact ⟨(y101), (0), (0), (by first | rfl | (simp; done) | (simp [*]; done)), (by first | rfl | (simp; done) | (simp [*]; done)), H', ⟨Nat.le_refl _⟩, ⟨by (with_reducible repeat (first | apply Kd.di | apply Kd.dm | apply Kd.dR)); exact eX.out⟩, ⟨by repeat (first | (with_reducible first | exact HB.out | apply au | apply ai | apply ak) | exact HB.out)⟩⟩
    case round =>
     clear H'
     try clear c1
     try clear p2
     try clear c3
     try clear gN
     try clear jk
     try clear c4
     try clear iQ
     try clear jv
     try clear c5
     try clear jG
     try clear lS
     obtain ⟨jM, aW, lQ, rfl, rfl, HA, HK1, kY, HB⟩ := hrel
     cases gk with
     | zero => exact absurd HA.out (by simp [dn.l0])
     | succ k1 =>
      have H := HA.out
      clear HA
      simp only [dn.l0] at H
      by_cases c8 : lQ < (l0.length : Int)
      ·rw [if_pos c8] at H
       have kK : decide (lQ < (l0.length : Int)) = true := decide_eq_true c8
       clear c8
       obtain ⟨ji9, hji9⟩ : ∃ j_ : Int, (wrap64 ((wrap64 ((l0.length : Int) - 1)) - lQ)) = j_ := ⟨_, rfl⟩
       replace H : (if 0 ≤ (ji9) then (if (ji9) < (l0.length : Int) then ((mh.f aW (rd l0 (ji9)) a1).bind fun kU => (if (ji9) < (jM.length : Int) then (dn.l0 k1 l0 a1 (jM.set ((ji9) : Int).toNat kU.1) kU.2.1 (l0.length : Int) (wrap64 (lQ + 1))) else (none))) else (none)) else (none)) = some (r1, r2, r3) := by first | (rw [hji9] at H; exact H) | (simp only [hji9] at H ⊢; exact H)
       have hji9w : (IntKind.i64.wrap ((wrap64 ((l0.length : Int) - 1)) - lQ)) = ji9 := (jD _).trans hji9
       by_cases c10 : 0 ≤ (ji9)
       ·rw [if_pos c10] at H
        have yV : decide (0 ≤ (ji9)) = true := decide_eq_true c10
        clear c10
        by_cases c11 : (ji9) < (l0.length : Int)
        ·rw [if_pos c11] at H
         have lq : decide ((ji9) < (l0.length : Int)) = true := decide_eq_true c11
         clear c11
         replace H := Option.bind_eq_some_iff.mp H
         obtain ⟨⟨t105, bG, t107⟩, A120, H⟩ := H
         replace H : (if (ji9) < (jM.length : Int) then (dn.l0 k1 l0 a1 (jM.set ((ji9) : Int).toNat t105) bG (l0.length : Int) (wrap64 (lQ + 1))) else (none)) = some (r1, r2, r3) := H
         have A12 := ae.mk A120
         clear A120
         by_cases c13 : (ji9) < (jM.length : Int)
         ·rw [if_pos c13] at H
          have yX : decide ((ji9) < (jM.length : Int)) = true := decide_eq_true c13
          clear c13
          obtain ⟨y108, hy108⟩ : ∃ y_ : List Int, y_ = (jM.set ((ji9) : Int).toNat t105) := ⟨_, rfl⟩
          replace H : (dn.l0 k1 l0 a1 y108 bG (l0.length : Int) (wrap64 (lQ + 1))) = some (r1, r2, r3) := by first | (rw [hy108]; with_reducible exact H) | (have H2_ := (Option.bind_some _ _).symm.trans H; rw [hy108]; with_reducible exact H2_) | (have H2_ := (Option.bind_some _ _).symm.trans H; with_reducible exact H2_) | with_reducible exact H | (rw [hy108]; exact H) | exact H
          have Ny108 := ae.mk hy108
          clear hy108
          have H' := ae.mk H
          clear H
          have p104 : 0 ≤ ((ji9) : Int) := of_decide_eq_true qa
          have q104 : (ji9) < (l0.length : Int) := of_decide_eq_true qa
          obtain ⟨ad104, e104, hx104_0⟩ := Kd.jA HR0.out (ji9) p104 q104
          cases e104
          replace hx104_0 := (HB.out.cell (World.block_lt_of_cell? w _ hx104_0)).trans hx104_0
          replace p104 := eq_true p104
          replace q104 := eq_true q104
          go_wp2_with (first | ((with_reducible refine aH (f := 134) rfl ?_); refine bN (some 38) rfl rfl Tryz.func134 (by kernel_rfl) rfl #[.int .u64 aW, .int .u64 (rd l0 (ji9)), .int .u64 a1] rfl (by (try simp only [List.map_toArray, List.map_cons, List.map_nil]); first | done | (simp only [hji9]; rfl) | rfl | (simp only [List.length_drop, List.length_take]; rfl)) ?_; (with_reducible refine (mh.calls aW (rd l0 (ji9)) a1 t105 bG t107 _ A12.out).mono ?_); rintro e w' ⟨rfl, ⟨nd, rfl⟩⟩; refine ⟨_, rfl, ?_⟩; (try (rw [sU wr]; generalize hq_ : World.drewN wr _ = wr; replace kY : ae (Kd.R (Kd.int .u64) 96 wr w.heap.size (fun _ => True) v102 jM) := ⟨by rw [← hq_]; exact (qr kY)⟩; replace HB : ae (Below w.heap.size w wr) := ⟨by rw [← hq_]; exact (qw HB)⟩; clear hq_)); have p14 : 0 ≤ ((ji9) : Int) := of_decide_eq_true qa; have q14 : ((ji9) : Int) < ((jM.length : Int) : Int) := of_decide_eq_true qa; obtain ⟨go14, Cg, AX, AY, gl14, cl14, HG14⟩ := Kd.kz kY.out (by omega); (first | cases AX | (injection AX with ea_ en_ ec_; (first | subst ea_ | (injection ea_ with ea_; subst ea_)); subst ec_; clear en_)); have Ch := ae.mk AY; have GG14 := ae.mk HG14; clear AY gl14 HG14; obtain ⟨hx14_0, hf14_0⟩ := Kd.ib 0 kY.out ((ji9) : Int) p14 q14; replace p14 := eq_true p14; replace q14 := eq_true q14; obtain ⟨hy15_, hz15_⟩ := Kd.ib 0 kY.out ((ji9) : Int) (of_decide_eq_true qa) (of_decide_eq_true qa); have HP15 := Kd.kD kY.out ((ji9) : Int) t105) | ((with_reducible refine iD (t := 96) (p := 42) rfl ?_); refine ic (t := 96) (p := 42) (v := ?vo_w16) (w1 := (wr.setCell ⟨go14, ((ji9) : Int).toNat, none⟩ (.int .u64 t105))) ?hg ?ho ?hn ?hr ?_; (case ho => rfl); (case hg => rfl); (case hn => rfl); (case hr => first | (go_simp; done) | (go_simp; rfl)); intro w16 hw; have hg : wr.grownBy w16 (some go14) := (by rw [hw]; exact HP15.2); have hp_ : Kd.R (Kd.int .u64) 96 w16 w.heap.size (fun _ => True) (.slice (some ⟨go14, 0, none⟩) jM.length Cg) y108 := (by rw [hw, Ny108.out]; exact HP15.1); clear HP15; replace kY := ae.mk (hp_); replace HB := ae.mk ((by rw [hw]; exact bn (HB.out) Ch.out : Below w.heap.size w w16)); clear hg hw hp_))
          go_roundg k1
          case measure => have := HK1.out; omega
          case rel => exact ⟨(y108), (bG), (wrap64 (lQ + 1)), (by first | rfl | (simp; done) | (simp [*]; done)), (by first | rfl | (simp; done) | (simp [*]; done)), H', ⟨by have := HK1.out; omega⟩, ⟨by (with_reducible repeat (first | apply Kd.di | apply Kd.dm | apply Kd.dR)); exact kY.out⟩, ⟨by repeat (first | (with_reducible first | exact HB.out | apply au | apply ai | apply ak) | exact HB.out)⟩⟩
         ·rw [if_neg c13] at H
          exact absurd H (by simp)
        ·rw [if_neg c11] at H
         exact absurd H (by simp)
       ·rw [if_neg c10] at H
        exact absurd H (by simp)
      ·rw [if_neg c8] at H
       have kK : decide (lQ < (l0.length : Int)) = false := decide_eq_false c8
       clear c8
       replace H := Option.bind_eq_some_iff.mp H
       obtain ⟨⟨t109, gV⟩, A170, H⟩ := H
       replace H : (some (t109, aW, 0)) = some (r1, r2, r3) := H
       have A17 := ae.mk A170
       clear A170
       simp only [Option.some.injEq, Prod.mk.injEq] at H
       obtain ⟨rfl, rfl, rfl⟩ := H
       obtain ⟨xk, uZ, vk⟩ := Kd.dM kY.out
       subst vk
       go_wp2_with (first | ((with_reducible refine aH (f := 125) rfl ?_); refine bN (some 46) rfl rfl Tryz.func125 (by kernel_rfl) rfl #[.slice xk jM.length uZ] rfl qt ?_; (with_reducible refine (eH.calls k1 _ _ jM t109 gV _ ?aX ?aY A17.out).mono ?_); (case aX => exact qs ((Kd.aV kY.out).2.2)); (case aY => exact (Kd.aV kY.out).2.1); rintro e w19 ⟨v111, rfl, ho0, hb⟩; refine ⟨_, rfl, ?_⟩; have lv := ae.mk (Kd.dI (Kd.iM ho0 (Kd.jQ (qr kY))) (bi (qw HB))); replace kY := ae.mk (Kd.gB (qr kY) (Kd.iL ho0) hb); replace HB := ae.mk (aj (qw HB) hb); (try clear hb); (try clear hb2); (try clear hk); (try clear hi); (try clear ho0)))
       go_ret3
       exact ⟨_, by first | rfl | (simp [errW_none, errW_some] <;> rfl) | (simp [*, errW_none, errW_some] <;> rfl), by (with_reducible repeat (first | apply Kd.di | apply Kd.dm | apply Kd.dR)); exact Kd.gu lv.out (fun _ hk => trivial), by repeat (first | (with_reducible first | exact HB.out | apply au | apply ai | apply ak) | exact HB.out)⟩
   ·rw [if_neg c5] at H
    exact absurd H (by simp)
  ·rw [if_neg c4] at H
   exact absurd H (by simp)
end Go.Proofs.YteidaijpaijgpaaGreatDoor.P
end
