/- LimitsQueries' tied card: for every queries and every number the law answers true, and they read as before; the listed tables of Go's library are tied to the program's text (their look is the given tie's). -/
import Derived.Below
import Derived.Deep.Draws
import Derived.Deep.AppendLies
import Derived.Maps.AppendAt
import Derived.OwnWalk
import Derived.Laws.BytesArg
import Derived.Laws.MakeOwn
import Derived.Laws.OwnMore
import Derived.Deep.OwnRows
import Derived.Tactics
import Derived.Lib.ConvBytes
import Derived.Laws.Slices
import Derived.WalkKit
import Derived.KernelRfl
import Derived.RowKit3
import Derived.Deep.LoopGhost
import Derived.Deep.QuietTactic
import Derived.BigQuiet
import Derived.WideLaws
import Derived.Deep.DeepCutAuto
import Derived.Deep.CutBlock
import Derived.Deep.RegionHeld3
import Derived.Laws.Rows
import Derived.Lib.AppendStr
import Derived.ArgAppend
import Derived.Laws.IdiomCopy
import Derived.RowKit
import Derived.OrdersHeld
import Derived.Laws.BitsLemmas
import Derived.Laws.CopyOwn
import Derived.Lib.Builder
import Derived.Lib.LaidTab
import Derived.Lib.OthersKept
import Derived.Lib.FrozenHead
import Derived.Lib.ItoaNum
import Derived.Test.YteidaijpaijgpaaGreatDoorProg
import Derived.Test.YteidaijpaijgpaaGreatDoorRows
import Derived.PinnedBridge
import Derived.LaidHandle
import Derived.LaidLaws
import Derived.MakeChecks
import Derived.Stop.LaidErr
import Derived.ProofKit
import Derived.Laws.StructEq
import Derived.OpenShut
import Derived.ChangeArms
import Derived.DataReads
import Derived.DataElems
import Derived.Shelf.Strings.Builder1
import Derived.Shelf.Strings.Builder2
import Derived.Shelf.Strings.OnBuilder
import Derived.Shelf.Strings.Trim
import Derived.Shelf.Small.Utf8
import Derived.Shelf.Small.Strs
import Derived.Shelf.Strings.BuilderF
import Derived.Shelf.Strings.BuilderK
import Derived.Shelf.Strings.Builder2Cap
import Derived.Shelf.Strconv.Itoa0
import Derived.Shelf.Strconv.Itoa1
import Derived.Shelf.LaysM
import Derived.Shelf.Strconv.Itoa2
import Derived.Shelf.Strconv.Itoa3
import Derived.Shelf.Strings.Search1
import Derived.Shelf.Unicode.Decode
import Derived.Shelf.Strings.Runes
import Derived.Shelf.Strings.AsciiSet
import Derived.Shelf.Unicode.DecodeSlow
import Derived.Shelf.Unicode.DecodeAny
import Derived.Shelf.Strings.BuilderCap
import Derived.Lib.ItoaLen
import Derived.Lib.ItoaMem
import Derived.Laws.BitsAllLaws
import Derived.Lib.Hide
import Derived.ShutString
import Derived.ChangeOld
import Derived.Carry
import Derived.SizedLaws
import Derived.Test.YteidaijpaijgpaaGreatDoorCards
import Derived.Test.YteidaijpaijgpaaGreatDoorTie
import Derived.SevenTiedAt
import Derived.Test.YteidaijpaijgpaaGreatDoorA0
import Derived.Test.YteidaijpaijgpaaGreatDoorA1
import Derived.Test.YteidaijpaijgpaaGreatDoorA2
section
namespace Go.Proofs.YteidaijpaijgpaaGreatDoor.P
open Go.RowKit Go.Proofs.YteidaijpaijgpaaGreatDoorW.ay Go.Proofs.YteidaijpaijgpaaGreatDoorW.aQ Go.Proofs.YteidaijpaijgpaaGreatDoorW.aZ
attribute [local go_sem] bz bA bP bQ bq bu bB bC
set_option linter.unusedVariables false
set_option linter.unusedSimpArgs false
def fB.f (k : Nat) (aD : ByteArray) (aA : Int) (bU : Int) (bf : Bool) (fG : List (List (S55))) : Option (ByteArray) := (dV.f k aA bU).bind fun aJ => ((aN.f (([(⟨#[114, 117, 108, 101]⟩ : ByteArray), aD, aJ] : List ByteArray))).bind fun bG => (if bf = true then ((aN.f (([bG, (⟨#[100, 114, 111, 112]⟩ : ByteArray)] : List ByteArray))).bind fun gV => (if gV.size + 1 ≤ 9223372036854775807 then (some (gV ++ (⟨#[59]⟩ : ByteArray))) else (none))) else ((dN.f k fG pz).bind fun ja => ((strings_Join.f ja (⟨#[32, 101, 108, 115, 101, 32]⟩ : ByteArray)).bind fun lc => ((aN.f (([bG, (⟨#[118, 105, 97]⟩ : ByteArray), lc] : List ByteArray))).bind fun jo => (if jo.size + 1 ≤ 9223372036854775807 then (some (jo ++ (⟨#[59]⟩ : ByteArray))) else (none)))))))
theorem fB.mono : ∀ a0 a1 a2 a3 a4 k, LeO (fB.f k a0 a1 a2 a3 a4) (fB.f (k + 1) a0 a1 a2 a3 a4) := by
 intro a0 a1 a2 a3 a4 k
 unfold fB.f
 repeat' first
   | (with_reducible exact dV.mono _ _ _)
   | (with_reducible exact dN.mono _ _ _)
   | (with_reducible exact LeO.refl _)
   | (with_reducible exact LeO.none _)
   | (with_reducible refine LeO.ite ?_ ?_)
   | (with_reducible refine LeO.bind ?_ (fun _ => ?_))
   | exact dV.mono _ _ _
   | exact dN.mono _ _ _
   | exact LeO.none _
   | refine LeO.ite ?_ ?_
   | refine LeO.bind ?_ (fun _ => ?_)
def fB.T1 : Bool × List (List Nat × List Nat) := (true, [([], []), ([0], [0]), ([], []), ([2], [2]), ([3], [3]), ([1, 4], [1, 4]), ([5, 4], [5]), ([6, 6, 0, 1, 2, 3, 4, 5, 6], [6])])
def fB.B1 : List Nat := [0, 1, 0, 4, 12, 31, 63, 127]
theorem fB.ou : iV .any (opsOf Tryz.f11 1) = fB.T1 := by kernel_rfl
theorem fB.lN : iA fB.T1.2 fB.B1 = true := by kernel_rfl
set_option maxHeartbeats 8000000 in
set_option maxRecDepth 100000 in
theorem fB.calls (k : Nat) (aD : ByteArray) (aA : Int) (bU : Int) (bf : Bool) (je : Option Addr) (c0_4 : Nat) (fG : List (List (S55))) (r : ByteArray) (w : World) (hr0_4 : Kd.C (Kd.slice 55 k55) w je fG.length fG) (hc0_4 : fG.length ≤ c0_4) (h : fB.f k aD aA bU bf fG = some r) (HGT : ae (Go.Proofs.YteidaijpaijgpaaGreatDoorV.GT w)) :
  Calls Tryz.prog 11 #[.agg #[.string aD, .int .u32 aA, .int .i64 bU, .bool bf, .slice je fG.length c0_4]] w fun e w' => e = .returned (.string r) ∧ Below w.heap.size w w' := by
 have hu28 := Tryz.underlying28
 have hu25 := Tryz.underlying25
 have nI := ae.mk hr0_4
 have nJ := ae.mk hc0_4
 clear hr0_4 hc0_4
 have HB := ae.mk (Below.refl w.heap.size w)
 have H : ((dV.f k aA bU).bind fun aJ => ((aN.f (([(⟨#[114, 117, 108, 101]⟩ : ByteArray), aD, aJ] : List ByteArray))).bind fun bG => (if bf = true then ((aN.f (([bG, (⟨#[100, 114, 111, 112]⟩ : ByteArray)] : List ByteArray))).bind fun gV => (if gV.size + 1 ≤ 9223372036854775807 then (some (gV ++ (⟨#[59]⟩ : ByteArray))) else (none))) else ((dN.f k fG pz).bind fun ja => ((strings_Join.f ja (⟨#[32, 101, 108, 115, 101, 32]⟩ : ByteArray)).bind fun lc => ((aN.f (([bG, (⟨#[118, 105, 97]⟩ : ByteArray), lc] : List ByteArray))).bind fun jo => (if jo.size + 1 ≤ 9223372036854775807 then (some (jo ++ (⟨#[59]⟩ : ByteArray))) else (none)))))))) = some r := h
 clear h
 replace H := Option.bind_eq_some_iff.mp H
 obtain ⟨aJ, A20, H⟩ := H
 replace H : ((aN.f (([(⟨#[114, 117, 108, 101]⟩ : ByteArray), aD, aJ] : List ByteArray))).bind fun bG => (if bf = true then ((aN.f (([bG, (⟨#[100, 114, 111, 112]⟩ : ByteArray)] : List ByteArray))).bind fun gV => (if gV.size + 1 ≤ 9223372036854775807 then (some (gV ++ (⟨#[59]⟩ : ByteArray))) else (none))) else ((dN.f k fG pz).bind fun ja => ((strings_Join.f ja (⟨#[32, 101, 108, 115, 101, 32]⟩ : ByteArray)).bind fun lc => ((aN.f (([bG, (⟨#[118, 105, 97]⟩ : ByteArray), lc] : List ByteArray))).bind fun jo => (if jo.size + 1 ≤ 9223372036854775807 then (some (jo ++ (⟨#[59]⟩ : ByteArray))) else (none))))))) = some r := H
 have A2 := ae.mk A20
 clear A20
 obtain ⟨y103, hy103⟩ : ∃ y_ : List ByteArray, y_ = (([(⟨#[114, 117, 108, 101]⟩ : ByteArray), aD, aJ] : List ByteArray)) := ⟨_, rfl⟩
 replace H : ((aN.f y103).bind fun bG => (if bf = true then ((aN.f (([bG, (⟨#[100, 114, 111, 112]⟩ : ByteArray)] : List ByteArray))).bind fun gV => (if gV.size + 1 ≤ 9223372036854775807 then (some (gV ++ (⟨#[59]⟩ : ByteArray))) else (none))) else ((dN.f k fG pz).bind fun ja => ((strings_Join.f ja (⟨#[32, 101, 108, 115, 101, 32]⟩ : ByteArray)).bind fun lc => ((aN.f (([bG, (⟨#[118, 105, 97]⟩ : ByteArray), lc] : List ByteArray))).bind fun jo => (if jo.size + 1 ≤ 9223372036854775807 then (some (jo ++ (⟨#[59]⟩ : ByteArray))) else (none))))))) = some r := by first | (rw [hy103]; with_reducible exact H) | (have H2_ := (Option.bind_some _ _).symm.trans H; rw [hy103]; with_reducible exact H2_) | (have H2_ := (Option.bind_some _ _).symm.trans H; with_reducible exact H2_) | with_reducible exact H | (rw [hy103]; exact H) | exact H
 have Ny103 := ae.mk hy103
 clear hy103
 replace H := Option.bind_eq_some_iff.mp H
 obtain ⟨bG, A30, H⟩ := H
 replace H : (if bf = true then ((aN.f (([bG, (⟨#[100, 114, 111, 112]⟩ : ByteArray)] : List ByteArray))).bind fun gV => (if gV.size + 1 ≤ 9223372036854775807 then (some (gV ++ (⟨#[59]⟩ : ByteArray))) else (none))) else ((dN.f k fG pz).bind fun ja => ((strings_Join.f ja (⟨#[32, 101, 108, 115, 101, 32]⟩ : ByteArray)).bind fun lc => ((aN.f (([bG, (⟨#[118, 105, 97]⟩ : ByteArray), lc] : List ByteArray))).bind fun jo => (if jo.size + 1 ≤ 9223372036854775807 then (some (jo ++ (⟨#[59]⟩ : ByteArray))) else (none)))))) = some r := H
 have A3 := ae.mk A30
 clear A30
 by_cases c4 : bf = true
 ·subst c4
  have H1 : ((aN.f (([bG, (⟨#[100, 114, 111, 112]⟩ : ByteArray)] : List ByteArray))).bind fun gV => (if gV.size + 1 ≤ 9223372036854775807 then (some (gV ++ (⟨#[59]⟩ : ByteArray))) else (none))) = some r := by rw [if_pos rfl] at H; exact H
  clear H
  have H := H1
  clear H1
  obtain ⟨y107, hy107⟩ : ∃ y_ : List ByteArray, y_ = (([bG, (⟨#[100, 114, 111, 112]⟩ : ByteArray)] : List ByteArray)) := ⟨_, rfl⟩
  replace H : ((aN.f y107).bind fun gV => (if gV.size + 1 ≤ 9223372036854775807 then (some (gV ++ (⟨#[59]⟩ : ByteArray))) else (none))) = some r := by first | (rw [hy107]; with_reducible exact H) | (have H2_ := (Option.bind_some _ _).symm.trans H; rw [hy107]; with_reducible exact H2_) | (have H2_ := (Option.bind_some _ _).symm.trans H; with_reducible exact H2_) | with_reducible exact H | (rw [hy107]; exact H) | exact H
  have Ny107 := ae.mk hy107
  clear hy107
  replace H := Option.bind_eq_some_iff.mp H
  obtain ⟨gV, A50, H⟩ := H
  replace H : (if gV.size + 1 ≤ 9223372036854775807 then (some (gV ++ (⟨#[59]⟩ : ByteArray))) else (none)) = some r := H
  have A5 := ae.mk A50
  clear A50
  by_cases c6 : gV.size + 1 ≤ 9223372036854775807
  ·rw [if_pos c6] at H
   have kE := eq_true c6
   have tK : decide (gV.size + 1 ≤ 9223372036854775807) = true := decide_eq_true c6
   try have zn : (9223372036854775807 < gV.size + 1) = False := eq_false (Nat.not_lt.2 c6)
   obtain rfl := Option.some.inj H
   go_enter Tryz.func11, Tryz.ntmps11
   try go_wp2_with (first | ((with_reducible refine bg (N := 1) rfl ?_); refine bE ?hg (N := 1) ?hd (cs := #[.string aD, .int .u32 aA, .int .i64 bU, .bool true, .slice je fG.length c0_4]) (t := 28) ?hr ?_; (case hd => rfl); (case hg => rfl); (case hr => first | (go_simp; done) | (go_simp; rfl)); intro av hg w7 hbox hb; have ag := ae.mk (hbox); have GW101 := qge HB hg; have dh := qge HB hg; replace HB := ae.mk (aj (qw HB) hb); clear hb hbox hg))
   replace ag := ae.mk (dQ ag.out)
   replace HB := ae.mk (ak HB.out)
   refine iP (n := 8) (S := fun w' => w'.cell? ⟨av, 0, none⟩ = some (.string aD) ∧ w'.cell? ⟨av, 1, none⟩ = some (.int .u32 aA) ∧ w'.cell? ⟨av, 2, none⟩ = some (.int .i64 bU) ∧ w'.cell? ⟨av, 3, none⟩ = some (.bool true) ∧ w'.cell? ⟨av, 4, none⟩ = some (.slice je fG.length c0_4)) (ds := []) #[bF,bF,bF,bF,bF,bF,bF,bF] (by kernel_rfl) rfl rfl ⟨(af ag.out 0).trans rfl, (af ag.out 1).trans rfl, (af ag.out 2).trans rfl, (af ag.out 3).trans rfl, (af ag.out 4).trans rfl⟩ (fun hHeld => ?_); refine fV fB.ou fB.lN (fun HT_ HW_ => ?_)
   generalize w7.drew = w8 at ag HB hHeld ⊢
   refine bL 0 (some 4) HT_ ?_
   refine bL 2 (some 6) HT_ ?_
   refine fI 1 (some 5) HT_ HW_ hHeld ?_
   refine fI 3 (some 7) HT_ HW_ hHeld ?_
   refine iW 4 (some 8) HT_ (fun K hK => ?_)
   refine gX Tryz.func34 #[.agg #[.int .u32 aA, .int .i64 bU]] ?_
   with_reducible refine (dV.calls k aA bU aJ _ A2.out ?gt).mono ?_
   (case gt => exact Go.Proofs.YteidaijpaijgpaaGreatDoorV.GT.below HGT (qw HB))
   rintro e w9 ⟨rfl, hb⟩
   refine ⟨_, rfl, ?_⟩
   replace ag := qbb ag hb
   replace HB := ae.mk (aj (qw HB) hb)
   (try clear hb)
   (try clear hb2)
   (try clear hk)
   (try clear hi)
   refine hK.out _ _ ⟨(af ag.out 0).trans rfl, (af ag.out 1).trans rfl, (af ag.out 2).trans rfl, (af ag.out 3).trans rfl, (af ag.out 4).trans rfl⟩ (fun hHeld => ?_)
   clear hK K
   refine gD (some 8) ?_
   refine iW 5 (some 9) HT_ (fun K hK => ?_)
   refine Kd.jR Kd.string _ 9 ?hg (N := 9) ?hd (xs := ([(⟨#[114, 117, 108, 101]⟩ : ByteArray), aD, aJ] : List ByteArray)) (inner := [.string (⟨#[114, 117, 108, 101]⟩ : ByteArray), .string aD, .string aJ]) (ok := fun _ => True) (okp := fun _ => True) ?hr ?hp (fun _ hk => hk) trivial (Below.refl _ _) (Nat.le_refl _) (by simp) ?_; (case hd => rfl); (case hg => rfl); (case hr => first | (go_simp; done) | (go_simp; rfl)); (case hp => exact (cu.one (show Kd.M Kd.string _ _ _ (⟨#[114, 117, 108, 101]⟩ : ByteArray) [.string (⟨#[114, 117, 108, 101]⟩ : ByteArray)] from rfl) (cu.one (show Kd.M Kd.string _ _ _ aD [.string aD] from rfl) (cu.one (show Kd.M Kd.string _ _ _ aJ [.string aJ] from rfl) (cu.none _ _)))))
   intro v104 w10 mf hb hg_ hnew_
   clear hg_ hnew_
   (first | rw [← Ny103.out] at mf | (simp only [Int.reduceToNat] at mf; rw [← Ny103.out] at mf))
   have fQ := ae.mk (Kd.dI mf (bi (qw HB)))
   replace ag := qbb ag hb
   replace HB := ae.mk (aj (qw HB) hb)
   clear hb mf
   obtain ⟨tT, kF, jr⟩ := Kd.dM fQ.out
   (first | subst jr | (injection jr with f1_ f2_ f3_; have f4_ := f1_.symm; have f5_ := f3_.symm; clear f1_ f2_ f3_; subst f4_; subst f5_))
   refine hK.out _ _ ⟨(af ag.out 0).trans rfl, (af ag.out 1).trans rfl, (af ag.out 2).trans rfl, (af ag.out 3).trans rfl, (af ag.out 4).trans rfl⟩ (fun hHeld => ?_)
   clear hK K
   refine gD (some 9) ?_
   refine iW 6 (some 10) HT_ (fun K hK => ?_)
   refine gX Tryz.func33 #[.slice tT y103.length kF] ?_
   with_reducible refine (aN.calls _ _ y103 bG _ ?aX ?aY A3.out).mono ?_
   (case aX => exact qs ((Kd.aV fQ.out).2.2))
   (case aY => exact (Kd.aV fQ.out).2.1)
   rintro e w13 ⟨rfl, hb⟩
   refine ⟨_, rfl, ?_⟩
   replace fQ := ae.mk (Kd.bD (qr fQ) hb)
   replace ag := qbb ag hb
   replace HB := ae.mk (aj (qw HB) hb)
   (try clear hb)
   (try clear hb2)
   (try clear hk)
   (try clear hi)
   refine hK.out _ _ ⟨(af ag.out 0).trans rfl, (af ag.out 1).trans rfl, (af ag.out 2).trans rfl, (af ag.out 3).trans rfl, (af ag.out 4).trans rfl⟩ (fun hHeld => ?_)
   clear hK K
   refine gD (some 10) ?_
   refine bL 7 (some 3) HT_ ?_
   refine jI HT_ ?_
   have hcz14_0 : w13.cell? ⟨av, 0, none⟩ = some (.string aD) := (af ag.out 0).trans rfl
   have hcz14_1 : w13.cell? ⟨av, 1, none⟩ = some (.int .u32 aA) := (af ag.out 1).trans rfl
   have hcz14_2 : w13.cell? ⟨av, 2, none⟩ = some (.int .i64 bU) := (af ag.out 2).trans rfl
   have hcz14_3 : w13.cell? ⟨av, 3, none⟩ = some (.bool true) := (af ag.out 3).trans rfl
   have hcz14_4 : w13.cell? ⟨av, 4, none⟩ = some (.slice je fG.length c0_4) := (af ag.out 4).trans rfl
   have hfz14_0 := ah ag.out 0
   have hfz14_1 := ah ag.out 1
   have hfz14_2 := ah ag.out 2
   have hfz14_3 := ah ag.out 3
   have hfz14_4 := ah ag.out 4
   try go_wp2_with (first | ((with_reducible refine bg (N := 14) rfl ?_); refine Kd.jm Kd.string _ 9 ?hg (N := 14) ?hd (xs := ([bG, (⟨#[100, 114, 111, 112]⟩ : ByteArray)] : List ByteArray)) (inner := [.string bG, .string (⟨#[100, 114, 111, 112]⟩ : ByteArray)]) (ok := fun _ => True) (okp := fun _ => True) ?hr ?hp (fun _ hk => hk) trivial (Below.refl _ _) (Nat.le_refl _) (by simp) ?_; (case hd => rfl); (case hg => rfl); (case hr => first | (go_simp; done) | (go_simp; rfl)); (case hp => exact (cu.one (show Kd.M Kd.string _ _ _ bG [.string bG] from rfl) (cu.one (show Kd.M Kd.string _ _ _ (⟨#[100, 114, 111, 112]⟩ : ByteArray) [.string (⟨#[100, 114, 111, 112]⟩ : ByteArray)] from rfl) (cu.none _ _)))); intro v108 w15 vB hb hg_ hnew_; clear hg_ hnew_; (first | rw [← Ny107.out] at vB | (simp only [Int.reduceToNat] at vB; rw [← Ny107.out] at vB)); have mg := ae.mk (Kd.dI (Kd.iM vB (Kd.jQ (qr fQ))) (bi (qw HB))); replace fQ := ae.mk (Kd.gB (qr fQ) (Kd.iL vB) hb); replace ag := qbb ag hb; replace HB := ae.mk (aj (qw HB) hb); clear hb vB; obtain ⟨yE, uY, tY⟩ := Kd.dM mg.out; subst tY) | ((with_reducible refine aH (f := 33) rfl ?_); refine bN (some 15) rfl rfl Tryz.func33 (by kernel_rfl) rfl #[.slice yE y107.length uY] rfl qt ?_; (with_reducible refine (aN.calls _ _ y107 gV _ ?aX ?aY A5.out).mono ?_); (case aX => exact qs ((Kd.aV mg.out).2.2)); (case aY => exact (Kd.aV mg.out).2.1); rintro e w18 ⟨rfl, hb⟩; refine ⟨_, rfl, ?_⟩; replace fQ := ae.mk (Kd.bD (qr fQ) hb); replace mg := ae.mk (Kd.bD (qr mg) hb); replace ag := qbb ag hb; replace HB := ae.mk (aj (qw HB) hb); (try clear hb); (try clear hb2); (try clear hk); (try clear hi)))
   go_ret
   exact ⟨by first | rfl | (simp [errW_none, errW_some] <;> rfl) | (simp [*, errW_none, errW_some] <;> rfl), by repeat (first | (with_reducible first | exact HB.out | apply au | apply ai | apply ak | refine bn ?_ dh.out) | exact HB.out)⟩
  ·rw [if_neg c6] at H
   exact absurd H (by simp)
 ·replace c4 := Bool.eq_false_iff.mpr c4
  subst c4
  have H1 : ((dN.f k fG pz).bind fun ja => ((strings_Join.f ja (⟨#[32, 101, 108, 115, 101, 32]⟩ : ByteArray)).bind fun lc => ((aN.f (([bG, (⟨#[118, 105, 97]⟩ : ByteArray), lc] : List ByteArray))).bind fun jo => (if jo.size + 1 ≤ 9223372036854775807 then (some (jo ++ (⟨#[59]⟩ : ByteArray))) else (none))))) = some r := by rw [if_neg (show ¬ (false = true) by decide)] at H; exact H
  clear H
  have H := H1
  clear H1
  replace H := Option.bind_eq_some_iff.mp H
  obtain ⟨ja, A190, H⟩ := H
  replace H : ((strings_Join.f ja (⟨#[32, 101, 108, 115, 101, 32]⟩ : ByteArray)).bind fun lc => ((aN.f (([bG, (⟨#[118, 105, 97]⟩ : ByteArray), lc] : List ByteArray))).bind fun jo => (if jo.size + 1 ≤ 9223372036854775807 then (some (jo ++ (⟨#[59]⟩ : ByteArray))) else (none)))) = some r := H
  have A19 := ae.mk A190
  clear A190
  replace H := Option.bind_eq_some_iff.mp H
  obtain ⟨lc, A200, H⟩ := H
  replace H : ((aN.f (([bG, (⟨#[118, 105, 97]⟩ : ByteArray), lc] : List ByteArray))).bind fun jo => (if jo.size + 1 ≤ 9223372036854775807 then (some (jo ++ (⟨#[59]⟩ : ByteArray))) else (none))) = some r := H
  have A20 := ae.mk A200
  clear A200
  obtain ⟨y115, hy115⟩ : ∃ y_ : List ByteArray, y_ = (([bG, (⟨#[118, 105, 97]⟩ : ByteArray), lc] : List ByteArray)) := ⟨_, rfl⟩
  replace H : ((aN.f y115).bind fun jo => (if jo.size + 1 ≤ 9223372036854775807 then (some (jo ++ (⟨#[59]⟩ : ByteArray))) else (none))) = some r := by first | (rw [hy115]; with_reducible exact H) | (have H2_ := (Option.bind_some _ _).symm.trans H; rw [hy115]; with_reducible exact H2_) | (have H2_ := (Option.bind_some _ _).symm.trans H; with_reducible exact H2_) | with_reducible exact H | (rw [hy115]; exact H) | exact H
  have Ny115 := ae.mk hy115
  clear hy115
  replace H := Option.bind_eq_some_iff.mp H
  obtain ⟨jo, A210, H⟩ := H
  replace H : (if jo.size + 1 ≤ 9223372036854775807 then (some (jo ++ (⟨#[59]⟩ : ByteArray))) else (none)) = some r := H
  have A21 := ae.mk A210
  clear A210
  by_cases c22 : jo.size + 1 ≤ 9223372036854775807
  ·rw [if_pos c22] at H
   have Bc := eq_true c22
   have Bd : decide (jo.size + 1 ≤ 9223372036854775807) = true := decide_eq_true c22
   try have Be : (9223372036854775807 < jo.size + 1) = False := eq_false (Nat.not_lt.2 c22)
   obtain rfl := Option.some.inj H
   go_enter Tryz.func11, Tryz.ntmps11
   try go_wp2_with (first | ((with_reducible refine bg (N := 1) rfl ?_); refine bE ?hg (N := 1) ?hd (cs := #[.string aD, .int .u32 aA, .int .i64 bU, .bool false, .slice je fG.length c0_4]) (t := 28) ?hr ?_; (case hd => rfl); (case hg => rfl); (case hr => first | (go_simp; done) | (go_simp; rfl)); intro av hg w23 hbox hb; have ag := ae.mk (hbox); have GW101 := qge HB hg; have dh := qge HB hg; replace HB := ae.mk (aj (qw HB) hb); clear hb hbox hg))
   replace ag := ae.mk (dQ ag.out)
   replace HB := ae.mk (ak HB.out)
   refine iP (n := 8) (S := fun w' => w'.cell? ⟨av, 0, none⟩ = some (.string aD) ∧ w'.cell? ⟨av, 1, none⟩ = some (.int .u32 aA) ∧ w'.cell? ⟨av, 2, none⟩ = some (.int .i64 bU) ∧ w'.cell? ⟨av, 3, none⟩ = some (.bool false) ∧ w'.cell? ⟨av, 4, none⟩ = some (.slice je fG.length c0_4)) (ds := []) #[bF,bF,bF,bF,bF,bF,bF,bF] (by kernel_rfl) rfl rfl ⟨(af ag.out 0).trans rfl, (af ag.out 1).trans rfl, (af ag.out 2).trans rfl, (af ag.out 3).trans rfl, (af ag.out 4).trans rfl⟩ (fun hHeld => ?_); refine fV fB.ou fB.lN (fun HT_ HW_ => ?_)
   generalize w23.drew = w24 at ag HB hHeld ⊢
   refine bL 0 (some 4) HT_ ?_
   refine bL 2 (some 6) HT_ ?_
   refine fI 1 (some 5) HT_ HW_ hHeld ?_
   refine fI 3 (some 7) HT_ HW_ hHeld ?_
   refine iW 4 (some 8) HT_ (fun K hK => ?_)
   refine gX Tryz.func34 #[.agg #[.int .u32 aA, .int .i64 bU]] ?_
   with_reducible refine (dV.calls k aA bU aJ _ A2.out ?gt).mono ?_
   (case gt => exact Go.Proofs.YteidaijpaijgpaaGreatDoorV.GT.below HGT (qw HB))
   rintro e w25 ⟨rfl, hb⟩
   refine ⟨_, rfl, ?_⟩
   replace ag := qbb ag hb
   replace HB := ae.mk (aj (qw HB) hb)
   (try clear hb)
   (try clear hb2)
   (try clear hk)
   (try clear hi)
   refine hK.out _ _ ⟨(af ag.out 0).trans rfl, (af ag.out 1).trans rfl, (af ag.out 2).trans rfl, (af ag.out 3).trans rfl, (af ag.out 4).trans rfl⟩ (fun hHeld => ?_)
   clear hK K
   refine gD (some 8) ?_
   refine iW 5 (some 9) HT_ (fun K hK => ?_)
   refine Kd.jR Kd.string _ 9 ?hg (N := 9) ?hd (xs := ([(⟨#[114, 117, 108, 101]⟩ : ByteArray), aD, aJ] : List ByteArray)) (inner := [.string (⟨#[114, 117, 108, 101]⟩ : ByteArray), .string aD, .string aJ]) (ok := fun _ => True) (okp := fun _ => True) ?hr ?hp (fun _ hk => hk) trivial (Below.refl _ _) (Nat.le_refl _) (by simp) ?_; (case hd => rfl); (case hg => rfl); (case hr => first | (go_simp; done) | (go_simp; rfl)); (case hp => exact (cu.one (show Kd.M Kd.string _ _ _ (⟨#[114, 117, 108, 101]⟩ : ByteArray) [.string (⟨#[114, 117, 108, 101]⟩ : ByteArray)] from rfl) (cu.one (show Kd.M Kd.string _ _ _ aD [.string aD] from rfl) (cu.one (show Kd.M Kd.string _ _ _ aJ [.string aJ] from rfl) (cu.none _ _)))))
   intro v104 w26 oC hb hg_ hnew_
   clear hg_ hnew_
   (first | rw [← Ny103.out] at oC | (simp only [Int.reduceToNat] at oC; rw [← Ny103.out] at oC))
   have fQ := ae.mk (Kd.dI oC (bi (qw HB)))
   replace ag := qbb ag hb
   replace HB := ae.mk (aj (qw HB) hb)
   clear hb oC
   obtain ⟨Cn, Co, Bf⟩ := Kd.dM fQ.out
   (first | subst Bf | (injection Bf with f1_ f2_ f3_; have f4_ := f1_.symm; have f5_ := f3_.symm; clear f1_ f2_ f3_; subst f4_; subst f5_))
   refine hK.out _ _ ⟨(af ag.out 0).trans rfl, (af ag.out 1).trans rfl, (af ag.out 2).trans rfl, (af ag.out 3).trans rfl, (af ag.out 4).trans rfl⟩ (fun hHeld => ?_)
   clear hK K
   refine gD (some 9) ?_
   refine iW 6 (some 10) HT_ (fun K hK => ?_)
   refine gX Tryz.func33 #[.slice Cn y103.length Co] ?_
   with_reducible refine (aN.calls _ _ y103 bG _ ?aX ?aY A3.out).mono ?_
   (case aX => exact qs ((Kd.aV fQ.out).2.2))
   (case aY => exact (Kd.aV fQ.out).2.1)
   rintro e w29 ⟨rfl, hb⟩
   refine ⟨_, rfl, ?_⟩
   replace fQ := ae.mk (Kd.bD (qr fQ) hb)
   replace ag := qbb ag hb
   replace HB := ae.mk (aj (qw HB) hb)
   (try clear hb)
   (try clear hb2)
   (try clear hk)
   (try clear hi)
   refine hK.out _ _ ⟨(af ag.out 0).trans rfl, (af ag.out 1).trans rfl, (af ag.out 2).trans rfl, (af ag.out 3).trans rfl, (af ag.out 4).trans rfl⟩ (fun hHeld => ?_)
   clear hK K
   refine gD (some 10) ?_
   refine bL 7 (some 3) HT_ ?_
   refine jI HT_ ?_
   have hcz30_0 : w29.cell? ⟨av, 0, none⟩ = some (.string aD) := (af ag.out 0).trans rfl
   have hcz30_1 : w29.cell? ⟨av, 1, none⟩ = some (.int .u32 aA) := (af ag.out 1).trans rfl
   have hcz30_2 : w29.cell? ⟨av, 2, none⟩ = some (.int .i64 bU) := (af ag.out 2).trans rfl
   have hcz30_3 : w29.cell? ⟨av, 3, none⟩ = some (.bool false) := (af ag.out 3).trans rfl
   have hcz30_4 : w29.cell? ⟨av, 4, none⟩ = some (.slice je fG.length c0_4) := (af ag.out 4).trans rfl
   have hfz30_0 := ah ag.out 0
   have hfz30_1 := ah ag.out 1
   have hfz30_2 := ah ag.out 2
   have hfz30_3 := ah ag.out 3
   have hfz30_4 := ah ag.out 4
   try go_wp2_with (first | ((with_reducible refine aH (f := 35) rfl ?_); refine bN (some 20) rfl rfl Tryz.func35 (by kernel_rfl) rfl #[.slice je fG.length c0_4, .func (.func 36) #[] #[]] rfl qt ?_; (with_reducible refine (dN.calls k _ _ fG pz ja _ ?aX ?aY A19.out ?gt).mono ?_); (case gt => exact Go.Proofs.YteidaijpaijgpaaGreatDoorV.GT.below HGT (qw HB)); (case aX => exact qs ((Kd.dC nI.out HB.out))); (case aY => exact nJ.out); rintro e w31 ⟨v112, rfl, ho0, hb⟩; refine ⟨_, rfl, ?_⟩; have mR := ae.mk (Kd.dI (Kd.iM ho0 (Kd.jQ (qr fQ))) (bi (qw HB))); replace fQ := ae.mk (Kd.gB (qr fQ) (Kd.iL ho0) hb); replace ag := qbb ag hb; replace HB := ae.mk (aj (qw HB) hb); (try clear hb); (try clear hb2); (try clear hk); (try clear hi); (try clear ho0); obtain ⟨Cq, Cr, Cs⟩ := Kd.dM mR.out; subst Cs) | ((with_reducible refine aH (f := 26) rfl ?_); refine bN (some 21) rfl rfl Tryz.func26 (by kernel_rfl) rfl #[.slice Cq ja.length Cr, .string (⟨#[32, 101, 108, 115, 101, 32]⟩ : ByteArray)] rfl qt ?_; (with_reducible refine (strings_Join.calls _ _ ja (⟨#[32, 101, 108, 115, 101, 32]⟩ : ByteArray) lc _ ?aX ?aY A20.out).mono ?_); (case aX => exact qs ((Kd.aV mR.out).2.2)); (case aY => exact (Kd.aV mR.out).2.1); rintro e w33 ⟨rfl, hb⟩; refine ⟨_, rfl, ?_⟩; replace fQ := ae.mk (Kd.bD (qr fQ) hb); replace mR := ae.mk (Kd.bD (qr mR) hb); replace ag := qbb ag hb; replace HB := ae.mk (aj (qw HB) hb); (try clear hb); (try clear hb2); (try clear hk); (try clear hi)) | ((with_reducible refine bg (N := 22) rfl ?_); refine Kd.jm Kd.string _ 9 ?hg (N := 22) ?hd (xs := ([bG, (⟨#[118, 105, 97]⟩ : ByteArray), lc] : List ByteArray)) (inner := [.string bG, .string (⟨#[118, 105, 97]⟩ : ByteArray), .string lc]) (ok := fun _ => True) (okp := fun _ => True) ?hr ?hp (fun _ hk => hk) trivial (Below.refl _ _) (Nat.le_refl _) (by simp) ?_; (case hd => rfl); (case hg => rfl); (case hr => first | (go_simp; done) | (go_simp; rfl)); (case hp => exact (cu.one (show Kd.M Kd.string _ _ _ bG [.string bG] from rfl) (cu.one (show Kd.M Kd.string _ _ _ (⟨#[118, 105, 97]⟩ : ByteArray) [.string (⟨#[118, 105, 97]⟩ : ByteArray)] from rfl) (cu.one (show Kd.M Kd.string _ _ _ lc [.string lc] from rfl) (cu.none _ _))))); intro v116 w34 nK hb hg_ hnew_; clear hg_ hnew_; (first | rw [← Ny115.out] at nK | (simp only [Int.reduceToNat] at nK; rw [← Ny115.out] at nK)); have pV := ae.mk (Kd.dI (Kd.iM (Kd.iM nK (Kd.jQ (qr fQ))) (Kd.jQ (qr mR))) (bi (qw HB))); replace fQ := ae.mk (Kd.gB (qr fQ) (Kd.iL nK) hb); replace mR := ae.mk (Kd.gB (qr mR) (Kd.iL nK) hb); replace ag := qbb ag hb; replace HB := ae.mk (aj (qw HB) hb); clear hb nK; obtain ⟨Ct, Cu, Cv⟩ := Kd.dM pV.out; subst Cv) | ((with_reducible refine aH (f := 33) rfl ?_); refine bN (some 23) rfl rfl Tryz.func33 (by kernel_rfl) rfl #[.slice Ct y115.length Cu] rfl qt ?_; (with_reducible refine (aN.calls _ _ y115 jo _ ?aX ?aY A21.out).mono ?_); (case aX => exact qs ((Kd.aV pV.out).2.2)); (case aY => exact (Kd.aV pV.out).2.1); rintro e w37 ⟨rfl, hb⟩; refine ⟨_, rfl, ?_⟩; replace fQ := ae.mk (Kd.bD (qr fQ) hb); replace mR := ae.mk (Kd.bD (qr mR) hb); replace pV := ae.mk (Kd.bD (qr pV) hb); replace ag := qbb ag hb; replace HB := ae.mk (aj (qw HB) hb); (try clear hb); (try clear hb2); (try clear hk); (try clear hi)))
   go_ret
   exact ⟨by first | rfl | (simp [errW_none, errW_some] <;> rfl) | (simp [*, errW_none, errW_some] <;> rfl), by repeat (first | (with_reducible first | exact HB.out | apply au | apply ai | apply ak | refine bn ?_ dh.out) | exact HB.out)⟩
  ·rw [if_neg c22] at H
   exact absurd H (by simp)
end Go.Proofs.YteidaijpaijgpaaGreatDoor.P
end
section
namespace Go.Proofs.YteidaijpaijgpaaGreatDoor.P
open Go.RowKit Go.Proofs.YteidaijpaijgpaaGreatDoorW.ay Go.Proofs.YteidaijpaijgpaaGreatDoorW.aQ Go.Proofs.YteidaijpaijgpaaGreatDoorW.aZ
attribute [local go_sem] bz bA bP bQ bq bu bB bC
set_option linter.unusedVariables false
set_option linter.unusedSimpArgs false
def dA.l0 : Nat → List ByteArray → List (S28) → Int → Int → Option (List ByteArray)
 | 0, _, _, _, _ => none
 | k + 1, x5, x11, x12, x13 => if x13 < x12 then (if 0 ≤ x13 then (if x13 < (x11.length : Int) then ((fB.f k ((dB x11 x13).f0) ((dB x11 x13).f1.f0) ((dB x11 x13).f1.f1) ((dB x11 x13).f2) ((dB x11 x13).f3)).bind fun bG => (if x13 < (x5.length : Int) then (dA.l0 k (x5.set (x13 : Int).toNat bG) x11 x12 (wrap64 (x13 + 1))) else (none))) else (none)) else (none)) else (some x5)
def dA.f (k : Nat) (l0 : List (S28)) (a1 : Bool) : Option (List ByteArray) := if 0 ≤ (l0.length : Int) then (if ((l0.length : Int) : Int).toNat ≤ 17592186044416 then (dA.l0 k (List.replicate ((l0.length : Int) : Int).toNat (⟨#[]⟩ : ByteArray)) l0 (l0.length : Int) 0) else (none)) else (none)
theorem dA.dF : ∀ k, (∀ y0 y1 y2 y3, LeO (dA.l0 k y0 y1 y2 y3) (dA.l0 (k + 1) y0 y1 y2 y3))
 | 0 => fun _ _ _ _ r h => by simp [dA.l0] at h
 | k + 1 => by
  have ih0 := dA.dF k
  ·intro y0 y1 y2 y3
   unfold dA.l0
   repeat' first
   | (with_reducible exact ih0 _ _ _ _)
   | (with_reducible exact fB.mono _ _ _ _ _ _)
   | (with_reducible exact LeO.refl _)
   | (with_reducible exact LeO.none _)
   | (with_reducible refine LeO.ite ?_ ?_)
   | (with_reducible refine LeO.bind ?_ (fun _ => ?_))
   | exact ih0 _ _ _ _
   | exact fB.mono _ _ _ _ _ _
   | exact LeO.none _
   | refine LeO.ite ?_ ?_
   | refine LeO.bind ?_ (fun _ => ?_)
theorem dA.mono : ∀ a0 a1 k, LeO (dA.f k a0 a1) (dA.f (k + 1) a0 a1) := by
 intro a0 a1 k
 have ih0 := dA.dF k
 unfold dA.f
 repeat' first
   | (with_reducible exact ih0 _ _ _ _)
   | (with_reducible exact fB.mono _ _ _ _ _ _)
   | (with_reducible exact LeO.refl _)
   | (with_reducible exact LeO.none _)
   | (with_reducible refine LeO.ite ?_ ?_)
   | (with_reducible refine LeO.bind ?_ (fun _ => ?_))
   | exact ih0 _ _ _ _
   | exact fB.mono _ _ _ _ _ _
   | exact LeO.none _
   | refine LeO.ite ?_ ?_
   | refine LeO.bind ?_ (fun _ => ?_)
set_option maxHeartbeats 8000000 in
set_option maxRecDepth 100000 in
theorem dA.calls (k : Nat) (A0 : Option Addr) (c0 : Nat) (l0 : List (S28)) (a1 : Bool) (r : List ByteArray) (w : World) (hr0 : Kd.C k28 w A0 l0.length l0) (hc0 : l0.length ≤ c0) (h : dA.f k l0 a1 = some r) (HGT : ae (Go.Proofs.YteidaijpaijgpaaGreatDoorV.GT w)) :
  Calls Tryz.prog 52 #[.slice A0 l0.length c0, .func (.func 11) #[] #[]] w fun e w' => ∃ v0_ : Value, e = .returned (v0_) ∧ Kd.R Kd.string 9 w' w.heap.size (fun _ => True) v0_ r ∧ Below w.heap.size w w' := by
 have hu28 := Tryz.underlying28
 have HR0 := ae.mk hr0
 have HC0 := ae.mk hc0
 clear hr0 hc0
 have HB := ae.mk (Below.refl w.heap.size w)
 have H : (if 0 ≤ (l0.length : Int) then (if ((l0.length : Int) : Int).toNat ≤ 17592186044416 then (dA.l0 k (List.replicate ((l0.length : Int) : Int).toNat (⟨#[]⟩ : ByteArray)) l0 (l0.length : Int) 0) else (none)) else (none)) = some r := h
 clear h
 by_cases c3 : 0 ≤ (l0.length : Int)
 ·rw [if_pos c3] at H
  have gN := eq_true c3
  have jk : decide (0 ≤ (l0.length : Int)) = true := decide_eq_true c3
  clear c3
  by_cases c4 : ((l0.length : Int) : Int).toNat ≤ 17592186044416
  ·rw [if_pos c4] at H
   have iQ := eq_true c4
   have jv : decide (((l0.length : Int) : Int).toNat ≤ 17592186044416) = true := decide_eq_true c4
   clear c4
   obtain ⟨y101, hy101⟩ : ∃ y_ : List ByteArray, y_ = (List.replicate ((l0.length : Int) : Int).toNat (⟨#[]⟩ : ByteArray)) := ⟨_, rfl⟩
   replace H : (dA.l0 k y101 l0 (l0.length : Int) 0) = some r := by first | (rw [hy101]; with_reducible exact H) | (have H2_ := (Option.bind_some _ _).symm.trans H; rw [hy101]; with_reducible exact H2_) | (have H2_ := (Option.bind_some _ _).symm.trans H; with_reducible exact H2_) | with_reducible exact H | (rw [hy101]; exact H) | exact H
   have Ny101 := ae.mk hy101
   clear hy101
   have H' := ae.mk H
   clear H
   go_enter Tryz.func52, Tryz.ntmps52
   go_wp2_with (first | ((with_reducible refine bg (N := 10) rfl ?_); refine Kd.kC Kd.string _ 9 rfl (N := 10) rfl 40 _ _ rfl (l0.length : Int) rfl rfl Tryz.underlying40 (.string ⟨#[]⟩) 16 nC rfl (by decide) (by omega) (⟨#[]⟩ : ByteArray) (ok := fun _ => True) (okp := fun _ => True) rfl (fun _ hk => hk) trivial (of_decide_eq_true qa) (Nat.le_trans (Nat.mul_le_mul_right _ (of_decide_eq_true qa : (l0.length : Int).toNat ≤ 17592186044416)) (by omega)) (Below.refl _ _) (Nat.le_refl _) ?_; intro v102 w5 ho6 hb hg_ hnew_; clear hg_ hnew_; (first | rw [← Ny101.out] at ho6 | (simp only [Int.reduceToNat] at ho6; rw [← Ny101.out] at ho6)); have eX := ae.mk (Kd.dI ho6 (bi (qw HB))); replace HB := ae.mk (aj (qw HB) hb); clear hb ho6))
   go_loopg [13] k (fun kq v13 w' => ∃ (cZ : List ByteArray) (ax : Int), v13 = .int .i64 ax ∧ ae (dA.l0 kq cZ l0 (l0.length : Int) ax = some r) ∧ ae (kq ≤ k) ∧ ae (Kd.R Kd.string 9 w' w.heap.size (fun _ => True) v102 cZ) ∧ ae (Below w.heap.size w w'))
   case atStart => exact ⟨(y101), (0), (by first | rfl | (simp; done) | (simp [*]; done)), H', ⟨Nat.le_refl _⟩, ⟨by (with_reducible repeat (first | apply Kd.di | apply Kd.dm | apply Kd.dR)); exact eX.out⟩, ⟨by repeat (first | (with_reducible first | exact HB.out | apply au | apply ai | apply ak) | exact HB.out)⟩⟩
   case round =>
    clear H'
    try clear p2
    try clear c3
    try clear gN
    try clear jk
    try clear c4
    try clear iQ
    try clear jv
    try clear c5
    obtain ⟨cZ, ax, rfl, HA, HK1, bM, HB⟩ := hrel
    cases gk with
    | zero => exact absurd HA.out (by simp [dA.l0])
    | succ k1 =>
     have H := HA.out
     clear HA
     simp only [dA.l0] at H
     by_cases c7 : ax < (l0.length : Int)
     ·rw [if_pos c7] at H
      have jg : decide (ax < (l0.length : Int)) = true := decide_eq_true c7
      clear c7
      by_cases c8 : 0 ≤ ax
      ·rw [if_pos c8] at H
       have kK : decide (0 ≤ ax) = true := decide_eq_true c8
       clear c8
       by_cases c9 : ax < (l0.length : Int)
       ·rw [if_pos c9] at H
        have lT : decide (ax < (l0.length : Int)) = true := decide_eq_true c9
        clear c9
        replace H := Option.bind_eq_some_iff.mp H
        obtain ⟨bG, A100, H⟩ := H
        replace H : (if ax < (cZ.length : Int) then (dA.l0 k1 (cZ.set (ax : Int).toNat bG) l0 (l0.length : Int) (wrap64 (ax + 1))) else (none)) = some r := H
        have A10 := ae.mk A100
        clear A100
        by_cases c11 : ax < (cZ.length : Int)
        ·rw [if_pos c11] at H
         have lq : decide (ax < (cZ.length : Int)) = true := decide_eq_true c11
         clear c11
         obtain ⟨y107, hy107⟩ : ∃ y_ : List ByteArray, y_ = (cZ.set (ax : Int).toNat bG) := ⟨_, rfl⟩
         replace H : (dA.l0 k1 y107 l0 (l0.length : Int) (wrap64 (ax + 1))) = some r := by first | (rw [hy107]; with_reducible exact H) | (have H2_ := (Option.bind_some _ _).symm.trans H; rw [hy107]; with_reducible exact H2_) | (have H2_ := (Option.bind_some _ _).symm.trans H; with_reducible exact H2_) | with_reducible exact H | (rw [hy107]; exact H) | exact H
         have Ny107 := ae.mk hy107
         clear hy107
         have H' := ae.mk H
         clear H
         have p104 : 0 ≤ (ax : Int) := of_decide_eq_true qa
         have q104 : ax < (l0.length : Int) := of_decide_eq_true qa
         obtain ⟨ad104, kZ, c104_4, e104, hx104_0, hx104_1, hx104_2, hx104_3, hx104_4, hl104_4, hi104_4⟩ := tC HR0.out ax p104 q104
         cases e104
         replace hx104_0 := (HB.out.cell (World.block_lt_of_cell? w _ hx104_0)).trans hx104_0
         replace hx104_1 := (HB.out.cell (World.block_lt_of_cell? w _ hx104_1)).trans hx104_1
         replace hx104_2 := (HB.out.cell (World.block_lt_of_cell? w _ hx104_2)).trans hx104_2
         replace hx104_3 := (HB.out.cell (World.block_lt_of_cell? w _ hx104_3)).trans hx104_3
         replace hx104_4 := (HB.out.cell (World.block_lt_of_cell? w _ hx104_4)).trans hx104_4
         have ry := ae.mk hi104_4
         have rz := ae.mk hl104_4
         clear hi104_4 hl104_4
         replace p104 := eq_true p104
         replace q104 := eq_true q104
         go_wp2_with (first | ((with_reducible refine bg (N := 7) rfl ?_); refine bE ?hg (N := 7) ?hd (cs := #[.string (⟨#[]⟩ : ByteArray), .int .u32 0, .int .i64 0, .bool false, .slice none 0 0]) (t := 28) ?hr ?_; (case hd => rfl); (case hg => rfl); (case hr => first | (go_simp; done) | (go_simp; rfl)); intro eB hg w13 hbox hb; replace bM := ae.mk (Kd.bD (qr bM) hb); have cO := ae.mk (hbox); have GW105 := qge HB hg; have lu := qge HB hg; replace HB := ae.mk (aj (qw HB) hb); clear hb hbox hg; have hcz14_0 : w13.cell? ⟨eB, 0, none⟩ = some (.string (⟨#[]⟩ : ByteArray)) := (af cO.out 0).trans rfl; have hcz14_1 : w13.cell? ⟨eB, 1, none⟩ = some (.int .u32 0) := (af cO.out 1).trans rfl; have hcz14_2 : w13.cell? ⟨eB, 2, none⟩ = some (.int .i64 0) := (af cO.out 2).trans rfl; have hcz14_3 : w13.cell? ⟨eB, 3, none⟩ = some (.bool false) := (af cO.out 3).trans rfl; have hcz14_4 : w13.cell? ⟨eB, 4, none⟩ = some (.slice none 0 0) := (af cO.out 4).trans rfl; have hfz14_0 := ah cO.out 0; have hfz14_1 := ah cO.out 1; have hfz14_2 := ah cO.out 2; have hfz14_3 := ah cO.out 3; have hfz14_4 := ah cO.out 4) | ((with_reducible refine Go.Proofs.YteidaijpaijgpaaGreatDoorV.eG (s := 20) rfl ?_); refine Go.Proofs.YteidaijpaijgpaaGreatDoorV.gW (some 22) rfl rfl Tryz.func11 (by kernel_rfl) rfl #[.agg #[.string ((dB l0 ax).f0), .int .u32 ((dB l0 ax).f1.f0), .int .i64 ((dB l0 ax).f1.f1), .bool ((dB l0 ax).f2), .slice kZ ((dB l0 ax).f3).length c104_4]] rfl qt ?_; (with_reducible refine (fB.calls k1 ((dB l0 ax).f0) ((dB l0 ax).f1.f0) ((dB l0 ax).f1.f1) ((dB l0 ax).f2) _ _ ((dB l0 ax).f3) bG _ ?aX ?aY A10.out ?gt).mono ?_); (case gt => exact Go.Proofs.YteidaijpaijgpaaGreatDoorV.GT.below HGT (qw HB)); (case aX => exact Kd.dC ry.out (qw HB)); (case aY => exact rz.out); rintro e w15 ⟨rfl, hb⟩; refine ⟨_, rfl, ?_⟩; replace bM := ae.mk (Kd.bD (by (with_reducible repeat (first | apply Kd.di | apply Kd.dm | apply Kd.dR)); exact (Kd.gu (Kd.iI (p := ⟨eB, 4, none⟩) (Kd.iI (p := ⟨eB, 3, none⟩) (Kd.iI (p := ⟨eB, 2, none⟩) (Kd.iI (p := ⟨eB, 1, none⟩) (Kd.iI (p := ⟨eB, 0, none⟩) (Kd.lC bM.out cO.out (by decide)) (fun _ hk => hk.2) (.string ((dB l0 ax).f0))) (fun _ hk => hk.2) (.int .u32 ((dB l0 ax).f1.f0))) (fun _ hk => hk.2) (.int .i64 ((dB l0 ax).f1.f1))) (fun _ hk => hk.2) (.bool ((dB l0 ax).f2))) (fun _ hk => hk.2) (.slice kZ ((dB l0 ax).f3).length c104_4)) (fun _ h_ => h_.1))) hb); replace cO := ae.mk (ji (g := eB) (o := .cells #[.string ((dB l0 ax).f0), .int .u32 ((dB l0 ax).f1.f0), .int .i64 ((dB l0 ax).f1.f1), .bool ((dB l0 ax).f2), .slice kZ ((dB l0 ax).f3).length c104_4] 28 (0, 0)) (by refine dL (cs := #[.string ((dB l0 ax).f0), .int .u32 ((dB l0 ax).f1.f0), .int .i64 ((dB l0 ax).f1.f1), .bool ((dB l0 ax).f2), .slice none 0 0]) ?_ 4 _ rfl; refine dL (cs := #[.string ((dB l0 ax).f0), .int .u32 ((dB l0 ax).f1.f0), .int .i64 ((dB l0 ax).f1.f1), .bool false, .slice none 0 0]) ?_ 3 _ rfl; refine dL (cs := #[.string ((dB l0 ax).f0), .int .u32 ((dB l0 ax).f1.f0), .int .i64 0, .bool false, .slice none 0 0]) ?_ 2 _ rfl; refine dL (cs := #[.string ((dB l0 ax).f0), .int .u32 0, .int .i64 0, .bool false, .slice none 0 0]) ?_ 1 _ rfl; refine dL (cs := #[.string (⟨#[]⟩ : ByteArray), .int .u32 0, .int .i64 0, .bool false, .slice none 0 0]) ?_ 0 _ rfl; (with_reducible repeat (first | refine gz ?_ _ | refine dQ ?_ | refine gy ?_ _)); exact cO.out) hb); replace HB := ae.mk (aj (qw HB) hb); (try clear hb); (try clear hb2); (try clear hk); (try clear hi); have p12 : 0 ≤ (ax : Int) := of_decide_eq_true qa; have q12 : (ax : Int) < ((cZ.length : Int) : Int) := of_decide_eq_true qa; obtain ⟨go12, kF, jr, kG, gl12, cl12, HG12⟩ := Kd.kz bM.out (by omega); (first | cases jr | (injection jr with ea_ en_ ec_; (first | subst ea_ | (injection ea_ with ea_; subst ea_)); subst ec_; clear en_)); have mZ := ae.mk kG; have GG12 := ae.mk HG12; clear kG gl12 HG12; obtain ⟨hx12_0, hf12_0⟩ := Kd.ib (⟨#[]⟩ : ByteArray) bM.out (ax : Int) p12 q12; replace p12 := eq_true p12; replace q12 := eq_true q12; obtain ⟨hy16_, hz16_⟩ := Kd.ib (⟨#[]⟩ : ByteArray) bM.out (ax : Int) (of_decide_eq_true qa) (of_decide_eq_true qa); have HP16 := Kd.kD bM.out (ax : Int) bG) | ((with_reducible refine iD (t := 9) (p := 23) rfl ?_); refine ic (t := 9) (p := 23) (v := ?vo_w17) (w1 := (w15.setCell ⟨go12, (ax : Int).toNat, none⟩ (.string bG))) ?hg ?ho ?hn ?hr ?_; (case ho => rfl); (case hg => rfl); (case hn => rfl); (case hr => first | (go_simp; done) | (go_simp; rfl)); intro w17 hw; have hg : w15.grownBy w17 (some go12) := (by rw [hw]; exact HP16.2); have hp_ : Kd.R Kd.string 9 w17 w.heap.size (fun _ => True) (.slice (some ⟨go12, 0, none⟩) cZ.length kF) y107 := (by rw [hw, Ny107.out]; exact HP16.1); clear HP16; replace cO := ae.mk (jO (g := eB) (o := .cells #[.string ((dB l0 ax).f0), .int .u32 ((dB l0 ax).f1.f0), .int .i64 ((dB l0 ax).f1.f1), .bool ((dB l0 ax).f2), .slice kZ ((dB l0 ax).f3).length c104_4] 28 (0, 0)) (qb cO) hg (Kd.sN bM.out cO.out (by decide))); replace bM := ae.mk (hp_); replace HB := ae.mk ((by rw [hw]; exact bn (HB.out) mZ.out : Below w.heap.size w w17)); clear hg hw hp_))
         go_roundg k1
         case measure => have := HK1.out; omega
         case rel => exact ⟨(y107), (wrap64 (ax + 1)), (by first | rfl | (simp; done) | (simp [*]; done)), H', ⟨by have := HK1.out; omega⟩, ⟨by (with_reducible repeat (first | apply Kd.di | apply Kd.dm | apply Kd.dR)); exact bM.out⟩, ⟨by repeat (first | (with_reducible first | exact HB.out | apply au | apply ai | apply ak | refine bn ?_ lu.out) | exact HB.out)⟩⟩
        ·rw [if_neg c11] at H
         exact absurd H (by simp)
       ·rw [if_neg c9] at H
        exact absurd H (by simp)
      ·rw [if_neg c8] at H
       exact absurd H (by simp)
     ·rw [if_neg c7] at H
      have jg : decide (ax < (l0.length : Int)) = false := decide_eq_false c7
      clear c7
      obtain rfl := Option.some.inj H
      go_wp2
      go_ret
      exact ⟨_, by first | rfl | (simp [errW_none, errW_some] <;> rfl) | (simp [*, errW_none, errW_some] <;> rfl), by (with_reducible repeat (first | apply Kd.di | apply Kd.dm | apply Kd.dR)); exact bM.out, by repeat (first | (with_reducible first | exact HB.out | apply au | apply ai | apply ak) | exact HB.out)⟩
  ·rw [if_neg c4] at H
   exact absurd H (by simp)
 ·rw [if_neg c3] at H
  exact absurd H (by simp)
end Go.Proofs.YteidaijpaijgpaaGreatDoor.P
end
section
namespace Go.Proofs.YteidaijpaijgpaaGreatDoor.P
open Go.RowKit Go.Proofs.YteidaijpaijgpaaGreatDoorW.ay Go.Proofs.YteidaijpaijgpaaGreatDoorW.aQ Go.Proofs.YteidaijpaijgpaaGreatDoorW.aZ
attribute [local go_sem] bz bA bP bQ bq bu bB bC
set_option linter.unusedVariables false
set_option linter.unusedSimpArgs false
def lg (s : ByteArray) (ls : List ByteArray) : List UInt8 := s.data.toList ++ 10 :: ls.flatMap (fun x => 32 :: 32 :: (x.data.toList ++ [10]))
def qi (s : ByteArray) (ls : List ByteArray) : List UInt8 := lg s ls ++ [125, 10]
def eP.tail (s : ByteArray) (a b c : List ByteArray) : Option ByteArray := if (qi s ([a, b, c] : List (List ByteArray)).flatten).length ≤ 140737488355328 then some ⟨(qi s ([a, b, c] : List (List ByteArray)).flatten).toArray⟩ else none
theorem qC (s : ByteArray) (ls : List ByteArray) (x : ByteArray) : lg s (ls ++ [x]) = lg s ls ++ 32 :: 32 :: (x.data.toList ++ [10]) := by simp [lg]
theorem uF (s : ByteArray) (ls ms : List ByteArray) : (lg s ls).length ≤ (lg s (ls ++ ms)).length := by simp [lg]
theorem vC (s : ByteArray) (ls ms : List ByteArray) (x : ByteArray) : (lg s ls).length + (x.size + 3) ≤ (lg s (ls ++ x :: ms)).length := by
 rw [show ls ++ x :: ms = (ls ++ [x]) ++ ms by simp]
 refine Nat.le_trans ?_ (uF s (ls ++ [x]) ms)
 rw [qC]
 simp
theorem xz (x : ByteArray) : Lib.strCells ((⟨#[32, 32]⟩ : ByteArray) ++ x ++ (⟨#[10]⟩ : ByteArray)) = Lib.byteCells (32 :: 32 :: (x.data.toList ++ [10])) := by simp [Lib.strCells, Lib.byteCells]
theorem qj (x : ByteArray) : ((⟨#[32, 32]⟩ : ByteArray) ++ x ++ (⟨#[10]⟩ : ByteArray)).size = x.size + 3 := by
 simp only [ByteArray.size_append]; show 2 + x.size + 1 = x.size + 3; omega
theorem xA (s : ByteArray) : Lib.strCells (s ++ (⟨#[10]⟩ : ByteArray)) = Lib.byteCells (lg s []) := by simp [Lib.strCells, Lib.byteCells, lg]
theorem nL (a b : List UInt8) : Lib.byteCells (a ++ b) = Lib.byteCells a ++ Lib.byteCells b := by simp [Lib.byteCells]
theorem uj (xs : List (List ByteArray)) (i : Nat) (x : List ByteArray) (hi : xs[i]? = some x) (j : Nat) (y : ByteArray) (hj : x[j]? = some y) : ∃ ms, xs.flatten = ((xs.take i).flatten ++ x.take j) ++ y :: ms := by
 obtain ⟨h1, rfl⟩ := List.getElem?_eq_some_iff.1 hi
 obtain ⟨h2, rfl⟩ := List.getElem?_eq_some_iff.1 hj
 refine ⟨xs[i].drop (j + 1) ++ (xs.drop (i + 1)).flatten, ?_⟩
 have e1 : xs.flatten = (xs.take i).flatten ++ (xs[i] ++ (xs.drop (i + 1)).flatten) := by
  conv => lhs; rw [← List.take_append_drop i xs, List.drop_eq_getElem_cons h1, List.flatten_append, List.flatten_cons]
 have e2 : xs[i].take j ++ xs[i][j] :: xs[i].drop (j + 1) = xs[i] := by rw [← List.drop_eq_getElem_cons h2, List.take_append_drop]
 rw [e1]
 generalize hz : xs[i] = z at *
 have e3 : z ++ (xs.drop (i + 1)).flatten = z.take j ++ z[j] :: (z.drop (j + 1) ++ (xs.drop (i + 1)).flatten) := by
  rw [← List.cons_append, ← List.append_assoc, e2]
 rw [e3, List.append_assoc]
def eP.f (k : Nat) (aD : ByteArray) (cK : List (S66)) (eU : List (S74)) (gF : List (S28)) : Option (ByteArray) := (aN.f (([(⟨#[110, 101, 116, 119, 111, 114, 107]⟩ : ByteArray), aD, (⟨#[123]⟩ : ByteArray)] : List ByteArray))).bind fun t105 => (if t105.size + 1 ≤ 9223372036854775807 then ((dK.f k cK rR).bind fun bG => ((dG.f k eU qy).bind fun t109 => ((dA.f k gF pu).bind fun jy => (eP.tail t105 bG t109 jy)))) else (none))
theorem eP.mono : ∀ a0 a1 a2 a3 k, LeO (eP.f k a0 a1 a2 a3) (eP.f (k + 1) a0 a1 a2 a3) := by
 intro a0 a1 a2 a3 k
 unfold eP.f
 repeat' first
   | (with_reducible exact dG.mono _ _ _)
   | (with_reducible exact dK.mono _ _ _)
   | (with_reducible exact dA.mono _ _ _)
   | (with_reducible exact LeO.refl _)
   | (with_reducible exact LeO.none _)
   | (with_reducible refine LeO.ite ?_ ?_)
   | (with_reducible refine LeO.bind ?_ (fun _ => ?_))
   | exact dG.mono _ _ _
   | exact dK.mono _ _ _
   | exact dA.mono _ _ _
   | exact LeO.none _
   | refine LeO.ite ?_ ?_
   | refine LeO.bind ?_ (fun _ => ?_)
def eP.T3 : Bool × List (List Nat × List Nat) := (true, [([], []), ([0], [0]), ([1], [1]), ([], []), ([3], [3]), ([4, 2], [4]), ([], []), ([6], [6]), ([7, 5], [7]), ([2, 5, 8], [2, 5, 8]), ([9], [9]), ([], [])])
def eP.B3 : List Nat := [0, 1, 3, 0, 8, 31, 0, 64, 255, 511, 1023, 0]
theorem eP.tN : iV .any (opsOf Tryz.f28 3) = eP.T3 := by kernel_rfl
theorem eP.pG : iA eP.T3.2 eP.B3 = true := by kernel_rfl
set_option maxHeartbeats 8000000 in
set_option maxRecDepth 100000 in
theorem eP.calls (k : Nat) (aD : ByteArray) (gq : Option Addr) (c0_1 : Nat) (cK : List (S66)) (iT : Option Addr) (c0_2 : Nat) (eU : List (S74)) (kL : Option Addr) (c0_3 : Nat) (gF : List (S28)) (r : ByteArray) (w : World) (hr0_1 : Kd.C k66 w gq cK.length cK) (hc0_1 : cK.length ≤ c0_1) (hr0_2 : Kd.C k74 w iT eU.length eU) (hc0_2 : eU.length ≤ c0_2) (hr0_3 : Kd.C k28 w kL gF.length gF) (hc0_3 : gF.length ≤ c0_3) (h : eP.f k aD cK eU gF = some r) (HGT : ae (Go.Proofs.YteidaijpaijgpaaGreatDoorV.GT w)) :
  Calls Tryz.prog 28 #[.agg #[.string aD, .slice gq cK.length c0_1, .slice iT eU.length c0_2, .slice kL gF.length c0_3]] w fun e w' => e = .returned (.string r) ∧ Below w.heap.size w w' := by
 have hu62 := Tryz.underlying62
 have kH := ae.mk hr0_1
 have kI := ae.mk hc0_1
 clear hr0_1 hc0_1
 have mP := ae.mk hr0_2
 have mQ := ae.mk hc0_2
 clear hr0_2 hc0_2
 have xw := ae.mk hr0_3
 have xx := ae.mk hc0_3
 clear hr0_3 hc0_3
 have HB := ae.mk (Below.refl w.heap.size w)
 have H : ((aN.f (([(⟨#[110, 101, 116, 119, 111, 114, 107]⟩ : ByteArray), aD, (⟨#[123]⟩ : ByteArray)] : List ByteArray))).bind fun t105 => (if t105.size + 1 ≤ 9223372036854775807 then ((dK.f k cK rR).bind fun bG => ((dG.f k eU qy).bind fun t109 => ((dA.f k gF pu).bind fun jy => (eP.tail t105 bG t109 jy)))) else (none))) = some r := h
 clear h
 obtain ⟨y102, hy102⟩ : ∃ y_ : List ByteArray, y_ = (([(⟨#[110, 101, 116, 119, 111, 114, 107]⟩ : ByteArray), aD, (⟨#[123]⟩ : ByteArray)] : List ByteArray)) := ⟨_, rfl⟩
 replace H : ((aN.f y102).bind fun t105 => (if t105.size + 1 ≤ 9223372036854775807 then ((dK.f k cK rR).bind fun bG => ((dG.f k eU qy).bind fun t109 => ((dA.f k gF pu).bind fun jy => (eP.tail t105 bG t109 jy)))) else (none))) = some r := by first | (rw [hy102]; with_reducible exact H) | (have H2_ := (Option.bind_some _ _).symm.trans H; rw [hy102]; with_reducible exact H2_) | (have H2_ := (Option.bind_some _ _).symm.trans H; with_reducible exact H2_) | with_reducible exact H | (rw [hy102]; exact H) | exact H
 have Ny102 := ae.mk hy102
 clear hy102
 replace H := Option.bind_eq_some_iff.mp H
 obtain ⟨t105, A20, H⟩ := H
 replace H : (if t105.size + 1 ≤ 9223372036854775807 then ((dK.f k cK rR).bind fun bG => ((dG.f k eU qy).bind fun t109 => ((dA.f k gF pu).bind fun jy => (eP.tail t105 bG t109 jy)))) else (none)) = some r := H
 have A2 := ae.mk A20
 clear A20
 by_cases c3 : t105.size + 1 ≤ 9223372036854775807
 ·rw [if_pos c3] at H
  have gN := eq_true c3
  have jk : decide (t105.size + 1 ≤ 9223372036854775807) = true := decide_eq_true c3
  try have zm : (9223372036854775807 < t105.size + 1) = False := eq_false (Nat.not_lt.2 c3)
  replace H := Option.bind_eq_some_iff.mp H
  obtain ⟨bG, A40, H⟩ := H
  replace H : ((dG.f k eU qy).bind fun t109 => ((dA.f k gF pu).bind fun jy => (eP.tail t105 bG t109 jy))) = some r := H
  have A4 := ae.mk A40
  clear A40
  replace H := Option.bind_eq_some_iff.mp H
  obtain ⟨t109, A50, H⟩ := H
  replace H : ((dA.f k gF pu).bind fun jy => (eP.tail t105 bG t109 jy)) = some r := H
  have A5 := ae.mk A50
  clear A50
  replace H := Option.bind_eq_some_iff.mp H
  obtain ⟨jy, A60, H⟩ := H
  replace H : (eP.tail t105 bG t109 jy) = some r := H
  have A6 := ae.mk A60
  clear A60
  obtain ⟨y115, hy115⟩ : ∃ y_ : List (List ByteArray), y_ = (([bG, t109, jy] : List (List ByteArray))) := ⟨_, rfl⟩
  replace H : (eP.tail t105 bG t109 jy) = some r := by first | (rw [hy115]; with_reducible exact H) | (have H2_ := (Option.bind_some _ _).symm.trans H; rw [hy115]; with_reducible exact H2_) | (have H2_ := (Option.bind_some _ _).symm.trans H; with_reducible exact H2_) | with_reducible exact H | (rw [hy115]; exact H) | exact H
  have Ny115 := ae.mk hy115
  clear hy115
  obtain ⟨hbnd, hres⟩ : (qi t105 ([bG, t109, jy] : List (List ByteArray)).flatten).length ≤ 140737488355328 ∧ (⟨(qi t105 ([bG, t109, jy] : List (List ByteArray)).flatten).toArray⟩ : ByteArray) = r := by
   unfold eP.tail at H
   split at H
   ·rename_i h_; exact ⟨h_, Option.some.inj H⟩
   ·cases H
  clear H
  have HBND := ae.mk hbnd
  have HRES := ae.mk hres
  have HL0 := ae.mk (show ([] : List Value).length + (t105 ++ (⟨#[10]⟩ : ByteArray)).size ≤ 140737488355328 by
   have h1 := uF t105 [] ([bG, t109, jy] : List (List ByteArray)).flatten
   have h2 : (lg t105 []).length = t105.size + 1 := by simp [lg]
   have h3 : (qi t105 ([bG, t109, jy] : List (List ByteArray)).flatten).length = (lg t105 ([bG, t109, jy] : List (List ByteArray)).flatten).length + 2 := by simp [qi]
   rw [ByteArray.size_append]
   rw [List.nil_append] at h1
   show 0 + (t105.size + 1) ≤ _
   omega)
  clear hbnd hres
  go_enter Tryz.func28, Tryz.ntmps28
  try go_wp2_with (first | ((with_reducible refine bg (N := 1) rfl ?_); refine bE ?hg (N := 1) ?hd (cs := #[.string aD, .slice gq cK.length c0_1, .slice iT eU.length c0_2, .slice kL gF.length c0_3]) (t := 62) ?hr ?_; (case hd => rfl); (case hg => rfl); (case hr => first | (go_simp; done) | (go_simp; rfl)); intro av hg w7 hbox hb; have ag := ae.mk (hbox); have GW101 := qge HB hg; have dh := qge HB hg; replace HB := ae.mk (aj (qw HB) hb); clear hb hbox hg; have hcz8_0 : w7.cell? ⟨av, 0, none⟩ = some (.string aD) := (af ag.out 0).trans rfl; have hcz8_1 : w7.cell? ⟨av, 1, none⟩ = some (.slice gq cK.length c0_1) := (af ag.out 1).trans rfl; have hcz8_2 : w7.cell? ⟨av, 2, none⟩ = some (.slice iT eU.length c0_2) := (af ag.out 2).trans rfl; have hcz8_3 : w7.cell? ⟨av, 3, none⟩ = some (.slice kL gF.length c0_3) := (af ag.out 3).trans rfl; have hfz8_0 := ah ag.out 0; have hfz8_1 := ah ag.out 1; have hfz8_2 := ah ag.out 2; have hfz8_3 := ah ag.out 3) | ((with_reducible refine bg (N := 3) rfl ?_); refine Go.Proofs.YteidaijpaijgpaaGreatDoorV.qg ?hg (N := 3) ?hd (T := 100) (e := 5) ?hr ?_; (case hd => rfl); (case hg => rfl); (case hr => first | (go_simp; done) | (go_simp; rfl)); intro gbB hgB wB hbi hb; have HBI := ae.mk hbi; have GEB := qge HB hgB; have GLT := ae.mk (show av < gbB by rw [hgB]; exact ky (qb ag)); have GSB := ae.mk (show gbB < wB.heap.size by obtain ⟨cs_, hc_⟩ := Go.Proofs.YteidaijpaijgpaaGreatDoorV.mF hbi; exact ky hc_); replace HB := ae.mk (aj (qw HB) hb); replace ag := qbb ag hb; have HBB := ae.mk (Below.refl wB.heap.size wB); clear hbi hb hgB; have hcB_0 : wB.cell? ⟨av, 0, none⟩ = some (.string aD) := (af ag.out 0).trans rfl; have hfB_0 := ah ag.out 0; have hcB_1 : wB.cell? ⟨av, 1, none⟩ = some (.slice gq cK.length c0_1) := (af ag.out 1).trans rfl; have hfB_1 := ah ag.out 1; have hcB_2 : wB.cell? ⟨av, 2, none⟩ = some (.slice iT eU.length c0_2) := (af ag.out 2).trans rfl; have hfB_2 := ah ag.out 2; have hcB_3 : wB.cell? ⟨av, 3, none⟩ = some (.slice kL gF.length c0_3) := (af ag.out 3).trans rfl; have hfB_3 := ah ag.out 3) | ((with_reducible refine bg (N := 10) rfl ?_); refine Kd.jm Kd.string _ 9 ?hg (N := 10) ?hd (xs := ([(⟨#[110, 101, 116, 119, 111, 114, 107]⟩ : ByteArray), aD, (⟨#[123]⟩ : ByteArray)] : List ByteArray)) (inner := [.string (⟨#[110, 101, 116, 119, 111, 114, 107]⟩ : ByteArray), .string aD, .string (⟨#[123]⟩ : ByteArray)]) (ok := fun _ => True) (okp := fun _ => True) ?hr ?hp (fun _ hk => hk) trivial (Below.refl _ _) (Nat.le_refl _) (by simp) ?_; (case hd => rfl); (case hg => rfl); (case hr => first | (go_simp; done) | (go_simp; rfl)); (case hp => exact (cu.one (show Kd.M Kd.string _ _ _ (⟨#[110, 101, 116, 119, 111, 114, 107]⟩ : ByteArray) [.string (⟨#[110, 101, 116, 119, 111, 114, 107]⟩ : ByteArray)] from rfl) (cu.one (show Kd.M Kd.string _ _ _ aD [.string aD] from rfl) (cu.one (show Kd.M Kd.string _ _ _ (⟨#[123]⟩ : ByteArray) [.string (⟨#[123]⟩ : ByteArray)] from rfl) (cu.none _ _))))); intro v103 w9 xB hb hg_ hnew_; clear hg_ hnew_; (first | rw [← Ny102.out] at xB | (simp only [Int.reduceToNat] at xB; rw [← Ny102.out] at xB)); have n0_ := ae.mk (Kd.dI xB (bi (qw HB))); have n1_ := qbb ag hb; replace HBB := ae.mk (aj (qw HBB) hb); have n2_ := ae.mk (aj (qw HB) hb); clear ag; clear HB; have fF := n0_; have ag := n1_; have HB := n2_; clear n0_ n1_ n2_; clear hb xB; obtain ⟨yw, yx, vz⟩ := Kd.dM fF.out; subst vz) | ((with_reducible refine aH (f := 33) rfl ?_); refine bN (some 11) rfl rfl Tryz.func33 (by kernel_rfl) rfl #[.slice yw y102.length yx] rfl qt ?_; (with_reducible refine (aN.calls _ _ y102 t105 _ ?aX ?aY A2.out).mono ?_); (case aX => exact qs ((Kd.aV fF.out).2.2)); (case aY => exact (Kd.aV fF.out).2.1); rintro e w12 ⟨rfl, hb⟩; refine ⟨_, rfl, ?_⟩; have n0_ := ae.mk (Kd.bD (qr fF) hb); have n1_ := qbb ag hb; replace HBB := ae.mk (aj (qw HBB) hb); have n2_ := ae.mk (aj (qw HB) hb); clear fF; clear ag; clear HB; have fF := n0_; have ag := n1_; have HB := n2_; clear n0_ n1_ n2_; (try clear hb); (try clear hb2); (try clear hk); (try clear hi)) | ((with_reducible refine aH (f := 46) rfl ?_); refine bN (some 13) rfl rfl Tryz.func46 (by kernel_rfl) rfl #[.pointer (some ⟨gbB, 0, none⟩), .string (t105 ++ (⟨#[10]⟩ : ByteArray))] rfl (by (try simp only [List.map_toArray, List.map_cons, List.map_nil]); first | done | rfl) ?_; (with_reducible refine (Tryz.Builder_WriteString_k gbB gbB [] (t105 ++ (⟨#[10]⟩ : ByteArray)) _ ?hbi ?hlen ?hsz).mono ?_); (case hbi => exact Go.Proofs.YteidaijpaijgpaaGreatDoorV.nR HBI.out (qw HBB)); (case hlen => exact HL0.out); (case hsz => exact Nat.le_of_lt (Nat.lt_of_lt_of_le GSB.out (bi (qw HBB)))); rintro e wS ⟨he, hat, hb, hk⟩; obtain ⟨z13, hz13⟩ : ∃ z_ : Int, (((t105 ++ (⟨#[10]⟩ : ByteArray)).size : Nat) : Int) = z_ := ⟨_, rfl⟩; rw [hz13] at he; subst he; clear hz13; refine ⟨_, rfl, ?_⟩; obtain ⟨cs_, hc_⟩ := Go.Proofs.YteidaijpaijgpaaGreatDoorV.mF (Go.Proofs.YteidaijpaijgpaaGreatDoorV.nR HBI.out (qw HBB)); replace fF := ae.mk (Go.Proofs.YteidaijpaijgpaaGreatDoorV.vZ (qr fF) hk hc_ (by decide)); replace ag := ae.mk ((hb.block av GLT.out).trans (qb ag)); replace HB := ae.mk (Below.trans (qw HB) (hb.mono GEB.out)); replace HBI := ae.mk (show Lib.IsBuilderF 100 5 gbB gbB (Lib.byteCells (lg t105 [])) wS from Or.inr (by have h_ := hat; rw [List.nil_append, xA] at h_; exact h_)); replace HBB := ae.mk (Below.refl wS.heap.size wS); replace GSB := ae.mk (show gbB < wS.heap.size by obtain ⟨cs1_, hc1_⟩ := Go.Proofs.YteidaijpaijgpaaGreatDoorV.mF HBI.out; exact ky hc1_); clear hat hb hk hc_))
  have n0_ := ae.mk (Kd.dR fF.out)
  have n1_ := ae.mk (dQ ag.out)
  replace HBB := ae.mk (ak HBB.out)
  have n2_ := ae.mk (ak HB.out)
  clear fF ag HB
  have fF := n0_
  have ag := n1_
  have HB := n2_
  clear n0_ n1_ n2_
  refine iP (n := 12) (S := fun w' => w'.cell? ⟨av, 0, none⟩ = some (.string aD) ∧ w'.cell? ⟨av, 1, none⟩ = some (.slice gq cK.length c0_1) ∧ w'.cell? ⟨av, 2, none⟩ = some (.slice iT eU.length c0_2) ∧ w'.cell? ⟨av, 3, none⟩ = some (.slice kL gF.length c0_3)) (ds := []) #[bF,bF,bF,bF,bF,bF,bF,bF,bF,bF,bF,bF] (by kernel_rfl) rfl rfl ⟨(af ag.out 0).trans rfl, (af ag.out 1).trans rfl, (af ag.out 2).trans rfl, (af ag.out 3).trans rfl⟩ (fun hHeld => ?_); refine fV eP.tN eP.pG (fun HT_ HW_ => ?_)
  generalize wS.drew = w13 at HBB fF ag HB hHeld ⊢
  refine bL 0 (some 14) HT_ ?_
  refine bL 3 (some 17) HT_ ?_
  refine bL 6 (some 20) HT_ ?_
  refine bL 11 (some 25) HT_ ?_
  refine fI 1 (some 15) HT_ HW_ hHeld ?_
  refine fI 4 (some 18) HT_ HW_ hHeld ?_
  refine fI 7 (some 21) HT_ HW_ hHeld ?_
  refine iW 2 (some 16) HT_ (fun K hK => ?_)
  refine gX Tryz.func48 #[.slice gq cK.length c0_1, .func (.func 49) #[] #[]] ?_
  with_reducible refine (dK.calls k _ _ cK rR bG _ ?aX ?aY A4.out ?gt).mono ?_
  (case gt => exact Go.Proofs.YteidaijpaijgpaaGreatDoorV.GT.below HGT (qw HB))
  (case aX => exact qs ((Kd.dC kH.out HB.out)))
  (case aY => exact kI.out)
  rintro e w14 ⟨v107, rfl, ho0, hb⟩
  refine ⟨_, rfl, ?_⟩
  have n0_ := ae.mk (Kd.gB (qr fF) (Kd.iL ho0) hb)
  have n1_ := ae.mk (Kd.dI (Kd.iM ho0 (Kd.jQ (qr fF))) (bi (qw HB)))
  have n2_ := qbb ag hb
  replace HBB := ae.mk (aj (qw HBB) hb)
  have n3_ := ae.mk (aj (qw HB) hb)
  clear fF ag HB
  have fF := n0_
  have jh := n1_
  have ag := n2_
  have HB := n3_
  clear n0_ n1_ n2_ n3_
  (try clear hb)
  (try clear hb2)
  (try clear hk)
  (try clear hi)
  (try clear ho0)
  refine hK.out _ _ ⟨(af ag.out 0).trans rfl, (af ag.out 1).trans rfl, (af ag.out 2).trans rfl, (af ag.out 3).trans rfl⟩ (fun hHeld => ?_)
  clear hK K
  refine gD (some 16) ?_
  refine iW 5 (some 19) HT_ (fun K hK => ?_)
  refine gX Tryz.func50 #[.slice iT eU.length c0_2, .func (.func 51) #[] #[]] ?_
  with_reducible refine (dG.calls k _ _ eU qy t109 _ ?aX ?aY A5.out).mono ?_
  (case aX => exact qs ((Kd.dC mP.out HB.out)))
  (case aY => exact mQ.out)
  rintro e w15 ⟨v110, rfl, ho0, hb⟩
  refine ⟨_, rfl, ?_⟩
  have n0_ := ae.mk (Kd.gB (qr fF) (Kd.iL ho0) hb)
  have n1_ := ae.mk (Kd.gB (qr jh) (Kd.iL ho0) hb)
  have n2_ := ae.mk (Kd.dI (Kd.iM (Kd.iM ho0 (Kd.jQ (qr fF))) (Kd.jQ (qr jh))) (bi (qw HB)))
  have n3_ := qbb ag hb
  replace HBB := ae.mk (aj (qw HBB) hb)
  have n4_ := ae.mk (aj (qw HB) hb)
  clear fF jh ag HB
  have fF := n0_
  have jh := n1_
  have oh := n2_
  have ag := n3_
  have HB := n4_
  clear n0_ n1_ n2_ n3_ n4_
  (try clear hb)
  (try clear hb2)
  (try clear hk)
  (try clear hi)
  (try clear ho0)
  refine hK.out _ _ ⟨(af ag.out 0).trans rfl, (af ag.out 1).trans rfl, (af ag.out 2).trans rfl, (af ag.out 3).trans rfl⟩ (fun hHeld => ?_)
  clear hK K
  refine gD (some 19) ?_
  refine iW 8 (some 22) HT_ (fun K hK => ?_)
  refine gX Tryz.func52 #[.slice kL gF.length c0_3, .func (.func 11) #[] #[]] ?_
  with_reducible refine (dA.calls k _ _ gF pu jy _ ?aX ?aY A6.out ?gt).mono ?_
  (case gt => exact Go.Proofs.YteidaijpaijgpaaGreatDoorV.GT.below HGT (qw HB))
  (case aX => exact qs ((Kd.dC xw.out HB.out)))
  (case aY => exact xx.out)
  rintro e w16 ⟨v113, rfl, ho0, hb⟩
  refine ⟨_, rfl, ?_⟩
  have n0_ := ae.mk (Kd.gB (qr fF) (Kd.iL ho0) hb)
  have n1_ := ae.mk (Kd.gB (qr jh) (Kd.iL ho0) hb)
  have n2_ := ae.mk (Kd.gB (qr oh) (Kd.iL ho0) hb)
  have n3_ := ae.mk (Kd.dI (Kd.iM (Kd.iM (Kd.iM ho0 (Kd.jQ (qr fF))) (Kd.jQ (qr jh))) (Kd.jQ (qr oh))) (bi (qw HB)))
  have n4_ := qbb ag hb
  replace HBB := ae.mk (aj (qw HBB) hb)
  have n5_ := ae.mk (aj (qw HB) hb)
  clear fF jh oh ag HB
  have fF := n0_
  have jh := n1_
  have oh := n2_
  have mM := n3_
  have ag := n4_
  have HB := n5_
  clear n0_ n1_ n2_ n3_ n4_ n5_
  (try clear hb)
  (try clear hb2)
  (try clear hk)
  (try clear hi)
  (try clear ho0)
  obtain ⟨yE, uY, tY⟩ := Kd.dM jh.out
  (first | subst tY | (injection tY with f1_ f2_ f3_; have f4_ := f1_.symm; have f5_ := f3_.symm; clear f1_ f2_ f3_; subst f4_; subst f5_))
  obtain ⟨xk, uZ, vk⟩ := Kd.dM oh.out
  (first | subst vk | (injection vk with f1_ f2_ f3_; have f4_ := f1_.symm; have f5_ := f3_.symm; clear f1_ f2_ f3_; subst f4_; subst f5_))
  obtain ⟨zC, zD, yF⟩ := Kd.dM mM.out
  (first | subst yF | (injection yF with f1_ f2_ f3_; have f4_ := f1_.symm; have f5_ := f3_.symm; clear f1_ f2_ f3_; subst f4_; subst f5_))
  refine hK.out _ _ ⟨(af ag.out 0).trans rfl, (af ag.out 1).trans rfl, (af ag.out 2).trans rfl, (af ag.out 3).trans rfl⟩ (fun hHeld => ?_)
  clear hK K
  refine gD (some 22) ?_
  refine iW 9 (some 23) HT_ (fun K hK => ?_)
  refine Kd.sS (Kd.slice 9 Kd.string) _ 40 ?hg (N' := 23) ?hd (xs := ([bG, t109, jy] : List (List ByteArray))) (inner := [.slice yE bG.length uY, .slice xk t109.length uZ, .slice zC jy.length zD]) (ok := fun k_ => Go.Proofs.YteidaijpaijgpaaGreatDoorV.TY w16 k_ ∨ k_ = w16.heap.size) (okp := fun k_ => Go.Proofs.YteidaijpaijgpaaGreatDoorV.TY w16 k_) ?hr ?hp (fun _ hk => Or.inl hk) (Or.inr rfl) (Below.refl _ _) (Nat.le_refl _) (by simp) ?_; (case hd => rfl); (case hg => rfl); (case hr => first | (go_simp; done) | (go_simp; rfl)); (case hp => exact (cu.one (show Kd.FK (Kd.slice 9 Kd.string) _ _ bG [.slice yE bG.length uY] from (Kd.lY (Kd.aV (Kd.gu (ok' := fun k_ => Go.Proofs.YteidaijpaijgpaaGreatDoorV.TY w16 k_) (Kd.iR jh.out) (fun k_ hk => Go.Proofs.YteidaijpaijgpaaGreatDoorV.qx hk (by decide)))).2.1 (Kd.R_F (Kd.gu (ok' := fun k_ => Go.Proofs.YteidaijpaijgpaaGreatDoorV.TY w16 k_) (Kd.iR jh.out) (fun k_ hk => Go.Proofs.YteidaijpaijgpaaGreatDoorV.qx hk (by decide)))))) (cu.one (show Kd.FK (Kd.slice 9 Kd.string) _ _ t109 [.slice xk t109.length uZ] from (Kd.lY (Kd.aV (Kd.gu (ok' := fun k_ => Go.Proofs.YteidaijpaijgpaaGreatDoorV.TY w16 k_) (Kd.iR oh.out) (fun k_ hk => Go.Proofs.YteidaijpaijgpaaGreatDoorV.qx hk (by decide)))).2.1 (Kd.R_F (Kd.gu (ok' := fun k_ => Go.Proofs.YteidaijpaijgpaaGreatDoorV.TY w16 k_) (Kd.iR oh.out) (fun k_ hk => Go.Proofs.YteidaijpaijgpaaGreatDoorV.qx hk (by decide)))))) (cu.one (show Kd.FK (Kd.slice 9 Kd.string) _ _ jy [.slice zC jy.length zD] from (Kd.lY (Kd.aV (Kd.gu (ok' := fun k_ => Go.Proofs.YteidaijpaijgpaaGreatDoorV.TY w16 k_) (Kd.iR mM.out) (fun k_ hk => Go.Proofs.YteidaijpaijgpaaGreatDoorV.qx hk (by decide)))).2.1 (Kd.R_F (Kd.gu (ok' := fun k_ => Go.Proofs.YteidaijpaijgpaaGreatDoorV.TY w16 k_) (Kd.iR mM.out) (fun k_ hk => Go.Proofs.YteidaijpaijgpaaGreatDoorV.qx hk (by decide)))))) (cu.none _ _)))))
  intro v116 w20 vD hb hg_ hnew_
  clear hg_
  (first | rw [← Ny115.out] at vD | (simp only [Int.reduceToNat] at vD; rw [← Ny115.out] at vD))
  have HN20 := ae.mk (Go.Proofs.YteidaijpaijgpaaGreatDoorV.rO vD hb hnew_ (by decide))
  clear hnew_
  have n0_ := ae.mk (Kd.bD (qr fF) hb)
  have n1_ := ae.mk (Kd.xN vD (bi (qw HB)))
  have n2_ := qbb ag hb
  replace HBB := ae.mk (aj (qw HBB) hb)
  have n3_ := ae.mk (aj (qw HB) hb)
  clear fF ag HB jh oh mM
  have fF := n0_
  have pV := n1_
  have ag := n2_
  have HB := n3_
  clear n0_ n1_ n2_ n3_ hb vD
  obtain ⟨EA, EB, Bg⟩ := Kd.xO pV.out
  (first | subst Bg | (injection Bg with f1_ f2_ f3_; have f4_ := f1_.symm; have f5_ := f3_.symm; clear f1_ f2_ f3_; subst f4_; subst f5_))
  refine hK.out _ _ ⟨(af ag.out 0).trans rfl, (af ag.out 1).trans rfl, (af ag.out 2).trans rfl, (af ag.out 3).trans rfl⟩ (fun hHeld => ?_)
  clear hK K
  refine gD (some 23) ?_
  refine bL 10 (some 24) HT_ ?_
  refine jI HT_ ?_
  replace HBI := ae.mk (Go.Proofs.YteidaijpaijgpaaGreatDoorV.nR HBI.out (show Below wS.heap.size wS w20 from qw HBB))
  have HFB := ae.mk (show gbB ≤ w20.heap.size from Nat.le_of_lt (Nat.lt_of_lt_of_le GSB.out (bi (show Below wS.heap.size wS w20 from qw HBB))))
  try go_wp2
  go_loopw [25] (fun v25 w' => ∃ i : Nat, i ≤ y115.length ∧ v25 = .int .i64 i ∧ ae (Lib.IsBuilderF 100 5 gbB gbB (Lib.byteCells (lg t105 ((y115.take i).flatten))) w') ∧ ae (Go.Proofs.YteidaijpaijgpaaGreatDoorV.KEEP w20 w') ∧ ae (Below w.heap.size w w') ∧ ae (gbB ≤ w'.heap.size)) (fun v25 _ => y115.length - (intOf v25).toNat)
  case atStart => exact ⟨0, Nat.zero_le _, rfl, ⟨by simpa using HBI.out⟩, ⟨Go.Proofs.YteidaijpaijgpaaGreatDoorV.KEEP.refl _⟩, ⟨HB.out⟩, ⟨HFB.out⟩⟩
  case round =>
   clear HB HBI HBB HFB
   obtain ⟨i, hi, rfl, HBI, HKP, HB, HGS⟩ := hrel
   have hylen : y115.length = 3 := by rw [Ny115.out]; rfl
   by_cases hlt : i < y115.length
   ·obtain ⟨x, hx⟩ : ∃ x, y115[i]? = some x := ⟨_, List.getElem?_eq_getElem hlt⟩
    obtain ⟨ad, A', c', hA, hle, hel⟩ := Go.Proofs.YteidaijpaijgpaaGreatDoorV.zh HN20.out hx
    subst hA
    have hcell := (hel _ HKP.out).1
    have HEL := Lib.hid hel
    have HX := Lib.hid hx
    have HLE := Lib.hid hle
    have hmx := (hel _ HKP.out).2.2.1
    have HMX := Lib.hid hmx
    have p0 : (0 ≤ (i : Int)) = True := eq_true (by omega)
    have p1 : ((i : Int) < (y115.length : Int)) = True := eq_true (by omega)
    have d0 : decide ((i : Int) < (y115.length : Int)) = true := decide_eq_true (by omega)
    have d2 : decide (i < y115.length) = true := decide_eq_true hlt
    have HYL := Lib.hid hylen
    have HLT := Lib.hid hlt
    clear hel hx hle hmx hylen hlt hi
    go_wp2
    go_loopw [31] (fun v31 w' => ∃ j : Nat, j ≤ x.length ∧ v31 = .int .i64 j ∧ ae (Lib.IsBuilderF 100 5 gbB gbB (Lib.byteCells (lg t105 ((y115.take i).flatten ++ x.take j))) w') ∧ ae (Go.Proofs.YteidaijpaijgpaaGreatDoorV.KEEP w20 w') ∧ ae (Below w.heap.size w w') ∧ ae (gbB ≤ w'.heap.size)) (fun v31 _ => x.length - (intOf v31).toNat)
    case atStart => exact ⟨0, Nat.zero_le _, rfl, ⟨by simpa using HBI.out⟩, HKP, HB, HGS⟩
    case round =>
     clear HBI HKP HB HGS
     obtain ⟨j, hj, rfl, HBI, HKP, HB, HGS⟩ := hrel
     by_cases hlj : j < x.length
     ·obtain ⟨y, hy⟩ : ∃ y, x[j]? = some y := ⟨_, List.getElem?_eq_getElem hlj⟩
      obtain ⟨ad2, e2, hc2⟩ := Kd.ql (HEL.out _ HKP.out).2 (j : Int) (by omega) (by omega)
      subst e2
      have hy' : ol ByteArray.empty x (j : Int) = y := by simp [ol, hy]
      rw [hy', Int.toNat_natCast] at hc2
      have HXS := HX.out
      obtain ⟨ms, hms⟩ := uj y115 i x HXS j y hy
      have hsome := vC t105 ((y115.take i).flatten ++ x.take j) ms y
      rw [← hms] at hsome
      have hall : (lg t105 y115.flatten).length + 2 ≤ 140737488355328 := by
       have h1 := HBND.out
       rw [← Ny115.out] at h1
       simpa [qi] using h1
      have HLN := ae.mk (show (Lib.byteCells (lg t105 ((y115.take i).flatten ++ x.take j))).length + ((⟨#[32, 32]⟩ : ByteArray) ++ y ++ (⟨#[10]⟩ : ByteArray)).size ≤ 140737488355328 by
       rw [Lib.byteCells_length, qj]; omega)
      have s1 : (9223372036854775807 < 2 + y.size) = False := eq_false (by omega)
      have s2 : (9223372036854775807 < ((⟨#[32, 32]⟩ : ByteArray) ++ y).size + 1) = False := eq_false (by rw [ByteArray.size_append]; show ¬ (9223372036854775807 < 2 + y.size + 1); omega)
      have s3 : (9223372036854775807 < 2 + y.size + 1) = False := eq_false (by omega)
      have p2 : (0 ≤ (j : Int)) = True := eq_true (by omega)
      have p3 : ((j : Int) < (x.length : Int)) = True := eq_true (by omega)
      have d3 : decide ((j : Int) < (x.length : Int)) = true := decide_eq_true (by omega)
      have d4 : decide (j < x.length) = true := decide_eq_true hlj
      have hmx := HMX.out
      have hwi : wrap64 ((j : Int) + 1) = (j : Int) + 1 := by unfold wrap64; omega
      have hwiw : IntKind.i64.wrap ((j : Int) + 1) = (j : Int) + 1 := (jD _).trans hwi
      have HY := Lib.hid hy
      have HLJ := Lib.hid hlj
      clear hy hy' hms hsome hall hmx hlj hj HXS
      go_wp2_with ((with_reducible refine aH (f := 46) rfl ?_); refine bN (some 38) rfl rfl Tryz.func46 (by kernel_rfl) rfl #[.pointer (some ⟨gbB, 0, none⟩), .string ((⟨#[32, 32]⟩ : ByteArray) ++ y ++ (⟨#[10]⟩ : ByteArray))] rfl (by (try simp only [List.map_toArray, List.map_cons, List.map_nil]); first | done | rfl) ?_; (with_reducible refine (Tryz.Builder_WriteString_k gbB gbB _ ((⟨#[32, 32]⟩ : ByteArray) ++ y ++ (⟨#[10]⟩ : ByteArray)) _ HBI.out HLN.out HGS.out).mono ?_); rintro e wX ⟨rfl, hat, hb, hk⟩; refine ⟨_, rfl, ?_⟩; have HAT := ae.mk hat; have HBX := ae.mk hb; have HKX := ae.mk hk; clear hat hb hk)
      go_roundw
      case rel =>
       have hlj := HLJ.out
       obtain ⟨cs_, hc_⟩ := Go.Proofs.YteidaijpaijgpaaGreatDoorV.mF HBI.out
       refine ⟨j + 1, by omega, by go_num, ⟨?_⟩, ⟨Go.Proofs.YteidaijpaijgpaaGreatDoorV.KEEP.others HKP.out HKX.out hc_⟩, ⟨Below.trans HB.out (HBX.out.mono GEB.out)⟩, ⟨Nat.le_trans HGS.out HBX.out.size⟩⟩
       have h := HAT.out
       rw [xz, ← nL, ← qC] at h
       rw [show (y115.take i).flatten ++ x.take (j + 1) = (y115.take i).flatten ++ x.take j ++ [y] from by
        rw [List.take_add_one, HY.out, Option.toList_some, List.append_assoc]]
       exact .inr h
      case measure => have hlj := HLJ.out; have hmx := HMX.out; simp [intOf]; omega
     ·obtain rfl : j = x.length := by omega
      have d3 : decide (((x.length : Nat) : Int) < (x.length : Int)) = false := decide_eq_false (by omega)
      have d4 : decide (x.length < x.length) = false := decide_eq_false (by omega)
      have hwi : wrap64 ((i : Int) + 1) = (i : Int) + 1 := by have := HLT.out; have := HYL.out; unfold wrap64; omega
      have hwiw : IntKind.i64.wrap ((i : Int) + 1) = (i : Int) + 1 := (jD _).trans hwi
      clear hj hlj
      go_wp2
      go_roundw
      case rel =>
       have hlt := HLT.out
       refine ⟨i + 1, by omega, by go_num, ⟨?_⟩, HKP, HB, HGS⟩
       have h := HBI.out
       rw [List.take_length, show (y115.take i).flatten ++ x = (y115.take (i + 1)).flatten from by rw [List.take_add_one, HX.out]; simp] at h
       exact h
      case measure => have hlt := HLT.out; have hyl := HYL.out; simp [intOf]; omega
   ·obtain rfl : i = y115.length := by omega
    have d0 : decide (((y115.length : Nat) : Int) < (y115.length : Int)) = false := decide_eq_false (by omega)
    have d2 : decide (y115.length < y115.length) = false := decide_eq_false (by omega)
    have hbi := HBI.out
    rw [List.take_length] at hbi
    have HBI4 := ae.mk hbi
    have hall : (lg t105 y115.flatten).length + 2 ≤ 140737488355328 := by
     have h1 := HBND.out
     rw [← Ny115.out] at h1
     simpa [qi] using h1
    have HLN := ae.mk (show (Lib.byteCells (lg t105 y115.flatten)).length + (⟨#[125, 10]⟩ : ByteArray).size ≤ 140737488355328 by rw [Lib.byteCells_length]; exact hall)
    clear hi hlt hylen hbi hall HBI
    go_wp2_with (first
     | ((with_reducible refine aH (f := 46) rfl ?_); refine bN (some 41) rfl rfl Tryz.func46 (by kernel_rfl) rfl #[.pointer (some ⟨gbB, 0, none⟩), .string (⟨#[125, 10]⟩ : ByteArray)] rfl (by (try simp only [List.map_toArray, List.map_cons, List.map_nil]); first | done | rfl) ?_; (with_reducible refine (Tryz.Builder_WriteString_k gbB gbB _ (⟨#[125, 10]⟩ : ByteArray) _ HBI4.out HLN.out HGS.out).mono ?_); rintro e wX ⟨rfl, hat, hb, hk⟩; refine ⟨_, rfl, ?_⟩; have HAT := ae.mk (show Lib.IsBuilderF 100 5 gbB gbB (Lib.byteCells (qi t105 y115.flatten)) wX from Or.inr (by have h_ := hat; rw [show Lib.strCells (⟨#[125, 10]⟩ : ByteArray) = Lib.byteCells [125, 10] from rfl, ← nL] at h_; exact h_)); have HBX := ae.mk hb; clear hat hb hk)
     | ((with_reducible refine aH (f := 47) rfl ?_); refine bN (some 42) rfl rfl Tryz.func47 (by kernel_rfl) rfl #[.pointer (some ⟨gbB, 0, none⟩)] rfl (by (try simp only [List.map_toArray, List.map_cons, List.map_nil]); first | done | rfl) ?_; (with_reducible refine (Tryz.Builder_String_any_k gbB gbB (qi t105 y115.flatten) _ HAT.out (Nat.le_trans HGS.out HBX.out.size)).mono ?_); rintro e wY ⟨rfl, _, hb, _⟩; refine ⟨_, rfl, ?_⟩; have HBY := ae.mk hb; clear hb))
    go_ret
    exact ⟨by rw [← HRES.out, ← Ny115.out]; rfl, Below.trans (Below.trans HB.out (HBX.out.mono GEB.out)) (HBY.out.mono GEB.out)⟩
 ·rw [if_neg c3] at H
  exact absurd H (by simp)
end Go.Proofs.YteidaijpaijgpaaGreatDoor.P
end
section
namespace Go.Proofs.YteidaijpaijgpaaGreatDoor.P
open Go.RowKit Go.Proofs.YteidaijpaijgpaaGreatDoorW.ay Go.Proofs.YteidaijpaijgpaaGreatDoorW.aQ Go.Proofs.YteidaijpaijgpaaGreatDoorW.aZ
attribute [local go_sem] bz bA bP bQ bq bu bB bC
set_option linter.unusedVariables false
set_option linter.unusedSimpArgs false
def eF.l0 : Nat → List ByteArray → List (S62) → Int → Int → Option (List ByteArray)
 | 0, _, _, _, _ => none
 | k + 1, x5, x11, x12, x13 => if x13 < x12 then (if 0 ≤ x13 then (if x13 < (x11.length : Int) then ((eP.f k ((dS x11 x13).f0) ((dS x11 x13).f1) ((dS x11 x13).f2) ((dS x11 x13).f3)).bind fun bG => (if x13 < (x5.length : Int) then (eF.l0 k (x5.set (x13 : Int).toNat bG) x11 x12 (wrap64 (x13 + 1))) else (none))) else (none)) else (none)) else (some x5)
def eF.f (k : Nat) (l0 : List (S62)) (a1 : Bool) : Option (List ByteArray) := if 0 ≤ (l0.length : Int) then (if ((l0.length : Int) : Int).toNat ≤ 17592186044416 then (eF.l0 k (List.replicate ((l0.length : Int) : Int).toNat (⟨#[]⟩ : ByteArray)) l0 (l0.length : Int) 0) else (none)) else (none)
theorem eF.dF : ∀ k, (∀ y0 y1 y2 y3, LeO (eF.l0 k y0 y1 y2 y3) (eF.l0 (k + 1) y0 y1 y2 y3))
 | 0 => fun _ _ _ _ r h => by simp [eF.l0] at h
 | k + 1 => by
  have ih0 := eF.dF k
  ·intro y0 y1 y2 y3
   unfold eF.l0
   repeat' first
   | (with_reducible exact ih0 _ _ _ _)
   | (with_reducible exact eP.mono _ _ _ _ _)
   | (with_reducible exact LeO.refl _)
   | (with_reducible exact LeO.none _)
   | (with_reducible refine LeO.ite ?_ ?_)
   | (with_reducible refine LeO.bind ?_ (fun _ => ?_))
   | exact ih0 _ _ _ _
   | exact eP.mono _ _ _ _ _
   | exact LeO.none _
   | refine LeO.ite ?_ ?_
   | refine LeO.bind ?_ (fun _ => ?_)
theorem eF.mono : ∀ a0 a1 k, LeO (eF.f k a0 a1) (eF.f (k + 1) a0 a1) := by
 intro a0 a1 k
 have ih0 := eF.dF k
 unfold eF.f
 repeat' first
   | (with_reducible exact ih0 _ _ _ _)
   | (with_reducible exact eP.mono _ _ _ _ _)
   | (with_reducible exact LeO.refl _)
   | (with_reducible exact LeO.none _)
   | (with_reducible refine LeO.ite ?_ ?_)
   | (with_reducible refine LeO.bind ?_ (fun _ => ?_))
   | exact ih0 _ _ _ _
   | exact eP.mono _ _ _ _ _
   | exact LeO.none _
   | refine LeO.ite ?_ ?_
   | refine LeO.bind ?_ (fun _ => ?_)
set_option maxHeartbeats 8000000 in
set_option maxRecDepth 100000 in
theorem eF.calls (k : Nat) (A0 : Option Addr) (c0 : Nat) (l0 : List (S62)) (a1 : Bool) (r : List ByteArray) (w : World) (hr0 : Kd.C k62 w A0 l0.length l0) (hc0 : l0.length ≤ c0) (h : eF.f k l0 a1 = some r) (HGT : ae (Go.Proofs.YteidaijpaijgpaaGreatDoorV.GT w)) :
  Calls Tryz.prog 27 #[.slice A0 l0.length c0, .func (.func 28) #[] #[]] w fun e w' => ∃ v0_ : Value, e = .returned (v0_) ∧ Kd.R Kd.string 9 w' w.heap.size (fun _ => True) v0_ r ∧ Below w.heap.size w w' := by
 have hu62 := Tryz.underlying62
 have HR0 := ae.mk hr0
 have HC0 := ae.mk hc0
 clear hr0 hc0
 have HB := ae.mk (Below.refl w.heap.size w)
 have H : (if 0 ≤ (l0.length : Int) then (if ((l0.length : Int) : Int).toNat ≤ 17592186044416 then (eF.l0 k (List.replicate ((l0.length : Int) : Int).toNat (⟨#[]⟩ : ByteArray)) l0 (l0.length : Int) 0) else (none)) else (none)) = some r := h
 clear h
 by_cases c3 : 0 ≤ (l0.length : Int)
 ·rw [if_pos c3] at H
  have gN := eq_true c3
  have jk : decide (0 ≤ (l0.length : Int)) = true := decide_eq_true c3
  clear c3
  by_cases c4 : ((l0.length : Int) : Int).toNat ≤ 17592186044416
  ·rw [if_pos c4] at H
   have iQ := eq_true c4
   have jv : decide (((l0.length : Int) : Int).toNat ≤ 17592186044416) = true := decide_eq_true c4
   clear c4
   obtain ⟨y101, hy101⟩ : ∃ y_ : List ByteArray, y_ = (List.replicate ((l0.length : Int) : Int).toNat (⟨#[]⟩ : ByteArray)) := ⟨_, rfl⟩
   replace H : (eF.l0 k y101 l0 (l0.length : Int) 0) = some r := by first | (rw [hy101]; with_reducible exact H) | (have H2_ := (Option.bind_some _ _).symm.trans H; rw [hy101]; with_reducible exact H2_) | (have H2_ := (Option.bind_some _ _).symm.trans H; with_reducible exact H2_) | with_reducible exact H | (rw [hy101]; exact H) | exact H
   have Ny101 := ae.mk hy101
   clear hy101
   have H' := ae.mk H
   clear H
   go_enter Tryz.func27, Tryz.ntmps27
   go_wp2_with (first | ((with_reducible refine bg (N := 10) rfl ?_); refine Kd.kC Kd.string _ 9 rfl (N := 10) rfl 40 _ _ rfl (l0.length : Int) rfl rfl Tryz.underlying40 (.string ⟨#[]⟩) 16 nC rfl (by decide) (by omega) (⟨#[]⟩ : ByteArray) (ok := fun _ => True) (okp := fun _ => True) rfl (fun _ hk => hk) trivial (of_decide_eq_true qa) (Nat.le_trans (Nat.mul_le_mul_right _ (of_decide_eq_true qa : (l0.length : Int).toNat ≤ 17592186044416)) (by omega)) (Below.refl _ _) (Nat.le_refl _) ?_; intro v102 w5 ho6 hb hg_ hnew_; clear hg_ hnew_; (first | rw [← Ny101.out] at ho6 | (simp only [Int.reduceToNat] at ho6; rw [← Ny101.out] at ho6)); have eX := ae.mk (Kd.dI ho6 (bi (qw HB))); replace HB := ae.mk (aj (qw HB) hb); clear hb ho6))
   go_loopg [13] k (fun kq v13 w' => ∃ (cZ : List ByteArray) (ax : Int), v13 = .int .i64 ax ∧ ae (eF.l0 kq cZ l0 (l0.length : Int) ax = some r) ∧ ae (kq ≤ k) ∧ ae (Kd.R Kd.string 9 w' w.heap.size (fun _ => True) v102 cZ) ∧ ae (Below w.heap.size w w'))
   case atStart => exact ⟨(y101), (0), (by first | rfl | (simp; done) | (simp [*]; done)), H', ⟨Nat.le_refl _⟩, ⟨by (with_reducible repeat (first | apply Kd.di | apply Kd.dm | apply Kd.dR)); exact eX.out⟩, ⟨by repeat (first | (with_reducible first | exact HB.out | apply au | apply ai | apply ak) | exact HB.out)⟩⟩
   case round =>
    clear H'
    try clear c2
    try clear p2
    try clear c3
    try clear gN
    try clear jk
    try clear c4
    try clear iQ
    try clear jv
    obtain ⟨cZ, ax, rfl, HA, HK1, bM, HB⟩ := hrel
    cases gk with
    | zero => exact absurd HA.out (by simp [eF.l0])
    | succ k1 =>
     have H := HA.out
     clear HA
     simp only [eF.l0] at H
     by_cases c7 : ax < (l0.length : Int)
     ·rw [if_pos c7] at H
      have jg : decide (ax < (l0.length : Int)) = true := decide_eq_true c7
      clear c7
      by_cases c8 : 0 ≤ ax
      ·rw [if_pos c8] at H
       have kK : decide (0 ≤ ax) = true := decide_eq_true c8
       clear c8
       by_cases c9 : ax < (l0.length : Int)
       ·rw [if_pos c9] at H
        have lT : decide (ax < (l0.length : Int)) = true := decide_eq_true c9
        clear c9
        replace H := Option.bind_eq_some_iff.mp H
        obtain ⟨bG, A100, H⟩ := H
        replace H : (if ax < (cZ.length : Int) then (eF.l0 k1 (cZ.set (ax : Int).toNat bG) l0 (l0.length : Int) (wrap64 (ax + 1))) else (none)) = some r := H
        have A10 := ae.mk A100
        clear A100
        by_cases c11 : ax < (cZ.length : Int)
        ·rw [if_pos c11] at H
         have lq : decide (ax < (cZ.length : Int)) = true := decide_eq_true c11
         clear c11
         obtain ⟨y107, hy107⟩ : ∃ y_ : List ByteArray, y_ = (cZ.set (ax : Int).toNat bG) := ⟨_, rfl⟩
         replace H : (eF.l0 k1 y107 l0 (l0.length : Int) (wrap64 (ax + 1))) = some r := by first | (rw [hy107]; with_reducible exact H) | (have H2_ := (Option.bind_some _ _).symm.trans H; rw [hy107]; with_reducible exact H2_) | (have H2_ := (Option.bind_some _ _).symm.trans H; with_reducible exact H2_) | with_reducible exact H | (rw [hy107]; exact H) | exact H
         have Ny107 := ae.mk hy107
         clear hy107
         have H' := ae.mk H
         clear H
         have p104 : 0 ≤ (ax : Int) := of_decide_eq_true qa
         have q104 : ax < (l0.length : Int) := of_decide_eq_true qa
         obtain ⟨ad104, kJ, c104_1, pW, c104_2, rD, c104_3, e104, hx104_0, hx104_1, hx104_2, hx104_3, hl104_1, hi104_1, hl104_2, hi104_2, hl104_3, hi104_3⟩ := tF HR0.out ax p104 q104
         cases e104
         replace hx104_0 := (HB.out.cell (World.block_lt_of_cell? w _ hx104_0)).trans hx104_0
         replace hx104_1 := (HB.out.cell (World.block_lt_of_cell? w _ hx104_1)).trans hx104_1
         replace hx104_2 := (HB.out.cell (World.block_lt_of_cell? w _ hx104_2)).trans hx104_2
         replace hx104_3 := (HB.out.cell (World.block_lt_of_cell? w _ hx104_3)).trans hx104_3
         have rA := ae.mk hi104_1
         have rC := ae.mk hl104_1
         clear hi104_1 hl104_1
         have yG := ae.mk hi104_2
         have yH := ae.mk hl104_2
         clear hi104_2 hl104_2
         have yI := ae.mk hi104_3
         have yJ := ae.mk hl104_3
         clear hi104_3 hl104_3
         replace p104 := eq_true p104
         replace q104 := eq_true q104
         go_wp2_with (first | ((with_reducible refine bg (N := 7) rfl ?_); refine bE ?hg (N := 7) ?hd (cs := #[.string (⟨#[]⟩ : ByteArray), .slice none 0 0, .slice none 0 0, .slice none 0 0]) (t := 62) ?hr ?_; (case hd => rfl); (case hg => rfl); (case hr => first | (go_simp; done) | (go_simp; rfl)); intro eB hg w13 hbox hb; replace bM := ae.mk (Kd.bD (qr bM) hb); have cO := ae.mk (hbox); have GW105 := qge HB hg; have lu := qge HB hg; replace HB := ae.mk (aj (qw HB) hb); clear hb hbox hg; have hcz14_0 : w13.cell? ⟨eB, 0, none⟩ = some (.string (⟨#[]⟩ : ByteArray)) := (af cO.out 0).trans rfl; have hcz14_1 : w13.cell? ⟨eB, 1, none⟩ = some (.slice none 0 0) := (af cO.out 1).trans rfl; have hcz14_2 : w13.cell? ⟨eB, 2, none⟩ = some (.slice none 0 0) := (af cO.out 2).trans rfl; have hcz14_3 : w13.cell? ⟨eB, 3, none⟩ = some (.slice none 0 0) := (af cO.out 3).trans rfl; have hfz14_0 := ah cO.out 0; have hfz14_1 := ah cO.out 1; have hfz14_2 := ah cO.out 2; have hfz14_3 := ah cO.out 3) | ((with_reducible refine Go.Proofs.YteidaijpaijgpaaGreatDoorV.eG (s := 20) rfl ?_); refine Go.Proofs.YteidaijpaijgpaaGreatDoorV.gW (some 22) rfl rfl Tryz.func28 (by kernel_rfl) rfl #[.agg #[.string ((dS l0 ax).f0), .slice kJ ((dS l0 ax).f1).length c104_1, .slice pW ((dS l0 ax).f2).length c104_2, .slice rD ((dS l0 ax).f3).length c104_3]] rfl qt ?_; (with_reducible refine (eP.calls k1 ((dS l0 ax).f0) _ _ ((dS l0 ax).f1) _ _ ((dS l0 ax).f2) _ _ ((dS l0 ax).f3) bG _ ?aX ?aY ?jK ?jL ?sD ?sF A10.out ?gt).mono ?_); (case gt => exact Go.Proofs.YteidaijpaijgpaaGreatDoorV.GT.below HGT (qw HB)); (case aX => exact Kd.dC rA.out (qw HB)); (case aY => exact rC.out); (case jK => exact Kd.dC yG.out (qw HB)); (case jL => exact yH.out); (case sD => exact Kd.dC yI.out (qw HB)); (case sF => exact yJ.out); rintro e w15 ⟨rfl, hb⟩; refine ⟨_, rfl, ?_⟩; replace bM := ae.mk (Kd.bD (by (with_reducible repeat (first | apply Kd.di | apply Kd.dm | apply Kd.dR)); exact (Kd.gu (Kd.iI (p := ⟨eB, 3, none⟩) (Kd.iI (p := ⟨eB, 2, none⟩) (Kd.iI (p := ⟨eB, 1, none⟩) (Kd.iI (p := ⟨eB, 0, none⟩) (Kd.lC bM.out cO.out (by decide)) (fun _ hk => hk.2) (.string ((dS l0 ax).f0))) (fun _ hk => hk.2) (.slice kJ ((dS l0 ax).f1).length c104_1)) (fun _ hk => hk.2) (.slice pW ((dS l0 ax).f2).length c104_2)) (fun _ hk => hk.2) (.slice rD ((dS l0 ax).f3).length c104_3)) (fun _ h_ => h_.1))) hb); replace cO := ae.mk (ji (g := eB) (o := .cells #[.string ((dS l0 ax).f0), .slice kJ ((dS l0 ax).f1).length c104_1, .slice pW ((dS l0 ax).f2).length c104_2, .slice rD ((dS l0 ax).f3).length c104_3] 62 (0, 0)) (by refine dL (cs := #[.string ((dS l0 ax).f0), .slice kJ ((dS l0 ax).f1).length c104_1, .slice pW ((dS l0 ax).f2).length c104_2, .slice none 0 0]) ?_ 3 _ rfl; refine dL (cs := #[.string ((dS l0 ax).f0), .slice kJ ((dS l0 ax).f1).length c104_1, .slice none 0 0, .slice none 0 0]) ?_ 2 _ rfl; refine dL (cs := #[.string ((dS l0 ax).f0), .slice none 0 0, .slice none 0 0, .slice none 0 0]) ?_ 1 _ rfl; refine dL (cs := #[.string (⟨#[]⟩ : ByteArray), .slice none 0 0, .slice none 0 0, .slice none 0 0]) ?_ 0 _ rfl; (with_reducible repeat (first | refine gz ?_ _ | refine dQ ?_ | refine gy ?_ _)); exact cO.out) hb); replace HB := ae.mk (aj (qw HB) hb); (try clear hb); (try clear hb2); (try clear hk); (try clear hi); have p12 : 0 ≤ (ax : Int) := of_decide_eq_true qa; have q12 : (ax : Int) < ((cZ.length : Int) : Int) := of_decide_eq_true qa; obtain ⟨go12, kF, jr, kG, gl12, cl12, HG12⟩ := Kd.kz bM.out (by omega); (first | cases jr | (injection jr with ea_ en_ ec_; (first | subst ea_ | (injection ea_ with ea_; subst ea_)); subst ec_; clear en_)); have mZ := ae.mk kG; have GG12 := ae.mk HG12; clear kG gl12 HG12; obtain ⟨hx12_0, hf12_0⟩ := Kd.ib (⟨#[]⟩ : ByteArray) bM.out (ax : Int) p12 q12; replace p12 := eq_true p12; replace q12 := eq_true q12; obtain ⟨hy16_, hz16_⟩ := Kd.ib (⟨#[]⟩ : ByteArray) bM.out (ax : Int) (of_decide_eq_true qa) (of_decide_eq_true qa); have HP16 := Kd.kD bM.out (ax : Int) bG) | ((with_reducible refine iD (t := 9) (p := 23) rfl ?_); refine ic (t := 9) (p := 23) (v := ?vo_w17) (w1 := (w15.setCell ⟨go12, (ax : Int).toNat, none⟩ (.string bG))) ?hg ?ho ?hn ?hr ?_; (case ho => rfl); (case hg => rfl); (case hn => rfl); (case hr => first | (go_simp; done) | (go_simp; rfl)); intro w17 hw; have hg : w15.grownBy w17 (some go12) := (by rw [hw]; exact HP16.2); have hp_ : Kd.R Kd.string 9 w17 w.heap.size (fun _ => True) (.slice (some ⟨go12, 0, none⟩) cZ.length kF) y107 := (by rw [hw, Ny107.out]; exact HP16.1); clear HP16; replace cO := ae.mk (jO (g := eB) (o := .cells #[.string ((dS l0 ax).f0), .slice kJ ((dS l0 ax).f1).length c104_1, .slice pW ((dS l0 ax).f2).length c104_2, .slice rD ((dS l0 ax).f3).length c104_3] 62 (0, 0)) (qb cO) hg (Kd.sN bM.out cO.out (by decide))); replace bM := ae.mk (hp_); replace HB := ae.mk ((by rw [hw]; exact bn (HB.out) mZ.out : Below w.heap.size w w17)); clear hg hw hp_))
         go_roundg k1
         case measure => have := HK1.out; omega
         case rel => exact ⟨(y107), (wrap64 (ax + 1)), (by first | rfl | (simp; done) | (simp [*]; done)), H', ⟨by have := HK1.out; omega⟩, ⟨by (with_reducible repeat (first | apply Kd.di | apply Kd.dm | apply Kd.dR)); exact bM.out⟩, ⟨by repeat (first | (with_reducible first | exact HB.out | apply au | apply ai | apply ak | refine bn ?_ lu.out) | exact HB.out)⟩⟩
        ·rw [if_neg c11] at H
         exact absurd H (by simp)
       ·rw [if_neg c9] at H
        exact absurd H (by simp)
      ·rw [if_neg c8] at H
       exact absurd H (by simp)
     ·rw [if_neg c7] at H
      have jg : decide (ax < (l0.length : Int)) = false := decide_eq_false c7
      clear c7
      obtain rfl := Option.some.inj H
      go_wp2
      go_ret
      exact ⟨_, by first | rfl | (simp [errW_none, errW_some] <;> rfl) | (simp [*, errW_none, errW_some] <;> rfl), by (with_reducible repeat (first | apply Kd.di | apply Kd.dm | apply Kd.dR)); exact bM.out, by repeat (first | (with_reducible first | exact HB.out | apply au | apply ai | apply ak) | exact HB.out)⟩
  ·rw [if_neg c4] at H
   exact absurd H (by simp)
 ·rw [if_neg c3] at H
  exact absurd H (by simp)
end Go.Proofs.YteidaijpaijgpaaGreatDoor.P
end
section
namespace Go.Proofs.YteidaijpaijgpaaGreatDoor.P
open Go.RowKit Go.Proofs.YteidaijpaijgpaaGreatDoorW.ay Go.Proofs.YteidaijpaijgpaaGreatDoorW.aQ Go.Proofs.YteidaijpaijgpaaGreatDoorW.aZ
attribute [local go_sem] bz bA bP bQ bq bu bB bC
set_option linter.unusedVariables false
set_option linter.unusedSimpArgs false
def gZ.f (k : Nat) (l0 : List (S62)) : Option (ByteArray) := (eF.f k l0 wH).bind fun bR => ((strings_Join.f bR (⟨#[]⟩ : ByteArray)).bind fun bH => (some bH))
theorem gZ.mono : ∀ a0 k, LeO (gZ.f k a0) (gZ.f (k + 1) a0) := by
 intro a0 k
 unfold gZ.f
 repeat' first
   | (with_reducible exact eF.mono _ _ _)
   | (with_reducible exact LeO.refl _)
   | (with_reducible exact LeO.none _)
   | (with_reducible refine LeO.ite ?_ ?_)
   | (with_reducible refine LeO.bind ?_ (fun _ => ?_))
   | exact eF.mono _ _ _
   | exact LeO.none _
   | refine LeO.ite ?_ ?_
   | refine LeO.bind ?_ (fun _ => ?_)
set_option maxHeartbeats 8000000 in
set_option maxRecDepth 100000 in
theorem gZ.calls (k : Nat) (A0 : Option Addr) (c0 : Nat) (l0 : List (S62)) (r : ByteArray) (w : World) (hr0 : Kd.C k62 w A0 l0.length l0) (hc0 : l0.length ≤ c0) (h : gZ.f k l0 = some r) (HGT : ae (Go.Proofs.YteidaijpaijgpaaGreatDoorV.GT w)) :
  Calls Tryz.prog 8 #[.slice A0 l0.length c0] w fun e w' => e = .returned (.string r) ∧ Below w.heap.size w w' := by
 have HR0 := ae.mk hr0
 have HC0 := ae.mk hc0
 clear hr0 hc0
 have HB := ae.mk (Below.refl w.heap.size w)
 have H : ((eF.f k l0 wH).bind fun bR => ((strings_Join.f bR (⟨#[]⟩ : ByteArray)).bind fun bH => (some bH))) = some r := h
 clear h
 replace H := Option.bind_eq_some_iff.mp H
 obtain ⟨bR, A20, H⟩ := H
 replace H : ((strings_Join.f bR (⟨#[]⟩ : ByteArray)).bind fun bH => (some bH)) = some r := H
 have A2 := ae.mk A20
 clear A20
 replace H := Option.bind_eq_some_iff.mp H
 obtain ⟨bH, A30, H⟩ := H
 replace H : (some bH) = some r := H
 have A3 := ae.mk A30
 clear A30
 obtain rfl := Option.some.inj H
 go_enter Tryz.func8, Tryz.ntmps8
 go_wp2_with (first | ((with_reducible refine aH (f := 27) rfl ?_); refine bN (some 4) rfl rfl Tryz.func27 (by kernel_rfl) rfl #[.slice A0 l0.length c0, .func (.func 28) #[] #[]] rfl qt ?_; (with_reducible refine (eF.calls k _ _ l0 wH bR _ ?aX ?aY A2.out ?gt).mono ?_); (case gt => exact Go.Proofs.YteidaijpaijgpaaGreatDoorV.GT.below HGT (qw HB)); (case aX => exact qs (HR0.out)); (case aY => exact HC0.out); rintro e w4 ⟨v102, rfl, ho0, hb⟩; refine ⟨_, rfl, ?_⟩; have eX := ae.mk (Kd.dI ho0 (bi (qw HB))); replace HB := ae.mk (aj (qw HB) hb); (try clear hb); (try clear hb2); (try clear hk); (try clear hi); (try clear ho0); obtain ⟨Ao5, co5, eo5⟩ := Kd.dM eX.out; subst eo5) | ((with_reducible refine aH (f := 26) rfl ?_); refine bN (some 5) rfl rfl Tryz.func26 (by kernel_rfl) rfl #[.slice Ao5 bR.length co5, .string (⟨#[]⟩ : ByteArray)] rfl qt ?_; (with_reducible refine (strings_Join.calls _ _ bR (⟨#[]⟩ : ByteArray) bH _ ?aX ?aY A3.out).mono ?_); (case aX => exact qs ((Kd.aV eX.out).2.2)); (case aY => exact (Kd.aV eX.out).2.1); rintro e w6 ⟨rfl, hb⟩; refine ⟨_, rfl, ?_⟩; replace eX := ae.mk (Kd.bD (qr eX) hb); replace HB := ae.mk (aj (qw HB) hb); (try clear hb); (try clear hb2); (try clear hk); (try clear hi)))
 go_ret
 exact ⟨by first | rfl | (simp [errW_none, errW_some] <;> rfl) | (simp [*, errW_none, errW_some] <;> rfl), by repeat (first | (with_reducible first | exact HB.out | apply au | apply ai | apply ak) | exact HB.out)⟩
end Go.Proofs.YteidaijpaijgpaaGreatDoor.P
end
section
namespace Go.Proofs.YteidaijpaijgpaaGreatDoor.P
open Go.RowKit Go.Proofs.YteidaijpaijgpaaGreatDoorW.ay Go.Proofs.YteidaijpaijgpaaGreatDoorW.aQ Go.Proofs.YteidaijpaijgpaaGreatDoorW.aZ
attribute [local go_sem] bz bA bP bQ bq bu bB bC
set_option linter.unusedVariables false
set_option linter.unusedSimpArgs false
def eZ.f (k : Nat) (l0 : List (S62)) : Option (Bool) := if (l0.length : Int) ≤ 4 then ((iw.f k l0 uz).bind fun bR => (if bR = true then (some false) else ((gZ.f k l0).bind fun aJ => (some (decide ((aJ.size : Int) ≤ 8192)))))) else (some false)
theorem eZ.mono : ∀ a0 k, LeO (eZ.f k a0) (eZ.f (k + 1) a0) := by
 intro a0 k
 unfold eZ.f
 repeat' first
   | (with_reducible exact iw.mono _ _ _)
   | (with_reducible exact gZ.mono _ _)
   | (with_reducible exact LeO.refl _)
   | (with_reducible exact LeO.none _)
   | (with_reducible refine LeO.ite ?_ ?_)
   | (with_reducible refine LeO.bind ?_ (fun _ => ?_))
   | exact iw.mono _ _ _
   | exact gZ.mono _ _
   | exact LeO.none _
   | refine LeO.ite ?_ ?_
   | refine LeO.bind ?_ (fun _ => ?_)
set_option maxHeartbeats 8000000 in
set_option maxRecDepth 100000 in
theorem eZ.calls (k : Nat) (A0 : Option Addr) (c0 : Nat) (l0 : List (S62)) (r : Bool) (w : World) (hr0 : Kd.C k62 w A0 l0.length l0) (hc0 : l0.length ≤ c0) (h : eZ.f k l0 = some r) (HGT : ae (Go.Proofs.YteidaijpaijgpaaGreatDoorV.GT w)) :
  Calls Tryz.prog 15 #[.slice A0 l0.length c0] w fun e w' => e = .returned (.bool r) ∧ Below w.heap.size w w' := by
 have HR0 := ae.mk hr0
 have HC0 := ae.mk hc0
 clear hr0 hc0
 have HB := ae.mk (Below.refl w.heap.size w)
 have H : (if (l0.length : Int) ≤ 4 then ((iw.f k l0 uz).bind fun bR => (if bR = true then (some false) else ((gZ.f k l0).bind fun aJ => (some (decide ((aJ.size : Int) ≤ 8192)))))) else (some false)) = some r := h
 clear h
 by_cases c2 : (l0.length : Int) ≤ 4
 ·rw [if_pos c2] at H
  have jF : decide ((l0.length : Int) ≤ 4) = true := decide_eq_true c2
  have mI : decide (l0.length ≤ 4) = true := decide_eq_true (by omega)
  clear c2
  replace H := Option.bind_eq_some_iff.mp H
  obtain ⟨bR, A30, H⟩ := H
  replace H : (if bR = true then (some false) else ((gZ.f k l0).bind fun aJ => (some (decide ((aJ.size : Int) ≤ 8192))))) = some r := H
  have A3 := ae.mk A30
  clear A30
  by_cases c4 : bR = true
  ·subst c4
   have H1 : (some false) = some r := by rw [if_pos rfl] at H; exact H
   clear H
   have H := H1
   clear H1
   obtain rfl := Option.some.inj H
   go_enter Tryz.func15, Tryz.ntmps15
   go_wp2_with (first | (go_at_call 38; (with_reducible refine (iw.calls k _ _ l0 uz true _ ?aX ?aY A3.out).mono ?_); (case aX => exact qs (HR0.out)); (case aY => exact HC0.out); rintro e w5 ⟨rfl, hb⟩; replace HB := ae.mk (aj (qw HB) hb); (try clear hb); (try clear hb2); (try clear hk); (try clear hi)))
   go_ret
   exact ⟨by first | rfl | (simp [errW_none, errW_some] <;> rfl) | (simp [*, errW_none, errW_some] <;> rfl), by repeat (first | (with_reducible first | exact HB.out | apply au | apply ai | apply ak) | exact HB.out)⟩
  ·replace c4 := Bool.eq_false_iff.mpr c4
   subst c4
   have H1 : ((gZ.f k l0).bind fun aJ => (some (decide ((aJ.size : Int) ≤ 8192)))) = some r := by rw [if_neg (show ¬ (false = true) by decide)] at H; exact H
   clear H
   have H := H1
   clear H1
   replace H := Option.bind_eq_some_iff.mp H
   obtain ⟨aJ, A60, H⟩ := H
   replace H : (some (decide ((aJ.size : Int) ≤ 8192))) = some r := H
   have A6 := ae.mk A60
   clear A60
   obtain rfl := Option.some.inj H
   go_enter Tryz.func15, Tryz.ntmps15
   go_wp2_with (first | (go_at_call 38; (with_reducible refine (iw.calls k _ _ l0 uz false _ ?aX ?aY A3.out).mono ?_); (case aX => exact qs (HR0.out)); (case aY => exact HC0.out); rintro e w7 ⟨rfl, hb⟩; replace HB := ae.mk (aj (qw HB) hb); (try clear hb); (try clear hb2); (try clear hk); (try clear hi)) | (go_at_call 8; (with_reducible refine (gZ.calls k _ _ l0 aJ _ ?aX ?aY A6.out ?gt).mono ?_); (case gt => exact Go.Proofs.YteidaijpaijgpaaGreatDoorV.GT.below HGT (qw HB)); (case aX => exact qs ((Kd.dC HR0.out HB.out))); (case aY => exact HC0.out); rintro e w8 ⟨rfl, hb⟩; replace HB := ae.mk (aj (qw HB) hb); (try clear hb); (try clear hb2); (try clear hk); (try clear hi)))
   go_ret
   exact ⟨by first | rfl | (simp [errW_none, errW_some] <;> rfl) | (simp [*, errW_none, errW_some] <;> rfl), by repeat (first | (with_reducible first | exact HB.out | apply au | apply ai | apply ak) | exact HB.out)⟩
 ·rw [if_neg c2] at H
  have jF : decide ((l0.length : Int) ≤ 4) = false := decide_eq_false c2
  have mI : decide (l0.length ≤ 4) = false := decide_eq_false (by omega)
  clear c2
  obtain rfl := Option.some.inj H
  go_enter Tryz.func15, Tryz.ntmps15
  go_wp2
  go_ret
  exact ⟨by first | rfl | (simp [errW_none, errW_some] <;> rfl) | (simp [*, errW_none, errW_some] <;> rfl), by repeat (first | (with_reducible first | exact HB.out | apply au | apply ai | apply ak) | exact HB.out)⟩
end Go.Proofs.YteidaijpaijgpaaGreatDoor.P
end
section
namespace Go.Proofs.YteidaijpaijgpaaGreatDoor.P
open Go.RowKit Go.Proofs.YteidaijpaijgpaaGreatDoorW.ay Go.Proofs.YteidaijpaijgpaaGreatDoorW.aQ Go.Proofs.YteidaijpaijgpaaGreatDoorW.aZ
attribute [local go_sem] bz bA bP bQ bq bu bB bC
set_option linter.unusedVariables false
set_option linter.unusedSimpArgs false
def bv.f (k : Nat)  : Option (Bool) := (some (([(⟨(⟨#[97]⟩ : ByteArray), ([] : List (S66)), ([] : List (S74)), ([] : List (S28))⟩ : S62), (⟨(⟨#[98]⟩ : ByteArray), ([] : List (S66)), ([] : List (S74)), ([] : List (S28))⟩ : S62), (⟨(⟨#[99]⟩ : ByteArray), ([] : List (S66)), ([] : List (S74)), ([] : List (S28))⟩ : S62), (⟨(⟨#[100]⟩ : ByteArray), ([] : List (S66)), ([] : List (S74)), ([] : List (S28))⟩ : S62)] : List (S62)) : List (S62))).bind fun y101 => ((eZ.f k y101).bind fun bH => (if bH = true then (if y101.length < 1599289640401 then ((eZ.f k (y101 ++ [(⟨(⟨#[101]⟩ : ByteArray), ([] : List (S66)), ([] : List (S74)), ([] : List (S28))⟩ : S62)])).bind fun jw => (if jw = true then (some false) else ((bI.f k ([] : List (S45))).bind fun t109 => (some t109)))) else (none)) else (some false)))
theorem bv.mono : ∀ k, LeO (bv.f k ) (bv.f (k + 1) ) := by
 intro  k
 unfold bv.f
 repeat' first
   | (with_reducible exact eZ.mono _ _)
   | (with_reducible exact bI.mono _ _)
   | (with_reducible exact LeO.refl _)
   | (with_reducible exact LeO.none _)
   | (with_reducible refine LeO.ite ?_ ?_)
   | (with_reducible refine LeO.bind ?_ (fun _ => ?_))
   | exact eZ.mono _ _
   | exact bI.mono _ _
   | exact LeO.none _
   | refine LeO.ite ?_ ?_
   | refine LeO.bind ?_ (fun _ => ?_)
set_option maxHeartbeats 8000000 in
set_option maxRecDepth 100000 in
theorem bv.calls (k : Nat)  (r : Bool) (w : World) (h : bv.f k  = some r) (HGT : ae (Go.Proofs.YteidaijpaijgpaaGreatDoorV.GT w)) :
  Calls Tryz.prog 20 #[] w fun e w' => e = .returned (.bool r) ∧ Below w.heap.size w w' := by
 have hu62 := Tryz.underlying62
 have HB := ae.mk (Below.refl w.heap.size w)
 have H : ((some (([(⟨(⟨#[97]⟩ : ByteArray), ([] : List (S66)), ([] : List (S74)), ([] : List (S28))⟩ : S62), (⟨(⟨#[98]⟩ : ByteArray), ([] : List (S66)), ([] : List (S74)), ([] : List (S28))⟩ : S62), (⟨(⟨#[99]⟩ : ByteArray), ([] : List (S66)), ([] : List (S74)), ([] : List (S28))⟩ : S62), (⟨(⟨#[100]⟩ : ByteArray), ([] : List (S66)), ([] : List (S74)), ([] : List (S28))⟩ : S62)] : List (S62)) : List (S62))).bind fun y101 => ((eZ.f k y101).bind fun bH => (if bH = true then (if y101.length < 1599289640401 then ((eZ.f k (y101 ++ [(⟨(⟨#[101]⟩ : ByteArray), ([] : List (S66)), ([] : List (S74)), ([] : List (S28))⟩ : S62)])).bind fun jw => (if jw = true then (some false) else ((bI.f k ([] : List (S45))).bind fun t109 => (some t109)))) else (none)) else (some false)))) = some r := h
 clear h
 obtain ⟨y101, hy101⟩ : ∃ y_ : List (S62), y_ = (([(⟨(⟨#[97]⟩ : ByteArray), ([] : List (S66)), ([] : List (S74)), ([] : List (S28))⟩ : S62), (⟨(⟨#[98]⟩ : ByteArray), ([] : List (S66)), ([] : List (S74)), ([] : List (S28))⟩ : S62), (⟨(⟨#[99]⟩ : ByteArray), ([] : List (S66)), ([] : List (S74)), ([] : List (S28))⟩ : S62), (⟨(⟨#[100]⟩ : ByteArray), ([] : List (S66)), ([] : List (S74)), ([] : List (S28))⟩ : S62)] : List (S62))) := ⟨_, rfl⟩
 replace H : ((eZ.f k y101).bind fun bH => (if bH = true then (if y101.length < 1599289640401 then ((eZ.f k (y101 ++ [(⟨(⟨#[101]⟩ : ByteArray), ([] : List (S66)), ([] : List (S74)), ([] : List (S28))⟩ : S62)])).bind fun jw => (if jw = true then (some false) else ((bI.f k ([] : List (S45))).bind fun t109 => (some t109)))) else (none)) else (some false))) = some r := by first | (rw [hy101]; with_reducible exact H) | (have H2_ := (Option.bind_some _ _).symm.trans H; rw [hy101]; with_reducible exact H2_) | (have H2_ := (Option.bind_some _ _).symm.trans H; with_reducible exact H2_) | with_reducible exact H | (rw [hy101]; exact H) | exact H
 have Ny101 := ae.mk hy101
 clear hy101
 replace H := Option.bind_eq_some_iff.mp H
 obtain ⟨bH, A10, H⟩ := H
 replace H : (if bH = true then (if y101.length < 1599289640401 then ((eZ.f k (y101 ++ [(⟨(⟨#[101]⟩ : ByteArray), ([] : List (S66)), ([] : List (S74)), ([] : List (S28))⟩ : S62)])).bind fun jw => (if jw = true then (some false) else ((bI.f k ([] : List (S45))).bind fun t109 => (some t109)))) else (none)) else (some false)) = some r := H
 have A1 := ae.mk A10
 clear A10
 by_cases c2 : bH = true
 ·subst c2
  have H1 : (if y101.length < 1599289640401 then ((eZ.f k (y101 ++ [(⟨(⟨#[101]⟩ : ByteArray), ([] : List (S66)), ([] : List (S74)), ([] : List (S28))⟩ : S62)])).bind fun jw => (if jw = true then (some false) else ((bI.f k ([] : List (S45))).bind fun t109 => (some t109)))) else (none)) = some r := by rw [if_pos rfl] at H; exact H
  clear H
  have H := H1
  clear H1
  by_cases c3 : y101.length < 1599289640401
  ·rw [if_pos c3] at H
   have LMc3 := ae.mk c3
   clear c3
   obtain ⟨y105, hy105⟩ : ∃ y_ : List (S62), y_ = (y101 ++ [(⟨(⟨#[101]⟩ : ByteArray), ([] : List (S66)), ([] : List (S74)), ([] : List (S28))⟩ : S62)]) := ⟨_, rfl⟩
   replace H : ((eZ.f k y105).bind fun jw => (if jw = true then (some false) else ((bI.f k ([] : List (S45))).bind fun t109 => (some t109)))) = some r := by first | (rw [hy105]; with_reducible exact H) | (have H2_ := (Option.bind_some _ _).symm.trans H; rw [hy105]; with_reducible exact H2_) | (have H2_ := (Option.bind_some _ _).symm.trans H; with_reducible exact H2_) | with_reducible exact H | (rw [hy105]; exact H) | exact H
   have Ny105 := ae.mk hy105
   clear hy105
   replace H := Option.bind_eq_some_iff.mp H
   obtain ⟨jw, A40, H⟩ := H
   replace H : (if jw = true then (some false) else ((bI.f k ([] : List (S45))).bind fun t109 => (some t109))) = some r := H
   have A4 := ae.mk A40
   clear A40
   by_cases c5 : jw = true
   ·subst c5
    have H1 : (some false) = some r := by rw [if_pos rfl] at H; exact H
    clear H
    have H := H1
    clear H1
    obtain rfl := Option.some.inj H
    go_enter Tryz.func20, Tryz.ntmps20
    go_wp2_with (first | ((with_reducible refine bg (N := 6) rfl ?_); (try (refine eY (by rfl) ?_; dsimp only)); refine Kd.jm k62 _ 62 ?hg (N := 6) ?hd (xs := ([(⟨(⟨#[97]⟩ : ByteArray), ([] : List (S66)), ([] : List (S74)), ([] : List (S28))⟩ : S62), (⟨(⟨#[98]⟩ : ByteArray), ([] : List (S66)), ([] : List (S74)), ([] : List (S28))⟩ : S62), (⟨(⟨#[99]⟩ : ByteArray), ([] : List (S66)), ([] : List (S74)), ([] : List (S28))⟩ : S62), (⟨(⟨#[100]⟩ : ByteArray), ([] : List (S66)), ([] : List (S74)), ([] : List (S28))⟩ : S62)] : List (S62))) (inner := [.string (⟨#[97]⟩ : ByteArray), .slice none 0 0, .slice none 0 0, .slice none 0 0, .string (⟨#[98]⟩ : ByteArray), .slice none 0 0, .slice none 0 0, .slice none 0 0, .string (⟨#[99]⟩ : ByteArray), .slice none 0 0, .slice none 0 0, .slice none 0 0, .string (⟨#[100]⟩ : ByteArray), .slice none 0 0, .slice none 0 0, .slice none 0 0]) (ok := fun _ => True) (okp := fun _ => True) ?hr ?hp (fun _ hk => hk) trivial (Below.refl _ _) (Nat.le_refl _) (by simp) ?_; (case hd => rfl); (case hg => rfl); (case hr => first | (go_simp; done) | (go_simp; rfl)); (case hp => exact (cu.c4 (show Kd.M k62 _ _ _ (⟨(⟨#[97]⟩ : ByteArray), ([] : List (S66)), ([] : List (S74)), ([] : List (S28))⟩ : S62) [.string (⟨#[97]⟩ : ByteArray), .slice none 0 0, .slice none 0 0, .slice none 0 0] from (jc _ _ _ (⟨(⟨#[97]⟩ : ByteArray), ([] : List (S66)), ([] : List (S74)), ([] : List (S28))⟩ : S62) (Kd.gm _ _ _ _ _) (Kd.gm _ _ _ _ _) (Kd.gm _ _ _ _ _))) (cu.c4 (show Kd.M k62 _ _ _ (⟨(⟨#[98]⟩ : ByteArray), ([] : List (S66)), ([] : List (S74)), ([] : List (S28))⟩ : S62) [.string (⟨#[98]⟩ : ByteArray), .slice none 0 0, .slice none 0 0, .slice none 0 0] from (jc _ _ _ (⟨(⟨#[98]⟩ : ByteArray), ([] : List (S66)), ([] : List (S74)), ([] : List (S28))⟩ : S62) (Kd.gm _ _ _ _ _) (Kd.gm _ _ _ _ _) (Kd.gm _ _ _ _ _))) (cu.c4 (show Kd.M k62 _ _ _ (⟨(⟨#[99]⟩ : ByteArray), ([] : List (S66)), ([] : List (S74)), ([] : List (S28))⟩ : S62) [.string (⟨#[99]⟩ : ByteArray), .slice none 0 0, .slice none 0 0, .slice none 0 0] from (jc _ _ _ (⟨(⟨#[99]⟩ : ByteArray), ([] : List (S66)), ([] : List (S74)), ([] : List (S28))⟩ : S62) (Kd.gm _ _ _ _ _) (Kd.gm _ _ _ _ _) (Kd.gm _ _ _ _ _))) (cu.c4 (show Kd.M k62 _ _ _ (⟨(⟨#[100]⟩ : ByteArray), ([] : List (S66)), ([] : List (S74)), ([] : List (S28))⟩ : S62) [.string (⟨#[100]⟩ : ByteArray), .slice none 0 0, .slice none 0 0, .slice none 0 0] from (jc _ _ _ (⟨(⟨#[100]⟩ : ByteArray), ([] : List (S66)), ([] : List (S74)), ([] : List (S28))⟩ : S62) (Kd.gm _ _ _ _ _) (Kd.gm _ _ _ _ _) (Kd.gm _ _ _ _ _))) (cu.none _ _)))))); intro v102 w6 ho7 hb hg_ hnew_; clear hg_ hnew_; (first | rw [← Ny101.out] at ho7 | (simp only [Int.reduceToNat] at ho7; rw [← Ny101.out] at ho7)); have eX := ae.mk (Kd.dI ho7 (bi (qw HB))); replace HB := ae.mk (aj (qw HB) hb); clear hb ho7; obtain ⟨Ao8, co8, eo8⟩ := Kd.dM eX.out; subst eo8) | ((with_reducible refine aH (f := 15) rfl ?_); refine bN (some 8) rfl rfl Tryz.func15 (by kernel_rfl) rfl #[.slice Ao8 y101.length co8] rfl qt ?_; (with_reducible refine (eZ.calls k _ _ y101 true _ ?aX ?aY A1.out ?gt).mono ?_); (case gt => exact Go.Proofs.YteidaijpaijgpaaGreatDoorV.GT.below HGT (qw HB)); (case aX => exact qs ((Kd.aV eX.out).2.2)); (case aY => exact (Kd.aV eX.out).2.1); rintro e w9 ⟨rfl, hb⟩; refine ⟨_, rfl, ?_⟩; replace eX := ae.mk (Kd.bD (qr eX) hb); replace HB := ae.mk (aj (qw HB) hb); (try clear hb); (try clear hb2); (try clear hk); (try clear hi)) | ((with_reducible refine gG (b := .append) (xs := #[.tmp 10, .tmp 12]) rfl ?_); (try (refine eY (by rfl) ?_; dsimp only)); at_builtin; refine Kd.ll k62 (w0 := w) w.heap.size rfl (.tmp 10) (.tmp 12) 22 62 (.agg #[(.string ⟨#[]⟩), (.slice none 0 0), (.slice none 0 0), (.slice none 0 0)]) 88 rfl Tryz.underlying22 wh rfl (by decide) (by omega) (.slice Ao8 y101.length co8) y101 (⟨(⟨#[101]⟩ : ByteArray), ([] : List (S66)), ([] : List (S74)), ([] : List (S28))⟩ : S62) [.string (⟨#[101]⟩ : ByteArray), .slice none 0 0, .slice none 0 0, .slice none 0 0] (fun _ => True) (fun k_ => ((fun _ => True)) k_ ∧ some k_ ≠ (.slice Ao8 y101.length co8 : Value).ownBlock) rfl rfl ?aP (fun _ hk => hk) ?aF ?aO ?aB ?aS ?aL ?_; (case aP => exact jc _ _ _ (⟨(⟨#[101]⟩ : ByteArray), ([] : List (S66)), ([] : List (S74)), ([] : List (S28))⟩ : S62) (Kd.gm _ _ _ _ _) (Kd.gm _ _ _ _ _) (Kd.gm _ _ _ _ _)); (case aB => exact (qw HB)); (case aF => exact (fun _ _ => trivial)); (case aO => exact (qr eX)); (case aS => exact (bi (qw HB))); (case aL => have := LMc3.out; omega); intro v106 w10 ho hb hg hat; rw [← Ny105.out] at ho; replace HB := ae.mk (hb); have jJ := ae.mk (ho); clear eX; clear ho hb hg hat; obtain ⟨yw, yx, vz⟩ := Kd.dM jJ.out; subst vz) | (go_at_call 15; (with_reducible refine (eZ.calls k _ _ y105 true _ ?aX ?aY A4.out ?gt).mono ?_); (case gt => exact Go.Proofs.YteidaijpaijgpaaGreatDoorV.GT.below HGT (qw HB)); (case aX => exact qs ((Kd.aV jJ.out).2.2)); (case aY => exact (Kd.aV jJ.out).2.1); rintro e w12 ⟨rfl, hb⟩; replace jJ := ae.mk (Kd.bD (qr jJ) hb); replace HB := ae.mk (aj (qw HB) hb); (try clear hb); (try clear hb2); (try clear hk); (try clear hi)))
    go_ret
    exact ⟨by first | rfl | (simp [errW_none, errW_some] <;> rfl) | (simp [*, errW_none, errW_some] <;> rfl), by repeat (first | (with_reducible first | exact HB.out | apply au | apply ai | apply ak) | exact HB.out)⟩
   ·replace c5 := Bool.eq_false_iff.mpr c5
    subst c5
    have H1 : ((bI.f k ([] : List (S45))).bind fun t109 => (some t109)) = some r := by rw [if_neg (show ¬ (false = true) by decide)] at H; exact H
    clear H
    have H := H1
    clear H1
    replace H := Option.bind_eq_some_iff.mp H
    obtain ⟨t109, A130, H⟩ := H
    replace H : (some t109) = some r := H
    have A13 := ae.mk A130
    clear A130
    obtain rfl := Option.some.inj H
    go_enter Tryz.func20, Tryz.ntmps20
    go_wp2_with (first | ((with_reducible refine bg (N := 6) rfl ?_); (try (refine eY (by rfl) ?_; dsimp only)); refine Kd.jm k62 _ 62 ?hg (N := 6) ?hd (xs := ([(⟨(⟨#[97]⟩ : ByteArray), ([] : List (S66)), ([] : List (S74)), ([] : List (S28))⟩ : S62), (⟨(⟨#[98]⟩ : ByteArray), ([] : List (S66)), ([] : List (S74)), ([] : List (S28))⟩ : S62), (⟨(⟨#[99]⟩ : ByteArray), ([] : List (S66)), ([] : List (S74)), ([] : List (S28))⟩ : S62), (⟨(⟨#[100]⟩ : ByteArray), ([] : List (S66)), ([] : List (S74)), ([] : List (S28))⟩ : S62)] : List (S62))) (inner := [.string (⟨#[97]⟩ : ByteArray), .slice none 0 0, .slice none 0 0, .slice none 0 0, .string (⟨#[98]⟩ : ByteArray), .slice none 0 0, .slice none 0 0, .slice none 0 0, .string (⟨#[99]⟩ : ByteArray), .slice none 0 0, .slice none 0 0, .slice none 0 0, .string (⟨#[100]⟩ : ByteArray), .slice none 0 0, .slice none 0 0, .slice none 0 0]) (ok := fun _ => True) (okp := fun _ => True) ?hr ?hp (fun _ hk => hk) trivial (Below.refl _ _) (Nat.le_refl _) (by simp) ?_; (case hd => rfl); (case hg => rfl); (case hr => first | (go_simp; done) | (go_simp; rfl)); (case hp => exact (cu.c4 (show Kd.M k62 _ _ _ (⟨(⟨#[97]⟩ : ByteArray), ([] : List (S66)), ([] : List (S74)), ([] : List (S28))⟩ : S62) [.string (⟨#[97]⟩ : ByteArray), .slice none 0 0, .slice none 0 0, .slice none 0 0] from (jc _ _ _ (⟨(⟨#[97]⟩ : ByteArray), ([] : List (S66)), ([] : List (S74)), ([] : List (S28))⟩ : S62) (Kd.gm _ _ _ _ _) (Kd.gm _ _ _ _ _) (Kd.gm _ _ _ _ _))) (cu.c4 (show Kd.M k62 _ _ _ (⟨(⟨#[98]⟩ : ByteArray), ([] : List (S66)), ([] : List (S74)), ([] : List (S28))⟩ : S62) [.string (⟨#[98]⟩ : ByteArray), .slice none 0 0, .slice none 0 0, .slice none 0 0] from (jc _ _ _ (⟨(⟨#[98]⟩ : ByteArray), ([] : List (S66)), ([] : List (S74)), ([] : List (S28))⟩ : S62) (Kd.gm _ _ _ _ _) (Kd.gm _ _ _ _ _) (Kd.gm _ _ _ _ _))) (cu.c4 (show Kd.M k62 _ _ _ (⟨(⟨#[99]⟩ : ByteArray), ([] : List (S66)), ([] : List (S74)), ([] : List (S28))⟩ : S62) [.string (⟨#[99]⟩ : ByteArray), .slice none 0 0, .slice none 0 0, .slice none 0 0] from (jc _ _ _ (⟨(⟨#[99]⟩ : ByteArray), ([] : List (S66)), ([] : List (S74)), ([] : List (S28))⟩ : S62) (Kd.gm _ _ _ _ _) (Kd.gm _ _ _ _ _) (Kd.gm _ _ _ _ _))) (cu.c4 (show Kd.M k62 _ _ _ (⟨(⟨#[100]⟩ : ByteArray), ([] : List (S66)), ([] : List (S74)), ([] : List (S28))⟩ : S62) [.string (⟨#[100]⟩ : ByteArray), .slice none 0 0, .slice none 0 0, .slice none 0 0] from (jc _ _ _ (⟨(⟨#[100]⟩ : ByteArray), ([] : List (S66)), ([] : List (S74)), ([] : List (S28))⟩ : S62) (Kd.gm _ _ _ _ _) (Kd.gm _ _ _ _ _) (Kd.gm _ _ _ _ _))) (cu.none _ _)))))); intro v102 w14 xC hb hg_ hnew_; clear hg_ hnew_; (first | rw [← Ny101.out] at xC | (simp only [Int.reduceToNat] at xC; rw [← Ny101.out] at xC)); have eX := ae.mk (Kd.dI xC (bi (qw HB))); replace HB := ae.mk (aj (qw HB) hb); clear hb xC; obtain ⟨vv, vw, xm⟩ := Kd.dM eX.out; subst xm) | ((with_reducible refine aH (f := 15) rfl ?_); refine bN (some 8) rfl rfl Tryz.func15 (by kernel_rfl) rfl #[.slice vv y101.length vw] rfl qt ?_; (with_reducible refine (eZ.calls k _ _ y101 true _ ?aX ?aY A1.out ?gt).mono ?_); (case gt => exact Go.Proofs.YteidaijpaijgpaaGreatDoorV.GT.below HGT (qw HB)); (case aX => exact qs ((Kd.aV eX.out).2.2)); (case aY => exact (Kd.aV eX.out).2.1); rintro e w17 ⟨rfl, hb⟩; refine ⟨_, rfl, ?_⟩; replace eX := ae.mk (Kd.bD (qr eX) hb); replace HB := ae.mk (aj (qw HB) hb); (try clear hb); (try clear hb2); (try clear hk); (try clear hi)) | ((with_reducible refine gG (b := .append) (xs := #[.tmp 10, .tmp 12]) rfl ?_); (try (refine eY (by rfl) ?_; dsimp only)); at_builtin; refine Kd.ll k62 (w0 := w) w.heap.size rfl (.tmp 10) (.tmp 12) 22 62 (.agg #[(.string ⟨#[]⟩), (.slice none 0 0), (.slice none 0 0), (.slice none 0 0)]) 88 rfl Tryz.underlying22 wh rfl (by decide) (by omega) (.slice vv y101.length vw) y101 (⟨(⟨#[101]⟩ : ByteArray), ([] : List (S66)), ([] : List (S74)), ([] : List (S28))⟩ : S62) [.string (⟨#[101]⟩ : ByteArray), .slice none 0 0, .slice none 0 0, .slice none 0 0] (fun _ => True) (fun k_ => ((fun _ => True)) k_ ∧ some k_ ≠ (.slice vv y101.length vw : Value).ownBlock) rfl rfl ?aP (fun _ hk => hk) ?aF ?aO ?aB ?aS ?aL ?_; (case aP => exact jc _ _ _ (⟨(⟨#[101]⟩ : ByteArray), ([] : List (S66)), ([] : List (S74)), ([] : List (S28))⟩ : S62) (Kd.gm _ _ _ _ _) (Kd.gm _ _ _ _ _) (Kd.gm _ _ _ _ _)); (case aB => exact (qw HB)); (case aF => exact (fun _ _ => trivial)); (case aO => exact (qr eX)); (case aS => exact (bi (qw HB))); (case aL => have := LMc3.out; omega); intro v106 w18 ho hb hg hat; rw [← Ny105.out] at ho; replace HB := ae.mk (hb); have jJ := ae.mk (ho); clear eX; clear ho hb hg hat; obtain ⟨zC, zD, yF⟩ := Kd.dM jJ.out; subst yF) | (go_at_call 15; (with_reducible refine (eZ.calls k _ _ y105 false _ ?aX ?aY A4.out ?gt).mono ?_); (case gt => exact Go.Proofs.YteidaijpaijgpaaGreatDoorV.GT.below HGT (qw HB)); (case aX => exact qs ((Kd.aV jJ.out).2.2)); (case aY => exact (Kd.aV jJ.out).2.1); rintro e w20 ⟨rfl, hb⟩; replace jJ := ae.mk (Kd.bD (qr jJ) hb); replace HB := ae.mk (aj (qw HB) hb); (try clear hb); (try clear hb2); (try clear hk); (try clear hi)) | (go_at_call 22; (refine (bI.calls k _ _ ([] : List (S45)) t109 _ ?aX ?aY A13.out ?gt).mono ?_); (case gt => exact Go.Proofs.YteidaijpaijgpaaGreatDoorV.GT.below HGT (qw HB)); (case aX => exact Kd.zK _ _); (case aY => exact Nat.le_refl _); rintro e w21 ⟨rfl, hb⟩; replace jJ := ae.mk (Kd.bD (qr jJ) hb); replace HB := ae.mk (aj (qw HB) hb); (try clear hb); (try clear hb2); (try clear hk); (try clear hi)))
    go_ret
    exact ⟨by first | rfl | (simp [errW_none, errW_some] <;> rfl) | (simp [*, errW_none, errW_some] <;> rfl), by repeat (first | (with_reducible first | exact HB.out | apply au | apply ai | apply ak) | exact HB.out)⟩
  ·rw [if_neg c3] at H
   exact absurd H (by simp)
 ·replace c2 := Bool.eq_false_iff.mpr c2
  subst c2
  have H1 : (some false) = some r := by rw [if_neg (show ¬ (false = true) by decide)] at H; exact H
  clear H
  have H := H1
  clear H1
  obtain rfl := Option.some.inj H
  go_enter Tryz.func20, Tryz.ntmps20
  go_wp2_with (first | ((with_reducible refine bg (N := 6) rfl ?_); (try (refine eY (by rfl) ?_; dsimp only)); refine Kd.jm k62 _ 62 ?hg (N := 6) ?hd (xs := ([(⟨(⟨#[97]⟩ : ByteArray), ([] : List (S66)), ([] : List (S74)), ([] : List (S28))⟩ : S62), (⟨(⟨#[98]⟩ : ByteArray), ([] : List (S66)), ([] : List (S74)), ([] : List (S28))⟩ : S62), (⟨(⟨#[99]⟩ : ByteArray), ([] : List (S66)), ([] : List (S74)), ([] : List (S28))⟩ : S62), (⟨(⟨#[100]⟩ : ByteArray), ([] : List (S66)), ([] : List (S74)), ([] : List (S28))⟩ : S62)] : List (S62))) (inner := [.string (⟨#[97]⟩ : ByteArray), .slice none 0 0, .slice none 0 0, .slice none 0 0, .string (⟨#[98]⟩ : ByteArray), .slice none 0 0, .slice none 0 0, .slice none 0 0, .string (⟨#[99]⟩ : ByteArray), .slice none 0 0, .slice none 0 0, .slice none 0 0, .string (⟨#[100]⟩ : ByteArray), .slice none 0 0, .slice none 0 0, .slice none 0 0]) (ok := fun _ => True) (okp := fun _ => True) ?hr ?hp (fun _ hk => hk) trivial (Below.refl _ _) (Nat.le_refl _) (by simp) ?_; (case hd => rfl); (case hg => rfl); (case hr => first | (go_simp; done) | (go_simp; rfl)); (case hp => exact (cu.c4 (show Kd.M k62 _ _ _ (⟨(⟨#[97]⟩ : ByteArray), ([] : List (S66)), ([] : List (S74)), ([] : List (S28))⟩ : S62) [.string (⟨#[97]⟩ : ByteArray), .slice none 0 0, .slice none 0 0, .slice none 0 0] from (jc _ _ _ (⟨(⟨#[97]⟩ : ByteArray), ([] : List (S66)), ([] : List (S74)), ([] : List (S28))⟩ : S62) (Kd.gm _ _ _ _ _) (Kd.gm _ _ _ _ _) (Kd.gm _ _ _ _ _))) (cu.c4 (show Kd.M k62 _ _ _ (⟨(⟨#[98]⟩ : ByteArray), ([] : List (S66)), ([] : List (S74)), ([] : List (S28))⟩ : S62) [.string (⟨#[98]⟩ : ByteArray), .slice none 0 0, .slice none 0 0, .slice none 0 0] from (jc _ _ _ (⟨(⟨#[98]⟩ : ByteArray), ([] : List (S66)), ([] : List (S74)), ([] : List (S28))⟩ : S62) (Kd.gm _ _ _ _ _) (Kd.gm _ _ _ _ _) (Kd.gm _ _ _ _ _))) (cu.c4 (show Kd.M k62 _ _ _ (⟨(⟨#[99]⟩ : ByteArray), ([] : List (S66)), ([] : List (S74)), ([] : List (S28))⟩ : S62) [.string (⟨#[99]⟩ : ByteArray), .slice none 0 0, .slice none 0 0, .slice none 0 0] from (jc _ _ _ (⟨(⟨#[99]⟩ : ByteArray), ([] : List (S66)), ([] : List (S74)), ([] : List (S28))⟩ : S62) (Kd.gm _ _ _ _ _) (Kd.gm _ _ _ _ _) (Kd.gm _ _ _ _ _))) (cu.c4 (show Kd.M k62 _ _ _ (⟨(⟨#[100]⟩ : ByteArray), ([] : List (S66)), ([] : List (S74)), ([] : List (S28))⟩ : S62) [.string (⟨#[100]⟩ : ByteArray), .slice none 0 0, .slice none 0 0, .slice none 0 0] from (jc _ _ _ (⟨(⟨#[100]⟩ : ByteArray), ([] : List (S66)), ([] : List (S74)), ([] : List (S28))⟩ : S62) (Kd.gm _ _ _ _ _) (Kd.gm _ _ _ _ _) (Kd.gm _ _ _ _ _))) (cu.none _ _)))))); intro v102 w22 xD hb hg_ hnew_; clear hg_ hnew_; (first | rw [← Ny101.out] at xD | (simp only [Int.reduceToNat] at xD; rw [← Ny101.out] at xD)); have eX := ae.mk (Kd.dI xD (bi (qw HB))); replace HB := ae.mk (aj (qw HB) hb); clear hb xD; obtain ⟨Cw, Cx, Cy⟩ := Kd.dM eX.out; subst Cy) | ((with_reducible refine aH (f := 15) rfl ?_); refine bN (some 8) rfl rfl Tryz.func15 (by kernel_rfl) rfl #[.slice Cw y101.length Cx] rfl qt ?_; (with_reducible refine (eZ.calls k _ _ y101 false _ ?aX ?aY A1.out ?gt).mono ?_); (case gt => exact Go.Proofs.YteidaijpaijgpaaGreatDoorV.GT.below HGT (qw HB)); (case aX => exact qs ((Kd.aV eX.out).2.2)); (case aY => exact (Kd.aV eX.out).2.1); rintro e w25 ⟨rfl, hb⟩; refine ⟨_, rfl, ?_⟩; replace eX := ae.mk (Kd.bD (qr eX) hb); replace HB := ae.mk (aj (qw HB) hb); (try clear hb); (try clear hb2); (try clear hk); (try clear hi)))
  go_ret
  exact ⟨by first | rfl | (simp [errW_none, errW_some] <;> rfl) | (simp [*, errW_none, errW_some] <;> rfl), by repeat (first | (with_reducible first | exact HB.out | apply au | apply ai | apply ak) | exact HB.out)⟩
end Go.Proofs.YteidaijpaijgpaaGreatDoor.P
end
section
namespace Go.Proofs.YteidaijpaijgpaaGreatDoor.P
open Go.RowKit Go.Proofs.YteidaijpaijgpaaGreatDoorW.ay Go.Proofs.YteidaijpaijgpaaGreatDoorW.aQ Go.Proofs.YteidaijpaijgpaaGreatDoorW.aZ
attribute [local go_sem] bz bA bP bQ bq bu bB bC
set_option linter.unusedVariables false
set_option linter.unusedSimpArgs false
def aU.l0 : Nat → List (S45) → Int → Option (Bool)
 | 0, _, _ => none
 | k + 1, x0, x3 => if x3 < (x0.length : Int) then (if 0 ≤ x3 then (if ((aI x0 x3).f6) > 64 then (some false) else (aU.l0 k x0 (wrap64 (x3 + 1)))) else (none)) else (if (x0.length : Int) ≤ 32 then ((bX.f k x0).bind fun aJ => (some (decide ((aJ.size : Int) ≤ 8192)))) else (some false))
def aU.f (k : Nat) (l0 : List (S45)) : Option (Bool) := aU.l0 k l0 0
set_option maxHeartbeats 8000000 in
set_option maxRecDepth 100000 in
theorem aU.calls (k : Nat) (A0 : Option Addr) (c0 : Nat) (l0 : List (S45)) (r : Bool) (w : World) (hr0 : Kd.C k45 w A0 l0.length l0) (hc0 : l0.length ≤ c0) (h : aU.f k l0 = some r) :
  Calls Tryz.prog 23 #[.slice A0 l0.length c0] w fun e w' => e = .returned (.bool r) ∧ Below w.heap.size w w' := by
 have HR0 := ae.mk hr0
 have HC0 := ae.mk hc0
 clear hr0 hc0
 have HB := ae.mk (Below.refl w.heap.size w)
 have H : (aU.l0 k l0 0) = some r := h
 clear h
 have H' := ae.mk H
 clear H
 go_enter Tryz.func23, Tryz.ntmps23
 go_wp2
 go_loopg [3] k (fun kq v3 w' => ∃ (fu : Int), v3 = .int .i64 fu ∧ ae (aU.l0 kq l0 fu = some r) ∧ ae (kq ≤ k) ∧ ae (Below w.heap.size w w'))
 case atStart => exact ⟨(0), (by first | rfl | (simp; done) | (simp [*]; done)), H', ⟨Nat.le_refl _⟩, ⟨by repeat (first | (with_reducible first | exact HB.out | apply au | apply ai | apply ak) | exact HB.out)⟩⟩
 case round =>
  clear H'
  obtain ⟨fu, rfl, HA, HK1, HB⟩ := hrel
  cases gk with
  | zero => exact absurd HA.out (by simp [aU.l0])
  | succ k1 =>
   have H := HA.out
   clear HA
   simp only [aU.l0] at H
   by_cases c2 : fu < (l0.length : Int)
   ·rw [if_pos c2] at H
    have jF : decide (fu < (l0.length : Int)) = true := decide_eq_true c2
    clear c2
    by_cases c3 : 0 ≤ fu
    ·rw [if_pos c3] at H
     have gN : decide (0 ≤ fu) = true := decide_eq_true c3
     clear c3
     by_cases c4 : ((aI l0 fu).f6) > 64
     ·rw [if_pos c4] at H
      have iQ : decide (64 < ((aI l0 fu).f6)) = true := decide_eq_true c4
      clear c4
      obtain rfl := Option.some.inj H
      have p101 : 0 ≤ (fu : Int) := of_decide_eq_true qa
      have q101 : fu < (l0.length : Int) := of_decide_eq_true qa
      obtain ⟨ad101, e101, hx101_0, hx101_1, hx101_2, hx101_3, hx101_4, hx101_5, hx101_6, hx101_7⟩ := ma HR0.out fu p101 q101
      cases e101
      replace hx101_0 := (HB.out.cell (World.block_lt_of_cell? w _ hx101_0)).trans hx101_0
      replace hx101_1 := (HB.out.cell (World.block_lt_of_cell? w _ hx101_1)).trans hx101_1
      replace hx101_2 := (HB.out.cell (World.block_lt_of_cell? w _ hx101_2)).trans hx101_2
      replace hx101_3 := (HB.out.cell (World.block_lt_of_cell? w _ hx101_3)).trans hx101_3
      replace hx101_4 := (HB.out.cell (World.block_lt_of_cell? w _ hx101_4)).trans hx101_4
      replace hx101_5 := (HB.out.cell (World.block_lt_of_cell? w _ hx101_5)).trans hx101_5
      replace hx101_6 := (HB.out.cell (World.block_lt_of_cell? w _ hx101_6)).trans hx101_6
      replace hx101_7 := (HB.out.cell (World.block_lt_of_cell? w _ hx101_7)).trans hx101_7
      replace p101 := eq_true p101
      replace q101 := eq_true q101
      go_wp2
      go_ret
      exact ⟨by first | rfl | (simp [errW_none, errW_some] <;> rfl) | (simp [*, errW_none, errW_some] <;> rfl), by repeat (first | (with_reducible first | exact HB.out | apply au | apply ai | apply ak) | exact HB.out)⟩
     ·rw [if_neg c4] at H
      have iQ : decide (64 < ((aI l0 fu).f6)) = false := decide_eq_false c4
      clear c4
      have H' := ae.mk H
      clear H
      have p101 : 0 ≤ (fu : Int) := of_decide_eq_true qa
      have q101 : fu < (l0.length : Int) := of_decide_eq_true qa
      obtain ⟨ad101, e101, hx101_0, hx101_1, hx101_2, hx101_3, hx101_4, hx101_5, hx101_6, hx101_7⟩ := ma HR0.out fu p101 q101
      cases e101
      replace hx101_0 := (HB.out.cell (World.block_lt_of_cell? w _ hx101_0)).trans hx101_0
      replace hx101_1 := (HB.out.cell (World.block_lt_of_cell? w _ hx101_1)).trans hx101_1
      replace hx101_2 := (HB.out.cell (World.block_lt_of_cell? w _ hx101_2)).trans hx101_2
      replace hx101_3 := (HB.out.cell (World.block_lt_of_cell? w _ hx101_3)).trans hx101_3
      replace hx101_4 := (HB.out.cell (World.block_lt_of_cell? w _ hx101_4)).trans hx101_4
      replace hx101_5 := (HB.out.cell (World.block_lt_of_cell? w _ hx101_5)).trans hx101_5
      replace hx101_6 := (HB.out.cell (World.block_lt_of_cell? w _ hx101_6)).trans hx101_6
      replace hx101_7 := (HB.out.cell (World.block_lt_of_cell? w _ hx101_7)).trans hx101_7
      replace p101 := eq_true p101
      replace q101 := eq_true q101
      go_wp2
      go_roundg k1
      case measure => have := HK1.out; omega
      case rel => exact ⟨(wrap64 (fu + 1)), (by first | rfl | (simp; done) | (simp [*]; done)), H', ⟨by have := HK1.out; omega⟩, ⟨by repeat (first | (with_reducible first | exact HB.out | apply au | apply ai | apply ak) | exact HB.out)⟩⟩
    ·rw [if_neg c3] at H
     exact absurd H (by simp)
   ·rw [if_neg c2] at H
    have jF : decide (fu < (l0.length : Int)) = false := decide_eq_false c2
    clear c2
    by_cases c5 : (l0.length : Int) ≤ 32
    ·rw [if_pos c5] at H
     have jG : decide ((l0.length : Int) ≤ 32) = true := decide_eq_true c5
     have lS : decide (l0.length ≤ 32) = true := decide_eq_true (by omega)
     clear c5
     replace H := Option.bind_eq_some_iff.mp H
     obtain ⟨aJ, A60, H⟩ := H
     replace H : (some (decide ((aJ.size : Int) ≤ 8192))) = some r := H
     have A6 := ae.mk A60
     clear A60
     obtain rfl := Option.some.inj H
     go_wp2_with (first | (go_at_call 44; (with_reducible refine (bX.calls k1 _ _ l0 aJ _ ?aX ?aY A6.out).mono ?_); (case aX => exact qs ((Kd.dC HR0.out HB.out))); (case aY => exact HC0.out); rintro e w7 ⟨rfl, hb⟩; replace HB := ae.mk (aj (qw HB) hb); (try clear hb); (try clear hb2); (try clear hk); (try clear hi)))
     go_ret
     exact ⟨by first | rfl | (simp [errW_none, errW_some] <;> rfl) | (simp [*, errW_none, errW_some] <;> rfl), by repeat (first | (with_reducible first | exact HB.out | apply au | apply ai | apply ak) | exact HB.out)⟩
    ·rw [if_neg c5] at H
     have jG : decide ((l0.length : Int) ≤ 32) = false := decide_eq_false c5
     have lS : decide (l0.length ≤ 32) = false := decide_eq_false (by omega)
     clear c5
     obtain rfl := Option.some.inj H
     go_wp2
     go_ret
     exact ⟨by first | rfl | (simp [errW_none, errW_some] <;> rfl) | (simp [*, errW_none, errW_some] <;> rfl), by repeat (first | (with_reducible first | exact HB.out | apply au | apply ai | apply ak) | exact HB.out)⟩
end Go.Proofs.YteidaijpaijgpaaGreatDoor.P
end
section
namespace Go.Proofs.YteidaijpaijgpaaGreatDoor.P
open Go.RowKit Go.Proofs.YteidaijpaijgpaaGreatDoorW.ay Go.Proofs.YteidaijpaijgpaaGreatDoorW.aQ Go.Proofs.YteidaijpaijgpaaGreatDoorW.aZ
attribute [local go_sem] bz bA bP bQ bq bu bB bC
set_option linter.unusedVariables false
set_option linter.unusedSimpArgs false
mutual
def aG.j1 : Nat → Int → List (S45) → Option (Bool)
 | 0, _, _ => none
 | k + 1, x1, x5 => aG.l1 k x1 x5 0
def aG.l1 : Nat → Int → List (S45) → Int → Option (Bool)
 | 0, _, _, _ => none
 | k + 1, x1, x5, x7 => if x7 < x1 then (if x7 < 40 then (if (x5.length : Int) > 0 then (if 0 < (x5.length : Int) then (if x5.length < 1599289640401 then (aG.l1 k x1 (x5 ++ [(⟨(aI x5 0).f0, (aI x5 0).f1, (aI x5 0).f2, (aI x5 0).f3, (aI x5 0).f4, (⟨(aI x5 0).f5.f0, (aI x5 0).f5.f1⟩ : S25), (aI x5 0).f6⟩ : S45)]) (wrap64 (x7 + 1))) else (none)) else (none)) else ((some (([] : List (S45)) : List (S45))).bind fun y120 => (if y120.length + x5.length < 1599289640401 then ((bI.f k (y120 ++ x5)).bind fun lw => ((aU.f k x5).bind fun t127 => (if (lw == t127) = true then ((bv.f k).bind fun nM => (some nM)) else (some false)))) else (none)))) else ((some (([] : List (S45)) : List (S45))).bind fun y129 => (if y129.length + x5.length < 1599289640401 then ((bI.f k (y129 ++ x5)).bind fun lU => ((aU.f k x5).bind fun lK => (if (lU == lK) = true then ((bv.f k).bind fun oD => (some oD)) else (some false)))) else (none)))) else ((some (([] : List (S45)) : List (S45))).bind fun y138 => (if y138.length + x5.length < 1599289640401 then ((bI.f k (y138 ++ x5)).bind fun lV => ((aU.f k x5).bind fun t145 => (if (lV == t145) = true then ((bv.f k).bind fun t146 => (some t146)) else (some false)))) else (none)))
def aG.l0 : Nat → List (S45) → Int → List (S45) → Int → Option (Bool)
 | 0, _, _, _, _ => none
 | k + 1, x0, x1, x5, x6 => if x6 < (x0.length : Int) then (if x6 < 8 then (if 0 ≤ x6 then ((bK.f ((aI x0 x6).f0) ((aI x0 x6).f1) ((aI x0 x6).f2) ((aI x0 x6).f3) ((aI x0 x6).f4) ((aI x0 x6).f5.f0) ((aI x0 x6).f5.f1) ((aI x0 x6).f6)).bind fun kU => (if x5.length < 1599289640401 then (aG.l0 k x0 x1 (x5 ++ [(⟨kU.1, kU.2.1, kU.2.2.1, kU.2.2.2.1, kU.2.2.2.2.1, (⟨kU.2.2.2.2.2.1, kU.2.2.2.2.2.2.1⟩ : S25), kU.2.2.2.2.2.2.2⟩ : S45)]) (wrap64 (x6 + 1))) else (none))) else (none)) else (aG.j1 k x1 x5)) else (aG.j1 k x1 x5)
end
def aG.f (k : Nat) (l0 : List (S45)) (a1 : Int) : Option (Bool) := aG.l0 k l0 a1 (([] : List (S45))) 0
set_option maxHeartbeats 8000000 in
set_option maxRecDepth 100000 in
theorem aG.calls (k : Nat) (A0 : Option Addr) (c0 : Nat) (l0 : List (S45)) (a1 : Int) (r : Bool) (w : World) (hr0 : Kd.C k45 w A0 l0.length l0) (hc0 : l0.length ≤ c0) (h : aG.f k l0 a1 = some r) (HGT : ae (Go.Proofs.YteidaijpaijgpaaGreatDoorV.GT w)) :
  Calls Tryz.prog 5 #[.slice A0 l0.length c0, .int .i64 a1] w fun e w' => e = .returned (.bool r) ∧ Below w.heap.size w w' := by
 have hu45 := Tryz.underlying45
 have HR0 := ae.mk hr0
 have HC0 := ae.mk hc0
 clear hr0 hc0
 have HB := ae.mk (Below.refl w.heap.size w)
 have H : (aG.l0 k l0 a1 (([] : List (S45))) 0) = some r := h
 clear h
 obtain ⟨y101, hy101⟩ : ∃ y_ : List (S45), y_ = (([] : List (S45))) := ⟨_, rfl⟩
 replace H : (aG.l0 k l0 a1 y101 0) = some r := by first | (rw [hy101]; with_reducible exact H) | (have H2_ := (Option.bind_some _ _).symm.trans H; rw [hy101]; with_reducible exact H2_) | (have H2_ := (Option.bind_some _ _).symm.trans H; with_reducible exact H2_) | with_reducible exact H | (rw [hy101]; exact H) | exact H
 have Ny101 := ae.mk hy101
 clear hy101
 have HC3 := ae.mk H
 clear H
 go_enter Tryz.func5, Tryz.ntmps5
 go_upto_block 0 with (first | ((with_reducible refine bg (N := 8) rfl ?_); (try (refine eY (by rfl) ?_; dsimp only)); refine Kd.jm k45 _ 45 ?hg (N := 8) ?hd (xs := ([] : List (S45))) (inner := []) (ok := fun _ => True) (okp := fun _ => True) ?hr ?hp (fun _ hk => hk) trivial (Below.refl _ _) (Nat.le_refl _) (by simp) ?_; (case hd => rfl); (case hg => rfl); (case hr => first | (go_simp; done) | (go_simp; rfl)); (case hp => exact (cu.none _ _)); intro v102 w4 ho5 hb hg_ hnew_; clear hg_ hnew_; (first | rw [← Ny101.out] at ho5 | (simp only [Int.reduceToNat] at ho5; rw [← Ny101.out] at ho5)); have eX := ae.mk (Kd.dI ho5 (bi (qw HB))); replace HB := ae.mk (aj (qw HB) hb); clear hb ho5))
 (try simp only [Act.put, List.setIfInBounds_toArray, List.set_cons_zero, List.set_cons_succ])
 go_cut [5] (fun v5 wc => ∃ (kq : Nat) (fw : List (S45)), ae (aG.j1 kq a1 fw = some r) ∧ ae (kq ≤ k) ∧ ae (Kd.R k45 45 wc w.heap.size (fun _ => True) v5 fw) ∧ ae (Below w.heap.size w wc))
 case first =>
  have H := HC3.out
  clear HC3
  have H' := ae.mk H
  clear H
  go_wp2
  go_loopg [5, 6] k (fun kq v5 v6 w' => ∃ (cZ : List (S45)) (jq : Int), v6 = .int .i64 jq ∧ ae (aG.l0 kq l0 a1 cZ jq = some r) ∧ ae (kq ≤ k) ∧ ae (Kd.R k45 45 w' w.heap.size (fun _ => True) v5 cZ) ∧ ae (Below w.heap.size w w'))
  case atStart => exact ⟨(y101), (0), (by first | rfl | (simp; done) | (simp [*]; done)), H', ⟨Nat.le_refl _⟩, ⟨by (with_reducible repeat (first | apply Kd.di | apply Kd.dm | apply Kd.dR)); exact eX.out⟩, ⟨by repeat (first | (with_reducible first | exact HB.out | apply au | apply ai | apply ak) | exact HB.out)⟩⟩
  case round =>
   clear H'
   try clear p2
   try clear c5
   obtain ⟨cZ, jq, rfl, HA, HK1, bM, HB⟩ := hrel
   cases gk with
   | zero => exact absurd HA.out (by simp [aG.l0])
   | succ k1 =>
    have H := HA.out
    clear HA
    simp only [aG.l0] at H
    by_cases c6 : jq < (l0.length : Int)
    ·rw [if_pos c6] at H
     have kE : decide (jq < (l0.length : Int)) = true := decide_eq_true c6
     clear c6
     (first | rw [kE] | (simp only [jD, nA]; rw [kE]) | skip)
     by_cases c7 : jq < 8
     ·rw [if_pos c7] at H
      have jg : decide (jq < 8) = true := decide_eq_true c7
      clear c7
      by_cases c8 : 0 ≤ jq
      ·rw [if_pos c8] at H
       have kK : decide (0 ≤ jq) = true := decide_eq_true c8
       clear c8
       replace H := Option.bind_eq_some_iff.mp H
       obtain ⟨⟨t105, bG, t107, jw, t109, gV, ja, jy⟩, A90, H⟩ := H
       replace H : (if cZ.length < 1599289640401 then (aG.l0 k1 l0 a1 (cZ ++ [(⟨t105, bG, t107, jw, t109, (⟨gV, ja⟩ : S25), jy⟩ : S45)]) (wrap64 (jq + 1))) else (none)) = some r := H
       have A9 := ae.mk A90
       clear A90
       by_cases c10 : cZ.length < 1599289640401
       ·rw [if_pos c10] at H
        have LMc10 := ae.mk c10
        clear c10
        obtain ⟨y113, hy113⟩ : ∃ y_ : List (S45), y_ = (cZ ++ [(⟨t105, bG, t107, jw, t109, (⟨gV, ja⟩ : S25), jy⟩ : S45)]) := ⟨_, rfl⟩
        replace H : (aG.l0 k1 l0 a1 y113 (wrap64 (jq + 1))) = some r := by first | (rw [hy113]; with_reducible exact H) | (have H2_ := (Option.bind_some _ _).symm.trans H; rw [hy113]; with_reducible exact H2_) | (have H2_ := (Option.bind_some _ _).symm.trans H; with_reducible exact H2_) | with_reducible exact H | (rw [hy113]; exact H) | exact H
        have Ny113 := ae.mk hy113
        clear hy113
        have H' := ae.mk H
        clear H
        have p104 : 0 ≤ (jq : Int) := of_decide_eq_true qa
        have q104 : jq < (l0.length : Int) := of_decide_eq_true qa
        obtain ⟨ad104, e104, hx104_0, hx104_1, hx104_2, hx104_3, hx104_4, hx104_5, hx104_6, hx104_7⟩ := ma HR0.out jq p104 q104
        cases e104
        replace hx104_0 := (HB.out.cell (World.block_lt_of_cell? w _ hx104_0)).trans hx104_0
        replace hx104_1 := (HB.out.cell (World.block_lt_of_cell? w _ hx104_1)).trans hx104_1
        replace hx104_2 := (HB.out.cell (World.block_lt_of_cell? w _ hx104_2)).trans hx104_2
        replace hx104_3 := (HB.out.cell (World.block_lt_of_cell? w _ hx104_3)).trans hx104_3
        replace hx104_4 := (HB.out.cell (World.block_lt_of_cell? w _ hx104_4)).trans hx104_4
        replace hx104_5 := (HB.out.cell (World.block_lt_of_cell? w _ hx104_5)).trans hx104_5
        replace hx104_6 := (HB.out.cell (World.block_lt_of_cell? w _ hx104_6)).trans hx104_6
        replace hx104_7 := (HB.out.cell (World.block_lt_of_cell? w _ hx104_7)).trans hx104_7
        replace p104 := eq_true p104
        replace q104 := eq_true q104
        go_wp2_with (first | ((with_reducible refine aH (f := 21) rfl ?_); refine bN (some 24) rfl rfl Tryz.func21 (by kernel_rfl) rfl #[.agg #[.int .i64 ((aI l0 jq).f0), .string ((aI l0 jq).f1), .string ((aI l0 jq).f2), .string ((aI l0 jq).f3), .int .u32 ((aI l0 jq).f4), .int .u32 ((aI l0 jq).f5.f0), .int .i64 ((aI l0 jq).f5.f1), .int .i64 ((aI l0 jq).f6)]] rfl qt ?_; (with_reducible refine (bK.calls ((aI l0 jq).f0) ((aI l0 jq).f1) ((aI l0 jq).f2) ((aI l0 jq).f3) ((aI l0 jq).f4) ((aI l0 jq).f5.f0) ((aI l0 jq).f5.f1) ((aI l0 jq).f6) t105 bG t107 jw t109 gV ja jy _ A9.out).mono ?_); rintro e w11 ⟨rfl, hb⟩; refine ⟨_, rfl, ?_⟩; replace bM := ae.mk (Kd.bD (qr bM) hb); replace HB := ae.mk (aj (qw HB) hb); (try clear hb); (try clear hb2); (try clear hk); (try clear hi)) | ((with_reducible refine gG (b := .append) (xs := #[.tmp 19, .tmp 25]) rfl ?_); (try (refine eY (by rfl) ?_; dsimp only)); at_builtin; refine Kd.ll k45 (w0 := w) w.heap.size rfl (.tmp 19) (.tmp 25) 43 45 (.agg #[(.int .i64 0), (.string ⟨#[]⟩), (.string ⟨#[]⟩), (.string ⟨#[]⟩), (.int .u32 0), (.int .u32 0), (.int .i64 0), (.int .i64 0)]) 88 rfl Tryz.underlying43 lZ rfl (by decide) (by omega) u5 cZ (⟨t105, bG, t107, jw, t109, (⟨gV, ja⟩ : S25), jy⟩ : S45) [.int .i64 t105, .string bG, .string t107, .string jw, .int .u32 t109, .int .u32 gV, .int .i64 ja, .int .i64 jy] (fun _ => True) (fun _ => False) rfl rfl ?aP (fun _ hk => hk.elim) ?aF ?aO ?aB ?aS ?aL ?_; (case aP => exact uy _ _ _ (⟨t105, bG, t107, jw, t109, (⟨gV, ja⟩ : S25), jy⟩ : S45)); (case aB => exact (qw HB)); (case aF => exact (fun _ _ => trivial)); (case aO => exact (qr bM)); (case aS => exact (bi (qw HB))); (case aL => have := LMc10.out; omega); intro v114 w12 ho hb hg hat; rw [← Ny113.out] at ho; replace HB := ae.mk (hb); have Bh := ae.mk (ho); clear bM; clear ho hb hg hat))
        go_roundg k1
        case measure => have := HK1.out; omega
        case rel => exact ⟨(y113), (wrap64 (jq + 1)), (by first | rfl | (simp; done) | (simp [*]; done)), H', ⟨by have := HK1.out; omega⟩, ⟨by (with_reducible repeat (first | apply Kd.di | apply Kd.dm | apply Kd.dR)); exact Bh.out⟩, ⟨by repeat (first | (with_reducible first | exact HB.out | apply au | apply ai | apply ak) | exact HB.out)⟩⟩
       ·rw [if_neg c10] at H
        exact absurd H (by simp)
      ·rw [if_neg c8] at H
       exact absurd H (by simp)
     ·rw [if_neg c7] at H
      have jg : decide (jq < 8) = false := decide_eq_false c7
      clear c7
      have H' := ae.mk H
      clear H
      go_wp2
      go_meet
      case rel => exact ⟨_, (cZ), H', ⟨by have := HK1.out; first | omega | exact Nat.le_refl _⟩, ⟨by (with_reducible repeat (first | apply Kd.di | apply Kd.dm | apply Kd.dR)); exact bM.out⟩, ⟨by repeat (first | (with_reducible first | exact HB.out | apply au | apply ai | apply ak) | exact HB.out)⟩⟩
    ·rw [if_neg c6] at H
     have kE : decide (jq < (l0.length : Int)) = false := decide_eq_false c6
     clear c6
     (first | rw [kE] | (simp only [jD, nA]; rw [kE]) | skip)
     have H' := ae.mk H
     clear H
     go_wp2
     go_meet
     case rel => exact ⟨_, (cZ), H', ⟨by have := HK1.out; first | omega | exact Nat.le_refl _⟩, ⟨by (with_reducible repeat (first | apply Kd.di | apply Kd.dm | apply Kd.dR)); exact bM.out⟩, ⟨by repeat (first | (with_reducible first | exact HB.out | apply au | apply ai | apply ak) | exact HB.out)⟩⟩
 case rest =>
  clear HC3
  try clear c1
  try clear p1
  try clear q1
  try clear hx1
  try clear c2
  try clear p2
  try clear c5
  try clear c6
  try clear kE
  try clear p6
  try clear c7
  try clear jg
  try clear c8
  try clear kK
  try clear c10
  try clear p10
  try clear q10
  try clear hx10
  try clear hx104_0
  try clear hx104_1
  try clear hx104_2
  try clear hx104_3
  try clear hx104_4
  try clear hx104_5
  try clear hx104_6
  try clear hx104_7
  try clear p104
  try clear p2
  try clear q104
  obtain ⟨kq, fw, HA, HJ2, bM, HB⟩ := hcut
  cases kq with
  | zero => exact absurd HA.out (by simp [aG.j1])
  | succ kj2 =>
   have H := HA.out
   clear HA
   simp only [aG.j1] at H
   have H' := ae.mk H
   clear H
   go_wp2
   go_loopg [5, 7] kj2 (fun kq v5 v7 w' => ∃ (fw : List (S45)) (pX : Int), v7 = .int .i64 pX ∧ ae (aG.l1 kq a1 fw pX = some r) ∧ ae (kq ≤ kj2) ∧ ae (Kd.R k45 45 w' w.heap.size (fun _ => True) v5 fw) ∧ ae (Below w.heap.size w w'))
   case atStart => exact ⟨(fw), (0), (by first | rfl | (simp; done) | (simp [*]; done)), H', ⟨Nat.le_refl _⟩, ⟨by (with_reducible repeat (first | apply Kd.di | apply Kd.dm | apply Kd.dR)); exact bM.out⟩, ⟨by repeat (first | (with_reducible first | exact HB.out | apply au | apply ai | apply ak) | exact HB.out)⟩⟩
   case round =>
    clear H'
    try clear c1
    try clear p1
    try clear q1
    try clear hx1
    try clear c2
    try clear p2
    try clear c5
    try clear c6
    try clear kE
    try clear p6
    try clear c7
    try clear jg
    try clear c8
    try clear kK
    try clear c10
    try clear p10
    try clear q10
    try clear hx10
    try clear hx104_0
    try clear hx104_1
    try clear hx104_2
    try clear hx104_3
    try clear hx104_4
    try clear hx104_5
    try clear hx104_6
    try clear hx104_7
    try clear p1
    try clear p10
    try clear p104
    try clear p2
    try clear p6
    try clear q1
    try clear q10
    try clear q104
    obtain ⟨fw, pX, rfl, HA, HK2, bM, HB⟩ := hrel
    cases gk with
    | zero => exact absurd HA.out (by simp [aG.l1])
    | succ k2 =>
     have H := HA.out
     clear HA
     simp only [aG.l1] at H
     by_cases c13 : pX < a1
     ·rw [if_pos c13] at H
      have yX : decide (pX < a1) = true := decide_eq_true c13
      clear c13
      by_cases c14 : pX < 40
      ·rw [if_pos c14] at H
       have qA : decide (pX < 40) = true := decide_eq_true c14
       clear c14
       by_cases c15 : (fw.length : Int) > 0
       ·rw [if_pos c15] at H
        have wU : decide (0 < (fw.length : Int)) = true := decide_eq_true c15
        have yP : decide (0 < fw.length) = true := decide_eq_true (by omega)
        clear c15
        by_cases c16 : 0 < (fw.length : Int)
        ·rw [if_pos c16] at H
         have wO : decide (0 < (fw.length : Int)) = true := decide_eq_true c16
         have wP : decide (0 < fw.length) = true := decide_eq_true (by omega)
         clear c16
         by_cases c17 : fw.length < 1599289640401
         ·rw [if_pos c17] at H
          have LMc17 := ae.mk c17
          clear c17
          obtain ⟨y117, hy117⟩ : ∃ y_ : List (S45), y_ = (fw ++ [(⟨(aI fw 0).f0, (aI fw 0).f1, (aI fw 0).f2, (aI fw 0).f3, (aI fw 0).f4, (⟨(aI fw 0).f5.f0, (aI fw 0).f5.f1⟩ : S25), (aI fw 0).f6⟩ : S45)]) := ⟨_, rfl⟩
          replace H : (aG.l1 k2 a1 y117 (wrap64 (pX + 1))) = some r := by first | (rw [hy117]; with_reducible exact H) | (have H2_ := (Option.bind_some _ _).symm.trans H; rw [hy117]; with_reducible exact H2_) | (have H2_ := (Option.bind_some _ _).symm.trans H; with_reducible exact H2_) | with_reducible exact H | (rw [hy117]; exact H) | exact H
          have Ny117 := ae.mk hy117
          clear hy117
          have H' := ae.mk H
          clear H
          obtain ⟨xk, uZ, vk⟩ := Kd.dM bM.out
          subst vk
          have p116 : 0 ≤ (0 : Int) := (by omega)
          have q116 : 0 < (fw.length : Int) := of_decide_eq_true qa
          obtain ⟨ad116, e116, hx116_0, hx116_1, hx116_2, hx116_3, hx116_4, hx116_5, hx116_6, hx116_7⟩ := ma (Kd.aV bM.out).2.2 0 p116 q116
          cases e116
          have qi116 : (0 < fw.length) = True := eq_true (by omega)
          (try rw [show ((0 : Int)).toNat = 0 from rfl] at hx116_0)
          (try rw [show 0 * 8 = 0 from rfl] at hx116_0)
          (try rw [Addr.add_zero'] at hx116_0)
          (try rw [show ((0 : Int)).toNat = 0 from rfl] at hx116_1)
          (try rw [show 0 * 8 = 0 from rfl] at hx116_1)
          (try rw [Addr.add_zero'] at hx116_1)
          (try rw [show ((0 : Int)).toNat = 0 from rfl] at hx116_2)
          (try rw [show 0 * 8 = 0 from rfl] at hx116_2)
          (try rw [Addr.add_zero'] at hx116_2)
          (try rw [show ((0 : Int)).toNat = 0 from rfl] at hx116_3)
          (try rw [show 0 * 8 = 0 from rfl] at hx116_3)
          (try rw [Addr.add_zero'] at hx116_3)
          (try rw [show ((0 : Int)).toNat = 0 from rfl] at hx116_4)
          (try rw [show 0 * 8 = 0 from rfl] at hx116_4)
          (try rw [Addr.add_zero'] at hx116_4)
          (try rw [show ((0 : Int)).toNat = 0 from rfl] at hx116_5)
          (try rw [show 0 * 8 = 0 from rfl] at hx116_5)
          (try rw [Addr.add_zero'] at hx116_5)
          (try rw [show ((0 : Int)).toNat = 0 from rfl] at hx116_6)
          (try rw [show 0 * 8 = 0 from rfl] at hx116_6)
          (try rw [Addr.add_zero'] at hx116_6)
          (try rw [show ((0 : Int)).toNat = 0 from rfl] at hx116_7)
          (try rw [show 0 * 8 = 0 from rfl] at hx116_7)
          (try rw [Addr.add_zero'] at hx116_7)
          replace p116 := eq_true p116
          replace q116 := eq_true q116
          go_wp2_with (first | ((with_reducible refine gG (b := .append) (xs := #[.tmp 41, .tmp 45]) rfl ?_); (try (refine eY (by rfl) ?_; dsimp only)); at_builtin; refine Kd.ll k45 (w0 := w) w.heap.size rfl (.tmp 41) (.tmp 45) 43 45 (.agg #[(.int .i64 0), (.string ⟨#[]⟩), (.string ⟨#[]⟩), (.string ⟨#[]⟩), (.int .u32 0), (.int .u32 0), (.int .i64 0), (.int .i64 0)]) 88 rfl Tryz.underlying43 lZ rfl (by decide) (by omega) (.slice (some ad116) fw.length uZ) fw (⟨(aI fw 0).f0, (aI fw 0).f1, (aI fw 0).f2, (aI fw 0).f3, (aI fw 0).f4, (⟨(aI fw 0).f5.f0, (aI fw 0).f5.f1⟩ : S25), (aI fw 0).f6⟩ : S45) [.int .i64 ((aI fw 0).f0), .string ((aI fw 0).f1), .string ((aI fw 0).f2), .string ((aI fw 0).f3), .int .u32 ((aI fw 0).f4), .int .u32 ((aI fw 0).f5.f0), .int .i64 ((aI fw 0).f5.f1), .int .i64 ((aI fw 0).f6)] (fun _ => True) (fun _ => False) rfl rfl ?aP (fun _ hk => hk.elim) ?aF ?aO ?aB ?aS ?aL ?_; (case aP => exact uy _ _ _ (⟨(aI fw 0).f0, (aI fw 0).f1, (aI fw 0).f2, (aI fw 0).f3, (aI fw 0).f4, (⟨(aI fw 0).f5.f0, (aI fw 0).f5.f1⟩ : S25), (aI fw 0).f6⟩ : S45)); (case aB => exact (qw HB)); (case aF => exact (fun _ _ => trivial)); (case aO => exact (qr bM)); (case aS => exact (bi (qw HB))); (case aL => have := LMc17.out; omega); intro v118 w19 ho hb hg hat; rw [← Ny117.out] at ho; replace HB := ae.mk (hb); have pM := ae.mk (ho); clear bM; clear ho hb hg hat))
          go_roundg k2
          case measure => have := HJ2.out; have := HK2.out; omega
          case rel => exact ⟨(y117), (wrap64 (pX + 1)), (by first | rfl | (simp; done) | (simp [*]; done)), H', ⟨by have := HJ2.out; have := HK2.out; omega⟩, ⟨by (with_reducible repeat (first | apply Kd.di | apply Kd.dm | apply Kd.dR)); exact pM.out⟩, ⟨by repeat (first | (with_reducible first | exact HB.out | apply au | apply ai | apply ak) | exact HB.out)⟩⟩
         ·rw [if_neg c17] at H
          exact absurd H (by simp)
        ·rw [if_neg c16] at H
         exact absurd H (by simp)
       ·rw [if_neg c15] at H
        have wU : decide (0 < (fw.length : Int)) = false := decide_eq_false c15
        have yP : decide (0 < fw.length) = false := decide_eq_false (by omega)
        clear c15
        obtain ⟨y120, hy120⟩ : ∃ y_ : List (S45), y_ = (([] : List (S45))) := ⟨_, rfl⟩
        replace H : (if y120.length + fw.length < 1599289640401 then ((bI.f k2 (y120 ++ fw)).bind fun lw => ((aU.f k2 fw).bind fun t127 => (if (lw == t127) = true then ((bv.f k2).bind fun nM => (some nM)) else (some false)))) else (none)) = some r := by first | (rw [hy120]; with_reducible exact H) | (have H2_ := (Option.bind_some _ _).symm.trans H; rw [hy120]; with_reducible exact H2_) | (have H2_ := (Option.bind_some _ _).symm.trans H; with_reducible exact H2_) | with_reducible exact H | (rw [hy120]; exact H) | exact H
        have Ny120 := ae.mk hy120
        clear hy120
        by_cases c20 : y120.length + fw.length < 1599289640401
        ·rw [if_pos c20] at H
         have LMc20 := ae.mk c20
         clear c20
         obtain ⟨y123, hy123⟩ : ∃ y_ : List (S45), y_ = (y120 ++ fw) := ⟨_, rfl⟩
         replace H : ((bI.f k2 y123).bind fun lw => ((aU.f k2 fw).bind fun t127 => (if (lw == t127) = true then ((bv.f k2).bind fun nM => (some nM)) else (some false)))) = some r := by first | (rw [hy123]; with_reducible exact H) | (have H2_ := (Option.bind_some _ _).symm.trans H; rw [hy123]; with_reducible exact H2_) | (have H2_ := (Option.bind_some _ _).symm.trans H; with_reducible exact H2_) | with_reducible exact H | (rw [hy123]; exact H) | exact H
         have Ny123 := ae.mk hy123
         clear hy123
         replace H := Option.bind_eq_some_iff.mp H
         obtain ⟨lw, A210, H⟩ := H
         replace H : ((aU.f k2 fw).bind fun t127 => (if (lw == t127) = true then ((bv.f k2).bind fun nM => (some nM)) else (some false))) = some r := H
         have A21 := ae.mk A210
         clear A210
         replace H := Option.bind_eq_some_iff.mp H
         obtain ⟨t127, A220, H⟩ := H
         replace H : (if (lw == t127) = true then ((bv.f k2).bind fun nM => (some nM)) else (some false)) = some r := H
         have A22 := ae.mk A220
         clear A220
         by_cases c23 : (lw == t127) = true
         ·rw [if_pos c23] at H
          have Bi : (lw == t127) = true := c23
          (try (have Bj : decide (lw = t127) = true := by simpa using c23))
          (try (have Bl : (lw == t127) = true := by simpa using c23))
          clear c23
          replace H := Option.bind_eq_some_iff.mp H
          obtain ⟨nM, A240, H⟩ := H
          replace H : (some nM) = some r := H
          have A24 := ae.mk A240
          clear A240
          obtain rfl := Option.some.inj H
          obtain ⟨Bn, Bo, Cz⟩ := Kd.dM bM.out
          subst Cz
          go_wp2_with (first | ((with_reducible refine bg (N := 47) rfl ?_); (try (refine eY (by rfl) ?_; dsimp only)); refine Kd.jm k45 _ 45 ?hg (N := 47) ?hd (xs := ([] : List (S45))) (inner := []) (ok := fun _ => True) (okp := fun _ => True) ?hr ?hp (fun _ hk => hk) trivial (Below.refl _ _) (Nat.le_refl _) (by simp) ?_; (case hd => rfl); (case hg => rfl); (case hr => first | (go_simp; done) | (go_simp; rfl)); (case hp => exact (cu.none _ _)); intro v121 w26 oC hb hg_ hnew_; clear hg_ hnew_; (first | rw [← Ny120.out] at oC | (simp only [Int.reduceToNat] at oC; rw [← Ny120.out] at oC)); have sG := ae.mk (Kd.dI (Kd.iM oC (Kd.jQ (qr bM))) (bi (qw HB))); replace bM := ae.mk (Kd.gB (qr bM) (Kd.iL oC) hb); replace HB := ae.mk (aj (qw HB) hb); clear hb oC) | ((with_reducible refine gG (b := .append) (xs := #[.tmp 47, .tmp 48]) rfl ?_); (try (refine eY (by rfl) ?_; dsimp only)); at_builtin; refine Kd.iY k45 (w0 := w) w.heap.size rfl (.tmp 47) (.tmp 48) 43 45 (.agg #[(.int .i64 0), (.string ⟨#[]⟩), (.string ⟨#[]⟩), (.string ⟨#[]⟩), (.int .u32 0), (.int .u32 0), (.int .i64 0), (.int .i64 0)]) 88 rfl Tryz.underlying43 lZ rfl (by decide) (by omega) v121 y120 fw _ _ _ (fun k_ => some k_ ≠ (.slice Bn fw.length Bo : Value).ownBlock) (fun _ => False) rfl rfl ?aO ?aR (fun _ _ h => h) (fun _ h => h.elim) ?aF ?aB ?aS ?aL ?_; (case aR => exact qs ((Kd.aV bM.out).2.2)); (case aB => exact (qw HB)); (case aF => exact (fun k_ hk => Kd.fresh' (Kd.jQ (qr bM)) k_ hk)); (case aO => exact (by (with_reducible repeat (first | apply Kd.di | apply Kd.dm | apply Kd.dR)); exact Kd.gu sG.out (fun _ hk => hk.2))); (case aS => exact (bi (qw HB))); (case aL => have := LMc20.out; omega); intro v124 w28 ho hb hg hat; rw [← Ny123.out] at ho; replace bM := ae.mk (Kd.mo (ok := (fun _ => True)) (qr bM) hg hat); replace HB := ae.mk (hb); have jY := ae.mk (ho); clear sG; clear ho hb hg hat; obtain ⟨CB, CE, CF⟩ := Kd.dM jY.out; subst CF) | ((with_reducible refine aH (f := 22) rfl ?_); refine bN (some 50) rfl rfl Tryz.func22 (by kernel_rfl) rfl #[.slice CB y123.length CE] rfl qt ?_; (with_reducible refine (bI.calls k2 _ _ y123 lw _ ?aX ?aY A21.out ?gt).mono ?_); (case gt => exact Go.Proofs.YteidaijpaijgpaaGreatDoorV.GT.below HGT (qw HB)); (case aX => exact qs ((Kd.aV jY.out).2.2)); (case aY => exact (Kd.aV jY.out).2.1); rintro e w30 ⟨rfl, hb⟩; refine ⟨_, rfl, ?_⟩; replace bM := ae.mk (Kd.bD (qr bM) hb); replace jY := ae.mk (Kd.bD (qr jY) hb); replace HB := ae.mk (aj (qw HB) hb); (try clear hb); (try clear hb2); (try clear hk); (try clear hi)) | ((with_reducible refine aH (f := 23) rfl ?_); refine bN (some 52) rfl rfl Tryz.func23 (by kernel_rfl) rfl #[.slice Bn fw.length Bo] rfl qt ?_; (with_reducible refine (aU.calls k2 _ _ fw t127 _ ?aX ?aY A22.out).mono ?_); (case aX => exact qs ((Kd.aV bM.out).2.2)); (case aY => exact (Kd.aV bM.out).2.1); rintro e w31 ⟨rfl, hb⟩; refine ⟨_, rfl, ?_⟩; replace bM := ae.mk (Kd.bD (qr bM) hb); replace jY := ae.mk (Kd.bD (qr jY) hb); replace HB := ae.mk (aj (qw HB) hb); (try clear hb); (try clear hb2); (try clear hk); (try clear hi)) | (go_at_call 20; (with_reducible refine (bv.calls k2  nM _ A24.out ?gt).mono ?_); (case gt => exact Go.Proofs.YteidaijpaijgpaaGreatDoorV.GT.below HGT (qw HB)); rintro e w32 ⟨rfl, hb⟩; replace bM := ae.mk (Kd.bD (qr bM) hb); replace jY := ae.mk (Kd.bD (qr jY) hb); replace HB := ae.mk (aj (qw HB) hb); (try clear hb); (try clear hb2); (try clear hk); (try clear hi)))
          go_ret
          exact ⟨by first | rfl | (simp [errW_none, errW_some] <;> rfl) | (simp [*, errW_none, errW_some] <;> rfl), by repeat (first | (with_reducible first | exact HB.out | apply au | apply ai | apply ak) | exact HB.out)⟩
         ·rw [if_neg c23] at H
          have Bi : (lw == t127) = false := by simpa using c23
          (try (have Bj : decide (lw = t127) = false := by simpa using c23))
          (try (have Bl : (lw == t127) = false := by simpa using c23))
          (try (have Et : ¬ (lw = t127) := by simpa using c23))
          clear c23
          obtain rfl := Option.some.inj H
          obtain ⟨Bp, Bq, CG⟩ := Kd.dM bM.out
          subst CG
          go_wp2_with (first | ((with_reducible refine bg (N := 47) rfl ?_); (try (refine eY (by rfl) ?_; dsimp only)); refine Kd.jm k45 _ 45 ?hg (N := 47) ?hd (xs := ([] : List (S45))) (inner := []) (ok := fun _ => True) (okp := fun _ => True) ?hr ?hp (fun _ hk => hk) trivial (Below.refl _ _) (Nat.le_refl _) (by simp) ?_; (case hd => rfl); (case hg => rfl); (case hr => first | (go_simp; done) | (go_simp; rfl)); (case hp => exact (cu.none _ _)); intro v121 w34 nK hb hg_ hnew_; clear hg_ hnew_; (first | rw [← Ny120.out] at nK | (simp only [Int.reduceToNat] at nK; rw [← Ny120.out] at nK)); have sG := ae.mk (Kd.dI (Kd.iM nK (Kd.jQ (qr bM))) (bi (qw HB))); replace bM := ae.mk (Kd.gB (qr bM) (Kd.iL nK) hb); replace HB := ae.mk (aj (qw HB) hb); clear hb nK) | ((with_reducible refine gG (b := .append) (xs := #[.tmp 47, .tmp 48]) rfl ?_); (try (refine eY (by rfl) ?_; dsimp only)); at_builtin; refine Kd.iY k45 (w0 := w) w.heap.size rfl (.tmp 47) (.tmp 48) 43 45 (.agg #[(.int .i64 0), (.string ⟨#[]⟩), (.string ⟨#[]⟩), (.string ⟨#[]⟩), (.int .u32 0), (.int .u32 0), (.int .i64 0), (.int .i64 0)]) 88 rfl Tryz.underlying43 lZ rfl (by decide) (by omega) v121 y120 fw _ _ _ (fun k_ => some k_ ≠ (.slice Bp fw.length Bq : Value).ownBlock) (fun _ => False) rfl rfl ?aO ?aR (fun _ _ h => h) (fun _ h => h.elim) ?aF ?aB ?aS ?aL ?_; (case aR => exact qs ((Kd.aV bM.out).2.2)); (case aB => exact (qw HB)); (case aF => exact (fun k_ hk => Kd.fresh' (Kd.jQ (qr bM)) k_ hk)); (case aO => exact (by (with_reducible repeat (first | apply Kd.di | apply Kd.dm | apply Kd.dR)); exact Kd.gu sG.out (fun _ hk => hk.2))); (case aS => exact (bi (qw HB))); (case aL => have := LMc20.out; omega); intro v124 w36 ho hb hg hat; rw [← Ny123.out] at ho; replace bM := ae.mk (Kd.mo (ok := (fun _ => True)) (qr bM) hg hat); replace HB := ae.mk (hb); have jY := ae.mk (ho); clear sG; clear ho hb hg hat; obtain ⟨zw, zx, yh⟩ := Kd.dM jY.out; subst yh) | ((with_reducible refine aH (f := 22) rfl ?_); refine bN (some 50) rfl rfl Tryz.func22 (by kernel_rfl) rfl #[.slice zw y123.length zx] rfl qt ?_; (with_reducible refine (bI.calls k2 _ _ y123 lw _ ?aX ?aY A21.out ?gt).mono ?_); (case gt => exact Go.Proofs.YteidaijpaijgpaaGreatDoorV.GT.below HGT (qw HB)); (case aX => exact qs ((Kd.aV jY.out).2.2)); (case aY => exact (Kd.aV jY.out).2.1); rintro e w38 ⟨rfl, hb⟩; refine ⟨_, rfl, ?_⟩; replace bM := ae.mk (Kd.bD (qr bM) hb); replace jY := ae.mk (Kd.bD (qr jY) hb); replace HB := ae.mk (aj (qw HB) hb); (try clear hb); (try clear hb2); (try clear hk); (try clear hi)) | ((with_reducible refine aH (f := 23) rfl ?_); refine bN (some 52) rfl rfl Tryz.func23 (by kernel_rfl) rfl #[.slice Bp fw.length Bq] rfl qt ?_; (with_reducible refine (aU.calls k2 _ _ fw t127 _ ?aX ?aY A22.out).mono ?_); (case aX => exact qs ((Kd.aV bM.out).2.2)); (case aY => exact (Kd.aV bM.out).2.1); rintro e w39 ⟨rfl, hb⟩; refine ⟨_, rfl, ?_⟩; replace bM := ae.mk (Kd.bD (qr bM) hb); replace jY := ae.mk (Kd.bD (qr jY) hb); replace HB := ae.mk (aj (qw HB) hb); (try clear hb); (try clear hb2); (try clear hk); (try clear hi)))
          go_ret
          exact ⟨by first | rfl | (simp [errW_none, errW_some] <;> rfl) | (simp [*, errW_none, errW_some] <;> rfl), by repeat (first | (with_reducible first | exact HB.out | apply au | apply ai | apply ak) | exact HB.out)⟩
        ·rw [if_neg c20] at H
         exact absurd H (by simp)
      ·rw [if_neg c14] at H
       have qA : decide (pX < 40) = false := decide_eq_false c14
       clear c14
       obtain ⟨y129, hy129⟩ : ∃ y_ : List (S45), y_ = (([] : List (S45))) := ⟨_, rfl⟩
       replace H : (if y129.length + fw.length < 1599289640401 then ((bI.f k2 (y129 ++ fw)).bind fun lU => ((aU.f k2 fw).bind fun lK => (if (lU == lK) = true then ((bv.f k2).bind fun oD => (some oD)) else (some false)))) else (none)) = some r := by first | (rw [hy129]; with_reducible exact H) | (have H2_ := (Option.bind_some _ _).symm.trans H; rw [hy129]; with_reducible exact H2_) | (have H2_ := (Option.bind_some _ _).symm.trans H; with_reducible exact H2_) | with_reducible exact H | (rw [hy129]; exact H) | exact H
       have Ny129 := ae.mk hy129
       clear hy129
       by_cases c40 : y129.length + fw.length < 1599289640401
       ·rw [if_pos c40] at H
        have LMc40 := ae.mk c40
        clear c40
        obtain ⟨y132, hy132⟩ : ∃ y_ : List (S45), y_ = (y129 ++ fw) := ⟨_, rfl⟩
        replace H : ((bI.f k2 y132).bind fun lU => ((aU.f k2 fw).bind fun lK => (if (lU == lK) = true then ((bv.f k2).bind fun oD => (some oD)) else (some false)))) = some r := by first | (rw [hy132]; with_reducible exact H) | (have H2_ := (Option.bind_some _ _).symm.trans H; rw [hy132]; with_reducible exact H2_) | (have H2_ := (Option.bind_some _ _).symm.trans H; with_reducible exact H2_) | with_reducible exact H | (rw [hy132]; exact H) | exact H
        have Ny132 := ae.mk hy132
        clear hy132
        replace H := Option.bind_eq_some_iff.mp H
        obtain ⟨lU, A410, H⟩ := H
        replace H : ((aU.f k2 fw).bind fun lK => (if (lU == lK) = true then ((bv.f k2).bind fun oD => (some oD)) else (some false))) = some r := H
        have A41 := ae.mk A410
        clear A410
        replace H := Option.bind_eq_some_iff.mp H
        obtain ⟨lK, A420, H⟩ := H
        replace H : (if (lU == lK) = true then ((bv.f k2).bind fun oD => (some oD)) else (some false)) = some r := H
        have A42 := ae.mk A420
        clear A420
        by_cases c43 : (lU == lK) = true
        ·rw [if_pos c43] at H
         have yR : (lU == lK) = true := c43
         (try (have yS : decide (lU = lK) = true := by simpa using c43))
         (try (have yT : (lU == lK) = true := by simpa using c43))
         clear c43
         replace H := Option.bind_eq_some_iff.mp H
         obtain ⟨oD, A440, H⟩ := H
         replace H : (some oD) = some r := H
         have A44 := ae.mk A440
         clear A440
         obtain rfl := Option.some.inj H
         go_wp2_with (first | ((with_reducible refine bg (N := 47) rfl ?_); (try (refine eY (by rfl) ?_; dsimp only)); refine Kd.jm k45 _ 45 ?hg (N := 47) ?hd (xs := ([] : List (S45))) (inner := []) (ok := fun _ => True) (okp := fun _ => True) ?hr ?hp (fun _ hk => hk) trivial (Below.refl _ _) (Nat.le_refl _) (by simp) ?_; (case hd => rfl); (case hg => rfl); (case hr => first | (go_simp; done) | (go_simp; rfl)); (case hp => exact (cu.none _ _)); intro v130 w45 vE hb hg_ hnew_; clear hg_ hnew_; (first | rw [← Ny129.out] at vE | (simp only [Int.reduceToNat] at vE; rw [← Ny129.out] at vE)); have sH := ae.mk (Kd.dI (Kd.iM vE (Kd.jQ (qr bM))) (bi (qw HB))); replace bM := ae.mk (Kd.gB (qr bM) (Kd.iL vE) hb); replace HB := ae.mk (aj (qw HB) hb); clear hb vE; obtain ⟨Br, Bt, CJ⟩ := Kd.dM bM.out; subst CJ) | ((with_reducible refine gG (b := .append) (xs := #[.tmp 47, .tmp 48]) rfl ?_); (try (refine eY (by rfl) ?_; dsimp only)); at_builtin; refine Kd.iY k45 (w0 := w) w.heap.size rfl (.tmp 47) (.tmp 48) 43 45 (.agg #[(.int .i64 0), (.string ⟨#[]⟩), (.string ⟨#[]⟩), (.string ⟨#[]⟩), (.int .u32 0), (.int .u32 0), (.int .i64 0), (.int .i64 0)]) 88 rfl Tryz.underlying43 lZ rfl (by decide) (by omega) v130 y129 fw _ _ _ (fun k_ => some k_ ≠ (.slice Br fw.length Bt : Value).ownBlock) (fun _ => False) rfl rfl ?aO ?aR (fun _ _ h => h) (fun _ h => h.elim) ?aF ?aB ?aS ?aL ?_; (case aR => exact qs ((Kd.aV bM.out).2.2)); (case aB => exact (qw HB)); (case aF => exact (fun k_ hk => Kd.fresh' (Kd.jQ (qr bM)) k_ hk)); (case aO => exact (by (with_reducible repeat (first | apply Kd.di | apply Kd.dm | apply Kd.dR)); exact Kd.gu sH.out (fun _ hk => hk.2))); (case aS => exact (bi (qw HB))); (case aL => have := LMc40.out; omega); intro v133 w47 ho hb hg hat; rw [← Ny132.out] at ho; replace bM := ae.mk (Kd.mo (ok := (fun _ => True)) (qr bM) hg hat); replace HB := ae.mk (hb); have jZ := ae.mk (ho); clear sH; clear ho hb hg hat; obtain ⟨CK, CL, CO⟩ := Kd.dM jZ.out; subst CO) | ((with_reducible refine aH (f := 22) rfl ?_); refine bN (some 50) rfl rfl Tryz.func22 (by kernel_rfl) rfl #[.slice CK y132.length CL] rfl qt ?_; (with_reducible refine (bI.calls k2 _ _ y132 lU _ ?aX ?aY A41.out ?gt).mono ?_); (case gt => exact Go.Proofs.YteidaijpaijgpaaGreatDoorV.GT.below HGT (qw HB)); (case aX => exact qs ((Kd.aV jZ.out).2.2)); (case aY => exact (Kd.aV jZ.out).2.1); rintro e w50 ⟨rfl, hb⟩; refine ⟨_, rfl, ?_⟩; replace bM := ae.mk (Kd.bD (qr bM) hb); replace jZ := ae.mk (Kd.bD (qr jZ) hb); replace HB := ae.mk (aj (qw HB) hb); (try clear hb); (try clear hb2); (try clear hk); (try clear hi)) | ((with_reducible refine aH (f := 23) rfl ?_); refine bN (some 52) rfl rfl Tryz.func23 (by kernel_rfl) rfl #[.slice Br fw.length Bt] rfl qt ?_; (with_reducible refine (aU.calls k2 _ _ fw lK _ ?aX ?aY A42.out).mono ?_); (case aX => exact qs ((Kd.aV bM.out).2.2)); (case aY => exact (Kd.aV bM.out).2.1); rintro e w51 ⟨rfl, hb⟩; refine ⟨_, rfl, ?_⟩; replace bM := ae.mk (Kd.bD (qr bM) hb); replace jZ := ae.mk (Kd.bD (qr jZ) hb); replace HB := ae.mk (aj (qw HB) hb); (try clear hb); (try clear hb2); (try clear hk); (try clear hi)) | (go_at_call 20; (with_reducible refine (bv.calls k2  oD _ A44.out ?gt).mono ?_); (case gt => exact Go.Proofs.YteidaijpaijgpaaGreatDoorV.GT.below HGT (qw HB)); rintro e w52 ⟨rfl, hb⟩; replace bM := ae.mk (Kd.bD (qr bM) hb); replace jZ := ae.mk (Kd.bD (qr jZ) hb); replace HB := ae.mk (aj (qw HB) hb); (try clear hb); (try clear hb2); (try clear hk); (try clear hi)))
         go_ret
         exact ⟨by first | rfl | (simp [errW_none, errW_some] <;> rfl) | (simp [*, errW_none, errW_some] <;> rfl), by repeat (first | (with_reducible first | exact HB.out | apply au | apply ai | apply ak) | exact HB.out)⟩
        ·rw [if_neg c43] at H
         have yR : (lU == lK) = false := by simpa using c43
         (try (have yS : decide (lU = lK) = false := by simpa using c43))
         (try (have yT : (lU == lK) = false := by simpa using c43))
         (try (have Eu : ¬ (lU = lK) := by simpa using c43))
         clear c43
         obtain rfl := Option.some.inj H
         go_wp2_with (first | ((with_reducible refine bg (N := 47) rfl ?_); (try (refine eY (by rfl) ?_; dsimp only)); refine Kd.jm k45 _ 45 ?hg (N := 47) ?hd (xs := ([] : List (S45))) (inner := []) (ok := fun _ => True) (okp := fun _ => True) ?hr ?hp (fun _ hk => hk) trivial (Below.refl _ _) (Nat.le_refl _) (by simp) ?_; (case hd => rfl); (case hg => rfl); (case hr => first | (go_simp; done) | (go_simp; rfl)); (case hp => exact (cu.none _ _)); intro v130 w53 vF hb hg_ hnew_; clear hg_ hnew_; (first | rw [← Ny129.out] at vF | (simp only [Int.reduceToNat] at vF; rw [← Ny129.out] at vF)); have sH := ae.mk (Kd.dI (Kd.iM vF (Kd.jQ (qr bM))) (bi (qw HB))); replace bM := ae.mk (Kd.gB (qr bM) (Kd.iL vF) hb); replace HB := ae.mk (aj (qw HB) hb); clear hb vF; obtain ⟨Bu, Bv, CP⟩ := Kd.dM bM.out; subst CP) | ((with_reducible refine gG (b := .append) (xs := #[.tmp 47, .tmp 48]) rfl ?_); (try (refine eY (by rfl) ?_; dsimp only)); at_builtin; refine Kd.iY k45 (w0 := w) w.heap.size rfl (.tmp 47) (.tmp 48) 43 45 (.agg #[(.int .i64 0), (.string ⟨#[]⟩), (.string ⟨#[]⟩), (.string ⟨#[]⟩), (.int .u32 0), (.int .u32 0), (.int .i64 0), (.int .i64 0)]) 88 rfl Tryz.underlying43 lZ rfl (by decide) (by omega) v130 y129 fw _ _ _ (fun k_ => some k_ ≠ (.slice Bu fw.length Bv : Value).ownBlock) (fun _ => False) rfl rfl ?aO ?aR (fun _ _ h => h) (fun _ h => h.elim) ?aF ?aB ?aS ?aL ?_; (case aR => exact qs ((Kd.aV bM.out).2.2)); (case aB => exact (qw HB)); (case aF => exact (fun k_ hk => Kd.fresh' (Kd.jQ (qr bM)) k_ hk)); (case aO => exact (by (with_reducible repeat (first | apply Kd.di | apply Kd.dm | apply Kd.dR)); exact Kd.gu sH.out (fun _ hk => hk.2))); (case aS => exact (bi (qw HB))); (case aL => have := LMc40.out; omega); intro v133 w55 ho hb hg hat; rw [← Ny132.out] at ho; replace bM := ae.mk (Kd.mo (ok := (fun _ => True)) (qr bM) hg hat); replace HB := ae.mk (hb); have jZ := ae.mk (ho); clear sH; clear ho hb hg hat; obtain ⟨CQ, CR, CS⟩ := Kd.dM jZ.out; subst CS) | ((with_reducible refine aH (f := 22) rfl ?_); refine bN (some 50) rfl rfl Tryz.func22 (by kernel_rfl) rfl #[.slice CQ y132.length CR] rfl qt ?_; (with_reducible refine (bI.calls k2 _ _ y132 lU _ ?aX ?aY A41.out ?gt).mono ?_); (case gt => exact Go.Proofs.YteidaijpaijgpaaGreatDoorV.GT.below HGT (qw HB)); (case aX => exact qs ((Kd.aV jZ.out).2.2)); (case aY => exact (Kd.aV jZ.out).2.1); rintro e w58 ⟨rfl, hb⟩; refine ⟨_, rfl, ?_⟩; replace bM := ae.mk (Kd.bD (qr bM) hb); replace jZ := ae.mk (Kd.bD (qr jZ) hb); replace HB := ae.mk (aj (qw HB) hb); (try clear hb); (try clear hb2); (try clear hk); (try clear hi)) | ((with_reducible refine aH (f := 23) rfl ?_); refine bN (some 52) rfl rfl Tryz.func23 (by kernel_rfl) rfl #[.slice Bu fw.length Bv] rfl qt ?_; (with_reducible refine (aU.calls k2 _ _ fw lK _ ?aX ?aY A42.out).mono ?_); (case aX => exact qs ((Kd.aV bM.out).2.2)); (case aY => exact (Kd.aV bM.out).2.1); rintro e w59 ⟨rfl, hb⟩; refine ⟨_, rfl, ?_⟩; replace bM := ae.mk (Kd.bD (qr bM) hb); replace jZ := ae.mk (Kd.bD (qr jZ) hb); replace HB := ae.mk (aj (qw HB) hb); (try clear hb); (try clear hb2); (try clear hk); (try clear hi)))
         go_ret
         exact ⟨by first | rfl | (simp [errW_none, errW_some] <;> rfl) | (simp [*, errW_none, errW_some] <;> rfl), by repeat (first | (with_reducible first | exact HB.out | apply au | apply ai | apply ak) | exact HB.out)⟩
       ·rw [if_neg c40] at H
        exact absurd H (by simp)
     ·rw [if_neg c13] at H
      have yX : decide (pX < a1) = false := decide_eq_false c13
      clear c13
      obtain ⟨y138, hy138⟩ : ∃ y_ : List (S45), y_ = (([] : List (S45))) := ⟨_, rfl⟩
      replace H : (if y138.length + fw.length < 1599289640401 then ((bI.f k2 (y138 ++ fw)).bind fun lV => ((aU.f k2 fw).bind fun t145 => (if (lV == t145) = true then ((bv.f k2).bind fun t146 => (some t146)) else (some false)))) else (none)) = some r := by first | (rw [hy138]; with_reducible exact H) | (have H2_ := (Option.bind_some _ _).symm.trans H; rw [hy138]; with_reducible exact H2_) | (have H2_ := (Option.bind_some _ _).symm.trans H; with_reducible exact H2_) | with_reducible exact H | (rw [hy138]; exact H) | exact H
      have Ny138 := ae.mk hy138
      clear hy138
      by_cases c60 : y138.length + fw.length < 1599289640401
      ·rw [if_pos c60] at H
       have LMc60 := ae.mk c60
       clear c60
       obtain ⟨y141, hy141⟩ : ∃ y_ : List (S45), y_ = (y138 ++ fw) := ⟨_, rfl⟩
       replace H : ((bI.f k2 y141).bind fun lV => ((aU.f k2 fw).bind fun t145 => (if (lV == t145) = true then ((bv.f k2).bind fun t146 => (some t146)) else (some false)))) = some r := by first | (rw [hy141]; with_reducible exact H) | (have H2_ := (Option.bind_some _ _).symm.trans H; rw [hy141]; with_reducible exact H2_) | (have H2_ := (Option.bind_some _ _).symm.trans H; with_reducible exact H2_) | with_reducible exact H | (rw [hy141]; exact H) | exact H
       have Ny141 := ae.mk hy141
       clear hy141
       replace H := Option.bind_eq_some_iff.mp H
       obtain ⟨lV, A610, H⟩ := H
       replace H : ((aU.f k2 fw).bind fun t145 => (if (lV == t145) = true then ((bv.f k2).bind fun t146 => (some t146)) else (some false))) = some r := H
       have A61 := ae.mk A610
       clear A610
       replace H := Option.bind_eq_some_iff.mp H
       obtain ⟨t145, A620, H⟩ := H
       replace H : (if (lV == t145) = true then ((bv.f k2).bind fun t146 => (some t146)) else (some false)) = some r := H
       have A62 := ae.mk A620
       clear A620
       by_cases c63 : (lV == t145) = true
       ·rw [if_pos c63] at H
        have Bw : (lV == t145) = true := c63
        (try (have Bz : decide (lV = t145) = true := by simpa using c63))
        (try (have BA : (lV == t145) = true := by simpa using c63))
        clear c63
        replace H := Option.bind_eq_some_iff.mp H
        obtain ⟨t146, A640, H⟩ := H
        replace H : (some t146) = some r := H
        have A64 := ae.mk A640
        clear A640
        obtain rfl := Option.some.inj H
        go_wp2_with (first | ((with_reducible refine bg (N := 47) rfl ?_); (try (refine eY (by rfl) ?_; dsimp only)); refine Kd.jm k45 _ 45 ?hg (N := 47) ?hd (xs := ([] : List (S45))) (inner := []) (ok := fun _ => True) (okp := fun _ => True) ?hr ?hp (fun _ hk => hk) trivial (Below.refl _ _) (Nat.le_refl _) (by simp) ?_; (case hd => rfl); (case hg => rfl); (case hr => first | (go_simp; done) | (go_simp; rfl)); (case hp => exact (cu.none _ _)); intro v139 w65 vG hb hg_ hnew_; clear hg_ hnew_; (first | rw [← Ny138.out] at vG | (simp only [Int.reduceToNat] at vG; rw [← Ny138.out] at vG)); have sI := ae.mk (Kd.dI (Kd.iM vG (Kd.jQ (qr bM))) (bi (qw HB))); replace bM := ae.mk (Kd.gB (qr bM) (Kd.iL vG) hb); replace HB := ae.mk (aj (qw HB) hb); clear hb vG; obtain ⟨BB, BC, CU⟩ := Kd.dM bM.out; subst CU) | ((with_reducible refine gG (b := .append) (xs := #[.tmp 47, .tmp 48]) rfl ?_); (try (refine eY (by rfl) ?_; dsimp only)); at_builtin; refine Kd.iY k45 (w0 := w) w.heap.size rfl (.tmp 47) (.tmp 48) 43 45 (.agg #[(.int .i64 0), (.string ⟨#[]⟩), (.string ⟨#[]⟩), (.string ⟨#[]⟩), (.int .u32 0), (.int .u32 0), (.int .i64 0), (.int .i64 0)]) 88 rfl Tryz.underlying43 lZ rfl (by decide) (by omega) v139 y138 fw _ _ _ (fun k_ => some k_ ≠ (.slice BB fw.length BC : Value).ownBlock) (fun _ => False) rfl rfl ?aO ?aR (fun _ _ h => h) (fun _ h => h.elim) ?aF ?aB ?aS ?aL ?_; (case aR => exact qs ((Kd.aV bM.out).2.2)); (case aB => exact (qw HB)); (case aF => exact (fun k_ hk => Kd.fresh' (Kd.jQ (qr bM)) k_ hk)); (case aO => exact (by (with_reducible repeat (first | apply Kd.di | apply Kd.dm | apply Kd.dR)); exact Kd.gu sI.out (fun _ hk => hk.2))); (case aS => exact (bi (qw HB))); (case aL => have := LMc60.out; omega); intro v142 w67 ho hb hg hat; rw [← Ny141.out] at ho; replace bM := ae.mk (Kd.mo (ok := (fun _ => True)) (qr bM) hg hat); replace HB := ae.mk (hb); have kg := ae.mk (ho); clear sI; clear ho hb hg hat; obtain ⟨CV, CW, CX⟩ := Kd.dM kg.out; subst CX) | ((with_reducible refine aH (f := 22) rfl ?_); refine bN (some 50) rfl rfl Tryz.func22 (by kernel_rfl) rfl #[.slice CV y141.length CW] rfl qt ?_; (with_reducible refine (bI.calls k2 _ _ y141 lV _ ?aX ?aY A61.out ?gt).mono ?_); (case gt => exact Go.Proofs.YteidaijpaijgpaaGreatDoorV.GT.below HGT (qw HB)); (case aX => exact qs ((Kd.aV kg.out).2.2)); (case aY => exact (Kd.aV kg.out).2.1); rintro e w70 ⟨rfl, hb⟩; refine ⟨_, rfl, ?_⟩; replace bM := ae.mk (Kd.bD (qr bM) hb); replace kg := ae.mk (Kd.bD (qr kg) hb); replace HB := ae.mk (aj (qw HB) hb); (try clear hb); (try clear hb2); (try clear hk); (try clear hi)) | ((with_reducible refine aH (f := 23) rfl ?_); refine bN (some 52) rfl rfl Tryz.func23 (by kernel_rfl) rfl #[.slice BB fw.length BC] rfl qt ?_; (with_reducible refine (aU.calls k2 _ _ fw t145 _ ?aX ?aY A62.out).mono ?_); (case aX => exact qs ((Kd.aV bM.out).2.2)); (case aY => exact (Kd.aV bM.out).2.1); rintro e w71 ⟨rfl, hb⟩; refine ⟨_, rfl, ?_⟩; replace bM := ae.mk (Kd.bD (qr bM) hb); replace kg := ae.mk (Kd.bD (qr kg) hb); replace HB := ae.mk (aj (qw HB) hb); (try clear hb); (try clear hb2); (try clear hk); (try clear hi)) | (go_at_call 20; (with_reducible refine (bv.calls k2  t146 _ A64.out ?gt).mono ?_); (case gt => exact Go.Proofs.YteidaijpaijgpaaGreatDoorV.GT.below HGT (qw HB)); rintro e w72 ⟨rfl, hb⟩; replace bM := ae.mk (Kd.bD (qr bM) hb); replace kg := ae.mk (Kd.bD (qr kg) hb); replace HB := ae.mk (aj (qw HB) hb); (try clear hb); (try clear hb2); (try clear hk); (try clear hi)))
        go_ret
        exact ⟨by first | rfl | (simp [errW_none, errW_some] <;> rfl) | (simp [*, errW_none, errW_some] <;> rfl), by repeat (first | (with_reducible first | exact HB.out | apply au | apply ai | apply ak) | exact HB.out)⟩
       ·rw [if_neg c63] at H
        have Bw : (lV == t145) = false := by simpa using c63
        (try (have Bz : decide (lV = t145) = false := by simpa using c63))
        (try (have BA : (lV == t145) = false := by simpa using c63))
        (try (have Ew : ¬ (lV = t145) := by simpa using c63))
        clear c63
        obtain rfl := Option.some.inj H
        go_wp2_with (first | ((with_reducible refine bg (N := 47) rfl ?_); (try (refine eY (by rfl) ?_; dsimp only)); refine Kd.jm k45 _ 45 ?hg (N := 47) ?hd (xs := ([] : List (S45))) (inner := []) (ok := fun _ => True) (okp := fun _ => True) ?hr ?hp (fun _ hk => hk) trivial (Below.refl _ _) (Nat.le_refl _) (by simp) ?_; (case hd => rfl); (case hg => rfl); (case hr => first | (go_simp; done) | (go_simp; rfl)); (case hp => exact (cu.none _ _)); intro v139 w73 vH hb hg_ hnew_; clear hg_ hnew_; (first | rw [← Ny138.out] at vH | (simp only [Int.reduceToNat] at vH; rw [← Ny138.out] at vH)); have sI := ae.mk (Kd.dI (Kd.iM vH (Kd.jQ (qr bM))) (bi (qw HB))); replace bM := ae.mk (Kd.gB (qr bM) (Kd.iL vH) hb); replace HB := ae.mk (aj (qw HB) hb); clear hb vH; obtain ⟨BD, BF, CY⟩ := Kd.dM bM.out; subst CY) | ((with_reducible refine gG (b := .append) (xs := #[.tmp 47, .tmp 48]) rfl ?_); (try (refine eY (by rfl) ?_; dsimp only)); at_builtin; refine Kd.iY k45 (w0 := w) w.heap.size rfl (.tmp 47) (.tmp 48) 43 45 (.agg #[(.int .i64 0), (.string ⟨#[]⟩), (.string ⟨#[]⟩), (.string ⟨#[]⟩), (.int .u32 0), (.int .u32 0), (.int .i64 0), (.int .i64 0)]) 88 rfl Tryz.underlying43 lZ rfl (by decide) (by omega) v139 y138 fw _ _ _ (fun k_ => some k_ ≠ (.slice BD fw.length BF : Value).ownBlock) (fun _ => False) rfl rfl ?aO ?aR (fun _ _ h => h) (fun _ h => h.elim) ?aF ?aB ?aS ?aL ?_; (case aR => exact qs ((Kd.aV bM.out).2.2)); (case aB => exact (qw HB)); (case aF => exact (fun k_ hk => Kd.fresh' (Kd.jQ (qr bM)) k_ hk)); (case aO => exact (by (with_reducible repeat (first | apply Kd.di | apply Kd.dm | apply Kd.dR)); exact Kd.gu sI.out (fun _ hk => hk.2))); (case aS => exact (bi (qw HB))); (case aL => have := LMc60.out; omega); intro v142 w75 ho hb hg hat; rw [← Ny141.out] at ho; replace bM := ae.mk (Kd.mo (ok := (fun _ => True)) (qr bM) hg hat); replace HB := ae.mk (hb); have kg := ae.mk (ho); clear sI; clear ho hb hg hat; obtain ⟨CZ, C8, C9⟩ := Kd.dM kg.out; subst C9) | ((with_reducible refine aH (f := 22) rfl ?_); refine bN (some 50) rfl rfl Tryz.func22 (by kernel_rfl) rfl #[.slice CZ y141.length C8] rfl qt ?_; (with_reducible refine (bI.calls k2 _ _ y141 lV _ ?aX ?aY A61.out ?gt).mono ?_); (case gt => exact Go.Proofs.YteidaijpaijgpaaGreatDoorV.GT.below HGT (qw HB)); (case aX => exact qs ((Kd.aV kg.out).2.2)); (case aY => exact (Kd.aV kg.out).2.1); rintro e w78 ⟨rfl, hb⟩; refine ⟨_, rfl, ?_⟩; replace bM := ae.mk (Kd.bD (qr bM) hb); replace kg := ae.mk (Kd.bD (qr kg) hb); replace HB := ae.mk (aj (qw HB) hb); (try clear hb); (try clear hb2); (try clear hk); (try clear hi)) | ((with_reducible refine aH (f := 23) rfl ?_); refine bN (some 52) rfl rfl Tryz.func23 (by kernel_rfl) rfl #[.slice BD fw.length BF] rfl qt ?_; (with_reducible refine (aU.calls k2 _ _ fw t145 _ ?aX ?aY A62.out).mono ?_); (case aX => exact qs ((Kd.aV bM.out).2.2)); (case aY => exact (Kd.aV bM.out).2.1); rintro e w79 ⟨rfl, hb⟩; refine ⟨_, rfl, ?_⟩; replace bM := ae.mk (Kd.bD (qr bM) hb); replace kg := ae.mk (Kd.bD (qr kg) hb); replace HB := ae.mk (aj (qw HB) hb); (try clear hb); (try clear hb2); (try clear hk); (try clear hi)))
        go_ret
        exact ⟨by first | rfl | (simp [errW_none, errW_some] <;> rfl) | (simp [*, errW_none, errW_some] <;> rfl), by repeat (first | (with_reducible first | exact HB.out | apply au | apply ai | apply ak) | exact HB.out)⟩
      ·rw [if_neg c60] at H
       exact absurd H (by simp)
end Go.Proofs.YteidaijpaijgpaaGreatDoor.P
end
section
set_option linter.unusedVariables false
set_option linter.unusedSimpArgs false
namespace Go.Proofs.YteidaijpaijgpaaGreatDoor.Pk
open Go.Proofs.YteidaijpaijgpaaGreatDoor.P Go.Proofs.YteidaijpaijgpaaGreatDoorW.ay Go.Proofs.YteidaijpaijgpaaGreatDoorW.aQ Go.Proofs.YteidaijpaijgpaaGreatDoorW.aZ Go.RowKit Go.Proofs.YteidaijpaijgpaaGreatDoor.Pc
def kv (l : List Qy) : Bool := l.any (fun q => decide (64 < q.f6))
theorem uk (l : List Qy) (hl : l.length ≤ 1000) (d : Nat) : ∀ i : Nat, i + d = l.length →
  ∃ r : Int, Ev (fun k => bZ.l0 k l (l.length : Int) (i : Int)) r ∧ decide (0 ≤ r) = kv (l.drop i) := by
 induction d with
 | zero =>
  intro i hi
  refine ⟨-1, Ev.step (f := fun _ => some (-1)) (fun k => ?_) (Ev.now _), ?_⟩
  ·rw [bZ.l0, if_neg (by omega)]
  ·rw [List.drop_eq_nil_of_le (by omega)]; rfl
 | succ d ih =>
  intro i hi
  have hlt : i < l.length := by omega
  obtain ⟨q, hq⟩ : ∃ q, l[i]? = some q := ⟨_, List.getElem?_eq_getElem hlt⟩
  have hd : l.drop i = q :: l.drop (i + 1) := by
   obtain ⟨h, rfl⟩ := List.getElem?_eq_some_iff.1 hq
   exact List.drop_eq_getElem_cons h
  by_cases h : 64 < q.f6
  ·refine ⟨(i : Int), Ev.step (f := fun _ => some (i : Int)) (fun k => ?_) (Ev.now _), ?_⟩
   ·rw [bZ.l0, if_pos (by omega), if_pos (by omega), if_pos (by omega), rdQ l i q hq]
    unfold gY.f
    rw [Option.bind_some, if_pos (decide_eq_true h)]
   ·rw [hd]; simp [kv, h]
  ·obtain ⟨r, he, hr⟩ := ih (i + 1) (by omega)
   refine ⟨r, Ev.step (fun k => ?_) he, ?_⟩
   ·rw [bZ.l0, if_pos (by omega), if_pos (by omega), if_pos (by omega), rdQ l i q hq]
    unfold gY.f
    rw [Option.bind_some, decide_eq_false h, if_neg (by decide), w64 (by omega) (by omega)]
    rfl
   ·rw [hr, hd]; simp [kv, h]
def fits (l : List Qy) : Bool := decide (l.length ≤ 32) && !kv l && decide ((nH (l.map QL)).size ≤ 8192)
theorem xE (l : List Qy) (hl : l.length ≤ 1000) (hg : ∀ q ∈ l, kT q) : Ev (fun k => bI.f k l) (fits l) := by
 unfold bI.f fits
 by_cases h : (l.length : Int) > 32
 ·refine Ev.pos h ?_
  rw [decide_eq_false (show ¬ l.length ≤ 32 by omega)]
  exact Ev.now _
 ·refine Ev.neg h ?_
  rw [decide_eq_true (show l.length ≤ 32 by omega)]
  obtain ⟨r, he, hr⟩ := uk l hl l.length 0 (by omega)
  have h2 : Ev (fun k => fP.f k l rQ) (kv l) := by
   unfold fP.f bZ.f
   refine Ev.bind he ?_
   rw [hr]
   exact Ev.now _
  refine Ev.bind h2 ?_
  cases hb : kv l with
  | true => exact Ev.pos rfl (Ev.now _)
  | false => exact Ev.neg (by decide) (Ev.bind (uX l hl hg) (Ev.now' fun k => by simp; omega))
theorem xG (l : List Qy) (hl : l.length ≤ 1000) (hg : ∀ q ∈ l, kT q) (d : Nat) : ∀ i : Nat, i + d = l.length →
  Ev (fun k => aU.l0 k l (i : Int)) (decide (l.length ≤ 32) && !kv (l.drop i) && decide ((nH (l.map QL)).size ≤ 8192)) := by
 induction d with
 | zero =>
  intro i hi
  rw [List.drop_eq_nil_of_le (by omega)]
  by_cases h : l.length ≤ 32
  ·rw [decide_eq_true h]
   refine Ev.step (f := fun k => (bX.f k l).bind fun t => some (decide ((t.size : Int) ≤ 8192))) (fun k => ?_) (Ev.bind (tV l hl hg) (Ev.now' fun k => by simp [kv]; omega))
   rw [aU.l0, if_neg (by omega), if_pos (by omega)]
  ·rw [decide_eq_false h]
   refine Ev.step (f := fun k => some false) (fun k => ?_) (Ev.now _)
   rw [aU.l0, if_neg (by omega), if_neg (by omega)]
 | succ d ih =>
  intro i hi
  have hlt : i < l.length := by omega
  obtain ⟨q, hq⟩ : ∃ q, l[i]? = some q := ⟨_, List.getElem?_eq_getElem hlt⟩
  have hd : l.drop i = q :: l.drop (i + 1) := by
   obtain ⟨h, rfl⟩ := List.getElem?_eq_some_iff.1 hq
   exact List.drop_eq_getElem_cons h
  rw [hd]
  by_cases h : q.f6 > 64
  ·refine Ev.step (f := fun k => some false) (fun k => ?_) (Ev.now' fun k => by simp [kv, show 64 < q.f6 from h])
   rw [aU.l0, if_pos (by omega), if_pos (by omega), rdQ l i q hq, if_pos h]
  ·have h3 := ih (i + 1) (by omega)
   have e : kv (q :: l.drop (i + 1)) = kv (l.drop (i + 1)) := by simp [kv, show ¬ 64 < q.f6 from h]
   rw [e]
   refine Ev.step (fun k => ?_) h3
   rw [aU.l0, if_pos (by omega), if_pos (by omega), rdQ l i q hq, if_neg h, w64 (by omega) (by omega)]
   rfl
theorem vI (l : List Qy) (hl : l.length ≤ 1000) (hg : ∀ q ∈ l, kT q) : Ev (fun k => aU.f k l) (fits l) := xG l hl hg l.length 0 (by omega)
theorem yK : Ev (fun k => bv.f k) true := Ev.of bv.mono (show bv.f 60 = some true by kernel_rfl)
def fin (k : Nat) (x : List Qy) : Option Bool := (some (([] : List Qy) : List Qy)).bind fun y120 => (if y120.length + x.length < 1599289640401 then ((bI.f k (y120 ++ x)).bind fun lw => ((aU.f k x).bind fun t127 => (if (lw == t127) = true then ((bv.f k).bind fun nM => (some nM)) else (some false)))) else (none))
theorem ul (x : List Qy) (hx : x.length ≤ 1000) (hg : ∀ q ∈ x, kT q) : Ev (fun k => fin k x) true := by
 unfold fin
 refine Ev.bind (Ev.now _) (Ev.pos (by simp; omega) ?_)
 rw [List.nil_append]
 exact Ev.bind (xE x hx hg) (Ev.bind (vI x hx hg) (Ev.pos (by simp) (Ev.bind yK (Ev.now _))))
theorem vJ (n : Int) (d : Nat) : ∀ (i : Nat) (x : List Qy), i + d = 40 → x.length ≤ 8 + i → (∀ q ∈ x, kT q) → Ev (fun k => aG.l1 k n x (i : Int)) true := by
 induction d with
 | zero =>
  intro i x hi hx hg
  refine Ev.step (fun k => ?_) (ul x (by omega) hg)
  rw [aG.l1]
  by_cases h : (i : Int) < n
  ·rw [if_pos h, if_neg (by omega)]; rfl
  ·rw [if_neg h]; rfl
 | succ d ih =>
  intro i x hi hx hg
  by_cases h : (i : Int) < n
  ·by_cases hz : (x.length : Int) > 0
   ·obtain ⟨q, hq⟩ : ∃ q, x[0]? = some q := ⟨_, List.getElem?_eq_getElem (show 0 < x.length by omega)⟩
    have hr := rdQ x 0 q hq
    refine Ev.step (fun k => ?_) (ih (i + 1) (x ++ [q]) (by omega) (by simp; omega) (fun y hy => by
     rcases List.mem_append.1 hy with hy | hy
     ·exact hg y hy
     ·obtain rfl := List.mem_singleton.1 hy
      exact hg _ (List.mem_of_getElem? hq)))
    rw [aG.l1, if_pos h, if_pos (by omega), if_pos hz, if_pos (by omega), if_pos (by omega), w64 (by omega) (by omega)]
    rw [show (0 : Int) = ((0 : Nat) : Int) from rfl, hr]
    rfl
   ·refine Ev.step (fun k => ?_) (ul x (by omega) hg)
    rw [aG.l1, if_pos h, if_pos (by omega), if_neg hz]; rfl
  ·refine Ev.step (fun k => ?_) (ul x (by omega) hg)
   rw [aG.l1, if_neg h]; rfl
theorem xH (l : List Qy) (n : Int) (hr : ∀ q ∈ l, yl q) (d : Nat) : ∀ i : Nat, i + d = 8 → i ≤ l.length → Ev (fun k => aG.l0 k l n ((l.take i).map jU) (i : Int)) true := by
 have hj : ∀ i : Nat, i ≤ 8 → Ev (fun k => aG.j1 k n ((l.take i).map jU)) true := fun i hi => by
  refine Ev.step (fun k => ?_) (vJ n 40 0 ((l.take i).map jU) rfl (by simp; omega) (fun q hq => by
   obtain ⟨q', hq', rfl⟩ := List.mem_map.1 hq
   exact tX (hr q' (List.mem_of_mem_take hq'))))
  rw [aG.j1]; rfl
 induction d with
 | zero =>
  intro i hi hle
  refine Ev.step (fun k => ?_) (hj i (by omega))
  rw [aG.l0]
  by_cases h : (i : Int) < (l.length : Int)
  ·rw [if_pos h, if_neg (by omega)]
  ·rw [if_neg h]
 | succ d ih =>
  intro i hi hle
  by_cases h : (i : Int) < (l.length : Int)
  ·have hlt : i < l.length := by omega
   obtain ⟨q, hq⟩ : ∃ q, l[i]? = some q := ⟨_, List.getElem?_eq_getElem hlt⟩
   have hl3 : ((l.take i).map jU).length = i := by simp; omega
   have hy : (l.take i).map jU ++ [jU q] = (l.take (i + 1)).map jU := by rw [List.take_add_one, hq]; simp
   refine Ev.step (fun k => ?_) (ih (i + 1) (by omega) (by omega))
   rw [aG.l0, if_pos h, if_pos (by omega), if_pos (by omega), rdQ l i q hq, xg, Option.bind_some, if_pos (by rw [hl3]; omega), w64 (by omega) (by omega)]
   have e : (⟨q.f0, ku q.f1, ku q.f2, ku q.f3, q.f4, ⟨q.f5.f0, q.f5.f1⟩, (jU q).f6⟩ : Qy) = jU q := rfl
   simp only [e, hy]
   rfl
  ·refine Ev.step (fun k => ?_) (hj i (by omega))
   rw [aG.l0, if_neg h]
theorem zF (l : List Qy) (n : Int) (hr : ∀ q ∈ l, yl q) : Ev (fun k => aG.f k l n) true := xH l n hr 8 0 rfl (Nat.zero_le _)
end Go.Proofs.YteidaijpaijgpaaGreatDoor.Pk
end
section
namespace Go.Proofs.YteidaijpaijgpaaGreatDoor.limitsQueries
open Go.ChangeShapes Go.WideShapes Go.ChangeAt Go.RowKit
open Go.Proofs.YteidaijpaijgpaaGreatDoor.P Go.Proofs.YteidaijpaijgpaaGreatDoorW.ay Go.Proofs.YteidaijpaijgpaaGreatDoor.Open
set_option linter.unusedVariables false
theorem own : ownKnob Tryz.prog.godebug = none := by kernel_rfl
theorem laidOut : laidOutB Tryz.prog = true := by kernel_rfl
set_option maxRecDepth 100000 in
theorem lifted (os : Os) (started : os.Started) (H : Type) (enc : TypeId × Value → H) :
    ReturnsInHanded {} Tryz.checked os 5 .any (fun w args => (Rows.limitsQueriesSpec.pre enc Tryz.prog Tryz.f5 [] false w args ∧ laidMetH Tryz.prog pg.l5 w) ∧ sizedMet enc Tryz.prog Tryz.f5 (OpenSpec.ofChange Rows.limitsQueriesSpec) false w args)
      (Rows.limitsQueriesSpec.post enc Tryz.prog Tryz.f5 false true false false) := by
  refine returnsInHanded_of_change_and (C := Tryz.checked) (X := fun w _ => laidMetH Tryz.prog pg.l5 w) (fun _ _ _ hh h => h.of_heap hh) own started (by kernel_rfl) Tryz.func5
    (ChangeSpec.witness_shaped (enc := enc) (C := Tryz.checked) (os := os) (X := fun w _ => laidMetH Tryz.prog pg.l5 w) false (pg.world os) #[.slice none 0 0, .int .i64 0] 8 rfl (World.shaped_of_RefB (by kernel_rfl) (by kernel_rfl)) (by kernel_rfl) (by kernel_rfl) (by kernel_rfl) (pg.BK os _)) ?_
  intro W base args ds gs before hval0 hW _ _ hL _
  have hval : ∀ (j : Nat) t v, Tryz.f5.params[j]? = some t → args[j]? = some v → Value.okWide Tryz.prog W .any base t v := hval0
  have hW' := hW
  obtain ⟨p, q, hA0, hV, rfl, hfz, hnd⟩ := hW
  have hA : DataW.TrodAll enc Tryz.prog W 0 (fun _ => true) true Tryz.f5.params.toList args.toList ds p := hA0
  rw [Tryz.params5] at hA hval
  obtain ⟨v0, vs0, d0, ds0, p0, q0, hargs, rfl, rfl, h0, r0⟩ := trodAll_cons hA
  obtain ⟨v1, vs1, d1, ds1, p1, q1, rfl, rfl, rfl, h1, r1⟩ := trodAll_cons r0
  obtain ⟨rfl, rfl, rfl⟩ := trodAll_nil r1
  obtain rfl : args = #[v0, v1] := by cases args; simp_all
  obtain ⟨rfl, rfl⟩ := trodVars_none hV
  have lt0 : ∀ x ∈ p0, x.block < W.heap.size := by obtain ⟨m, hm⟩ := h0; exact DataW.trod_lt m _ _ _ hm
  have lt1 : ∀ x ∈ p1, x.block < W.heap.size := by obtain ⟨m, hm⟩ := h1; exact DataW.trod_lt m _ _ _ hm
  obtain ⟨n1, e1⟩ := okWide_int Tryz.underlying3 (hval 1 3 v1 rfl rfl)
  obtain ⟨A0, c0, l0, e0, C0, R0, Q0⟩ := uS Tryz.underlying43 (rU Tryz.underlying43 (by kernel_rfl) su) (hval 0 43 v0 rfl rfl) h0
  clear hA0 hval0
  obtain ⟨k, hk⟩ := (Pk.zF l0 n1 Q0).rounds
  have HGT := pg.gt5 hL
  subst e0 e1
  refine (aG.calls k A0 c0 l0 n1 true W R0 C0 hk HGT).mono fun e W' ⟨he, bel⟩ => ?_
  subst he
  exact ⟨_, rfl, _, _, _, [], _, [], hW', trodAll_mk1 (shut_bool Tryz.underlying4 _), trodAll_cons_mk (Below.trod laidOut (by kernel_rfl) (of_decide_eq_true (by kernel_rfl)) h0 bel lt0) (trodAll_cons_mk (Below.trod laidOut (by kernel_rfl) (of_decide_eq_true (by kernel_rfl)) h1 bel lt1) trodAll_mk0), rfl, bel.frame _, fun h => by cases h⟩
theorem over : Rows.limitsQueriesRow.holds Tryz.pinned (OpenSpec.ofChange Rows.limitsQueriesSpec) :=
  OpenClaim.holds_of_wide 5 Tryz.f5 rfl rfl rfl rfl rfl rfl rfl ⟨rfl, rfl, rfl, rfl, rfl⟩ rfl rfl rfl rfl rfl (by kernel_rfl) Tryz.func5 (by kernel_rfl)
    (of_decide_eq_true (by kernel_rfl)) (by unfold Func.isWrapper; first | (rw [if_pos (by decide +kernel)]; kernel_rfl) | (rw [if_neg (by decide +kernel)]; exact ⟨rfl, rfl⟩))
    (fun os started H enc _ => lifted os started H enc)
end Go.Proofs.YteidaijpaijgpaaGreatDoor.limitsQueries
end
section
namespace Go.Proofs.YteidaijpaijgpaaGreatDoor
open Go
theorem limitsQueries_card : Rows.LimitsQueriesCardSaid :=
  Claim7.holds_tied_plain_at .later [] [.data, .data, .data, .data, .pinned] true Rows.limitsQueriesCard.stood.harness false
    limitsQueries.over (fun _ h => by cases h) (by kernel_rfl) (fun _ h => by cases h) limitsQueries_row_tie rfl ⟨rfl, rfl⟩ (by kernel_rfl) rfl
    (fun f fn hf hfn => by
      obtain rfl : f = 5 := (Option.some.inj ((show Tryz.prog.funcNamed "trivium/triviumlaw24.LimitsQueries" = some 5 by kernel_rfl).symm.trans hf)).symm
      obtain rfl : fn = Tryz.f5 := (Option.some.inj (Tryz.func5.symm.trans hfn)).symm
      exact ⟨by kernel_rfl, fun j t ht => by
        rw [Tryz.params5] at ht
        rcases j with _ | _ | j
        · obtain rfl : t = 43 := by simpa using ht.symm
          exact (show Tryz.prog.wantsStandIn 43 = false by kernel_rfl)
        · obtain rfl : t = 3 := by simpa using ht.symm
          exact (show Tryz.prog.wantsStandIn 3 = false by kernel_rfl)
        · simp at ht⟩)
    (by kernel_rfl)
end Go.Proofs.YteidaijpaijgpaaGreatDoor
end
