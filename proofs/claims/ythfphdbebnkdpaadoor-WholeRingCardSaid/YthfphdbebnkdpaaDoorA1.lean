/- Part 1 of a proof that was merged by a program. -/
import Derived.Below
import Derived.Deep.Draws
import Derived.Deep.AppendLies
import Derived.Maps.AppendAt
import Derived.OwnWalk
import Derived.Laws.BytesArg
import Derived.Laws.MakeOwn
import Derived.Laws.OwnMore
import Derived.Deep.OwnRows
import Derived.Tactics
import Derived.Lib.ConvBytes
import Derived.Laws.Slices
import Derived.WalkKit
import Derived.KernelRfl
import Derived.RowKit3
import Derived.Deep.LoopGhost
import Derived.Deep.QuietTactic
import Derived.BigQuiet
import Derived.WideLaws
import Derived.Deep.DeepCutAuto
import Derived.Deep.CutBlock
import Derived.Deep.RegionHeld3
import Derived.Laws.Rows
import Derived.Lib.AppendStr
import Derived.ArgAppend
import Derived.Laws.IdiomCopy
import Derived.RowKit
import Derived.OrdersHeld
import Derived.Laws.BitsLemmas
import Derived.Test.YthfphdbebnkdpaaDoorRows
import Derived.PinnedBridge
import Derived.Lib.LaidU8
import Derived.LaidHandle
import Derived.LaidLaws
import Derived.ProofKit
import Derived.Laws.StructEq
import Derived.Test.YthfphdbebnkdpaaDoorProg
import Derived.Laws.CopyOwn
import Derived.Lib.Builder
import Derived.Laws.Bits64
import Derived.Lib.Hide
import Derived.Shelf.Strings.Builder1
import Derived.Shelf.Strings.Builder2
import Derived.Shelf.Strings.OnBuilder
import Derived.Shelf.Strings.Trim
import Derived.Shelf.Small.Utf8
import Derived.Shelf.Small.Strs
import Derived.Shelf.Strings.BuilderF
import Derived.Shelf.Strings.BuilderK
import Derived.Shelf.Strings.Builder2Cap
import Derived.Shelf.Strings.Search1
import Derived.Shelf.Strings.Search2
import Derived.Shelf.Strings.Cut
import Derived.Shelf.LaysM
import Derived.Shelf.Strings.Shaped
import Derived.Shelf.Strings.Runes
import Derived.Shelf.Strings.AsciiSet
import Derived.Shelf.Unicode.DecodeSlow
import Derived.Shelf.Strings.BuilderCap
import Derived.OpenShut
import Derived.ShutString
import Derived.ChangeOld
import Derived.Carry
import Derived.SizedLaws
import Derived.Lib.SmallJoins
import Derived.Test.YthfphdbebnkdpaaDoorCards
import Derived.Test.YthfphdbebnkdpaaDoorTie
import Derived.SevenTiedAt
import Derived.Test.YthfphdbebnkdpaaDoorA0
section
namespace Go.Proofs.YthfphdbebnkdpaaDoor.P
open Go.RowKit Go.Proofs.YthfphdbebnkdpaaDoorW.aZ Go.Proofs.YthfphdbebnkdpaaDoorW.bL Go.Proofs.YthfphdbebnkdpaaDoorW.dC
attribute [local go_sem] dZ d9 fA fB dH dI ed ek
set_option linter.unusedVariables false
set_option linter.unusedSimpArgs false
def mE.f (a0 : Int) (a1 : Int) (a2 : Int) (a3 : Int) : Option (Int × Int) := some (Go.bits .and .u64 (IntKind.u64.wrap ((IntKind.u64.wrap ((IntKind.u64.wrap ((Go.bits .and .u64 a0 4294967295) * (Go.bits .and .u64 a1 4294967295))) + (Go.bits .and .u64 a2 4294967295))) + (Go.bits .and .u64 a3 4294967295))) 4294967295, (IntKind.u64.wrap ((IntKind.u64.wrap ((IntKind.u64.wrap ((Go.bits .and .u64 a0 4294967295) * (Go.bits .and .u64 a1 4294967295))) + (Go.bits .and .u64 a2 4294967295))) + (Go.bits .and .u64 a3 4294967295))) / 4294967296)
set_option maxHeartbeats 8000000 in
set_option maxRecDepth 100000 in
theorem mE.calls (a0 : Int) (a1 : Int) (a2 : Int) (a3 : Int) (r1 : Int) (r2 : Int) (w : World) (h : mE.f a0 a1 a2 a3 = some (r1, r2)) :
  Calls Tryd.prog 118 #[.int .u64 a0, .int .u64 a1, .int .u64 a2, .int .u64 a3] w fun e w' => e = .returned (.tuple #[.int .u64 r1, .int .u64 r2]) ∧ bZ w w' := by
 have H : (some (Go.bits .and .u64 (IntKind.u64.wrap ((IntKind.u64.wrap ((IntKind.u64.wrap ((Go.bits .and .u64 a0 4294967295) * (Go.bits .and .u64 a1 4294967295))) + (Go.bits .and .u64 a2 4294967295))) + (Go.bits .and .u64 a3 4294967295))) 4294967295, (IntKind.u64.wrap ((IntKind.u64.wrap ((IntKind.u64.wrap ((Go.bits .and .u64 a0 4294967295) * (Go.bits .and .u64 a1 4294967295))) + (Go.bits .and .u64 a2 4294967295))) + (Go.bits .and .u64 a3 4294967295))) / 4294967296)) = some (r1, r2) := h
 clear h
 simp only [Option.some.injEq, Prod.mk.injEq] at H
 obtain ⟨rfl, rfl⟩ := H
 go_enter Tryd.func118, Tryd.ntmps118
 go_wp2
 go_ret2
 exact ⟨by first | rfl | (simp; done) | (simp [*]; done), by repeat (first | exact bZ.refl _ | apply bZ.step)⟩
end Go.Proofs.YthfphdbebnkdpaaDoor.P
end
section
namespace Go.Proofs.YthfphdbebnkdpaaDoor.P
open Go.RowKit Go.Proofs.YthfphdbebnkdpaaDoorW.aZ Go.Proofs.YthfphdbebnkdpaaDoorW.bL Go.Proofs.YthfphdbebnkdpaaDoorW.dC
attribute [local go_sem] dZ d9 fA fB dH dI ed ek
set_option linter.unusedVariables false
set_option linter.unusedSimpArgs false
mutual
def gp.l0 : Nat → List Int → List Int → List Int → Int → Int → Option (List Int)
 | 0, _, _, _, _, _ => none
 | k + 1, x1, x5, x17, x18, x19 => if x19 < x18 then (if 0 ≤ x19 then (if x19 < (x17.length : Int) then (gp.l1 k x1 x5 x19 (rd x17 x19) 0 x17 x18 x19 x1 (x1.length : Int) 0) else (none)) else (none)) else ((jy.f k x5).bind fun fQ => (some fQ))
def gp.l1 : Nat → List Int → List Int → Int → Int → Int → List Int → Int → Int → List Int → Int → Int → Option (List Int)
 | 0, _, _, _, _, _, _, _, _, _, _, _ => none
 | k + 1, x1, x5, x6, x7, x8, x17, x18, x19, x24, x25, x26 => if x26 < x25 then (if 0 ≤ x26 then (if x26 < (x24.length : Int) then (if 0 ≤ (wrap64 (x6 + x26)) then (if (wrap64 (x6 + x26)) < (x5.length : Int) then ((mE.f x7 (rd x24 x26) (rd x5 (wrap64 (x6 + x26))) x8).bind fun ik => (gp.l1 k x1 (x5.set ((wrap64 (x6 + x26)) : Int).toNat ik.1) x6 x7 ik.2 x17 x18 x19 x24 x25 (wrap64 (x26 + 1)))) else (none)) else (none)) else (none)) else (none)) else (if 0 ≤ (wrap64 (x6 + (x1.length : Int))) then (if (wrap64 (x6 + (x1.length : Int))) < (x5.length : Int) then (gp.l0 k x1 (x5.set ((wrap64 (x6 + (x1.length : Int))) : Int).toNat x8) x17 x18 (wrap64 (x19 + 1))) else (none)) else (none))
end
def gp.f (k : Nat) (l0 : List Int) (l1 : List Int) : Option (List Int) := if 0 ≤ (wrap64 ((l0.length : Int) + (l1.length : Int))) then (if (wrap64 ((l0.length : Int) + (l1.length : Int)) : Int).toNat ≤ 35184372088832 then (gp.l0 k l1 (List.replicate (wrap64 ((l0.length : Int) + (l1.length : Int)) : Int).toNat 0) l0 (l0.length : Int) 0) else (none)) else (none)
set_option maxHeartbeats 8000000 in
set_option maxRecDepth 100000 in
theorem gp.calls (k : Nat) (A0 : Option Addr) (c0 : Nat) (l0 : List Int) (A1 : Option Addr) (c1 : Nat) (l1 : List Int) (r : List Int) (w : World) (hr0 : Kd.C (Kd.int .u64) w A0 l0.length l0) (hc0 : l0.length ≤ c0) (hr1 : Kd.C (Kd.int .u64) w A1 l1.length l1) (hc1 : l1.length ≤ c1) (h : gp.f k l0 l1 = some r) :
  Calls Tryd.prog 82 #[.slice A0 l0.length c0, .slice A1 l1.length c1] w fun e w' => ∃ v0_ : Value, e = .returned (v0_) ∧ Kd.R (Kd.int .u64) 64 w' w.heap.size (fun _ => True) v0_ r ∧ Below w.heap.size w w' := by
 have HR0 := ae.mk hr0
 have HC0 := ae.mk hc0
 clear hr0 hc0
 have HR1 := ae.mk hr1
 have HC1 := ae.mk hc1
 clear hr1 hc1
 have HB := ae.mk (Below.refl w.heap.size w)
 have H : (if 0 ≤ (wrap64 ((l0.length : Int) + (l1.length : Int))) then (if (wrap64 ((l0.length : Int) + (l1.length : Int)) : Int).toNat ≤ 35184372088832 then (gp.l0 k l1 (List.replicate (wrap64 ((l0.length : Int) + (l1.length : Int)) : Int).toNat 0) l0 (l0.length : Int) 0) else (none)) else (none)) = some r := h
 clear h
 obtain ⟨ji3, hji3⟩ : ∃ j_ : Int, (wrap64 ((l0.length : Int) + (l1.length : Int))) = j_ := ⟨_, rfl⟩
 replace H : (if 0 ≤ (ji3) then (if (ji3 : Int).toNat ≤ 35184372088832 then (gp.l0 k l1 (List.replicate (ji3 : Int).toNat 0) l0 (l0.length : Int) 0) else (none)) else (none)) = some r := by first | (rw [hji3] at H; exact H) | (simp only [hji3] at H ⊢; exact H)
 have hji3w : (IntKind.i64.wrap ((l0.length : Int) + (l1.length : Int))) = ji3 := (gT _).trans hji3
 by_cases c4 : 0 ≤ (ji3)
 ·rw [if_pos c4] at H
  have ll := eq_true c4
  have pQ : decide (0 ≤ (ji3)) = true := decide_eq_true c4
  clear c4
  by_cases c5 : (ji3 : Int).toNat ≤ 35184372088832
  ·rw [if_pos c5] at H
   have jW := eq_true c5
   have pR : decide ((ji3 : Int).toNat ≤ 35184372088832) = true := decide_eq_true c5
   clear c5
   obtain ⟨y101, hy101⟩ : ∃ y_ : List Int, y_ = (List.replicate (ji3 : Int).toNat 0) := ⟨_, rfl⟩
   replace H : (gp.l0 k l1 y101 l0 (l0.length : Int) 0) = some r := by first | (rw [hy101]; with_reducible exact H) | (have H2_ := (Option.bind_some _ _).symm.trans H; rw [hy101]; with_reducible exact H2_) | (have H2_ := (Option.bind_some _ _).symm.trans H; with_reducible exact H2_) | with_reducible exact H | (rw [hy101]; exact H) | exact H
   have Ny101 := ae.mk hy101
   clear hy101
   have H' := ae.mk H
   clear H
   go_enter Tryd.func82, Tryd.ntmps82
   go_wp2_with (first | ((with_reducible refine bR (N := 16) rfl ?_); refine Kd.pM (Kd.int .u64) _ 64 rfl (N := 16) rfl 22 _ _ rfl ji3 rfl rfl Tryd.underlying22 (.int .u64 0) 8 lX rfl (by decide) (by omega) 0 (ok := fun _ => True) (okp := fun _ => True) rfl (fun _ hk => hk) trivial (of_decide_eq_true qa) (Nat.le_trans (Nat.mul_le_mul_right _ (of_decide_eq_true qa : ji3.toNat ≤ 35184372088832)) (by omega)) (Below.refl _ _) (Nat.le_refl _) ?_; intro v102 w6 ho7 hb hg_ hnew_; clear hg_ hnew_; (first | rw [← Ny101.out] at ho7 | (simp only [Int.reduceToNat] at ho7; rw [← Ny101.out] at ho7)); have nI := ae.mk (Kd.bz ho7 (aN (qw HB))); replace HB := ae.mk (av (qw HB) hb); clear hb ho7))
   go_loopg [19] k (fun kq v19 w' => ∃ (fC : List Int) (jF : Int), v19 = .int .i64 jF ∧ ae (gp.l0 kq l1 fC l0 (l0.length : Int) jF = some r) ∧ ae (kq ≤ k) ∧ ae (Kd.R (Kd.int .u64) 64 w' w.heap.size (fun _ => True) v102 fC) ∧ ae (Below w.heap.size w w'))
   case atStart => exact ⟨(y101), (0), (by first | rfl | (simp; done) | (simp [*]; done)), H', ⟨Nat.le_refl _⟩, ⟨by (with_reducible repeat (first | apply Kd.bu | apply Kd.bv | apply Kd.bg)); exact nI.out⟩, ⟨by repeat (first | (with_reducible first | exact HB.out | apply aM | apply aD | apply aH) | exact HB.out)⟩⟩
   case round =>
    clear H'
    try clear c1
    try clear p2
    try clear c4
    try clear ll
    try clear pQ
    try clear c5
    try clear jW
    try clear pR
    try clear p6
    obtain ⟨fC, jF, rfl, HA, HK1, kM, HB⟩ := hrel
    cases gk with
    | zero => exact absurd HA.out (by simp [gp.l0])
    | succ k1 =>
     have H := HA.out
     clear HA
     simp only [gp.l0] at H
     by_cases c8 : jF < (l0.length : Int)
     ·rw [if_pos c8] at H
      have oZ : decide (jF < (l0.length : Int)) = true := decide_eq_true c8
      clear c8
      by_cases c9 : 0 ≤ jF
      ·rw [if_pos c9] at H
       have qc : decide (0 ≤ jF) = true := decide_eq_true c9
       clear c9
       by_cases c10 : jF < (l0.length : Int)
       ·rw [if_pos c10] at H
        have qf : decide (jF < (l0.length : Int)) = true := decide_eq_true c10
        clear c10
        have H' := ae.mk H
        clear H
        have p107 : 0 ≤ (jF : Int) := of_decide_eq_true qa
        have q107 : jF < (l0.length : Int) := of_decide_eq_true qa
        obtain ⟨ad107, e107, hx107_0⟩ := Kd.gH HR0.out jF p107 q107
        cases e107
        replace hx107_0 := (HB.out.cell (World.block_lt_of_cell? w _ hx107_0)).trans hx107_0
        replace p107 := eq_true p107
        replace q107 := eq_true q107
        go_wp2
        go_loopg [8, 26] k1 (fun kq v8 v26 w' => ∃ (jl : List Int) (vI : Int) (ng : Int), v8 = .int .u64 vI ∧ v26 = .int .i64 ng ∧ ae (gp.l1 kq l1 jl jF (rd l0 jF) vI l0 (l0.length : Int) jF l1 (l1.length : Int) ng = some r) ∧ ae (kq ≤ k1) ∧ ae (Kd.R (Kd.int .u64) 64 w' w.heap.size (fun _ => True) v102 jl) ∧ ae (Below w.heap.size w w'))
        case atStart => exact ⟨(fC), (0), (0), (by first | rfl | (simp; done) | (simp [*]; done)), (by first | rfl | (simp; done) | (simp [*]; done)), H', ⟨Nat.le_refl _⟩, ⟨by (with_reducible repeat (first | apply Kd.bu | apply Kd.bv | apply Kd.bg)); exact kM.out⟩, ⟨by repeat (first | (with_reducible first | exact HB.out | apply aM | apply aD | apply aH) | exact HB.out)⟩⟩
        case round =>
         clear H'
         try clear c1
         try clear p1
         try clear q1
         try clear hx1
         try clear p2
         try clear c4
         try clear ll
         try clear pQ
         try clear c5
         try clear jW
         try clear pR
         try clear p6
         try clear c8
         try clear oZ
         try clear c9
         try clear qc
         try clear c10
         try clear qf
         try clear p10
         try clear q10
         try clear hx10
         try clear hx107_0
         try clear p107
         try clear p2
         try clear p6
         try clear q107
         obtain ⟨jl, vI, ng, rfl, rfl, HA, HK2, kM, HB⟩ := hrel
         cases gk with
         | zero => exact absurd HA.out (by simp [gp.l1])
         | succ k2 =>
          have H := HA.out
          clear HA
          simp only [gp.l1] at H
          by_cases c11 : ng < (l1.length : Int)
          ·rw [if_pos c11] at H
           have qB : decide (ng < (l1.length : Int)) = true := decide_eq_true c11
           clear c11
           by_cases c12 : 0 ≤ ng
           ·rw [if_pos c12] at H
            have su : decide (0 ≤ ng) = true := decide_eq_true c12
            clear c12
            by_cases c13 : ng < (l1.length : Int)
            ·rw [if_pos c13] at H
             have qg : decide (ng < (l1.length : Int)) = true := decide_eq_true c13
             clear c13
             obtain ⟨ji14, hji14⟩ : ∃ j_ : Int, (wrap64 (jF + ng)) = j_ := ⟨_, rfl⟩
             (try (have hji14r := hji14; simp only [hji3] at hji14r))
             (try (have hji14wr := (gT _).trans hji14r))
             replace H : (if 0 ≤ (ji14) then (if (ji14) < (jl.length : Int) then ((mE.f (rd l0 jF) (rd l1 ng) (rd jl (ji14)) vI).bind fun ik => (gp.l1 k2 l1 (jl.set ((ji14) : Int).toNat ik.1) jF (rd l0 jF) ik.2 l0 (l0.length : Int) jF l1 (l1.length : Int) (wrap64 (ng + 1)))) else (none)) else (none)) = some r := by first | (rw [hji14] at H; exact H) | (simp only [hji14] at H ⊢; exact H)
             have hji14w : (IntKind.i64.wrap (jF + ng)) = ji14 := (gT _).trans hji14
             by_cases c15 : 0 ≤ (ji14)
             ·rw [if_pos c15] at H
              have o5 : decide (0 ≤ (ji14)) = true := decide_eq_true c15
              clear c15
              by_cases c16 : (ji14) < (jl.length : Int)
              ·rw [if_pos c16] at H
               have xn : decide ((ji14) < (jl.length : Int)) = true := decide_eq_true c16
               clear c16
               replace H := Option.bind_eq_some_iff.mp H
               obtain ⟨⟨bi, kE⟩, A170, H⟩ := H
               replace H : (gp.l1 k2 l1 (jl.set ((ji14) : Int).toNat bi) jF (rd l0 jF) kE l0 (l0.length : Int) jF l1 (l1.length : Int) (wrap64 (ng + 1))) = some r := H
               have A17 := ae.mk A170
               clear A170
               obtain ⟨y112, hy112⟩ : ∃ y_ : List Int, y_ = (jl.set ((ji14) : Int).toNat bi) := ⟨_, rfl⟩
               replace H : (gp.l1 k2 l1 y112 jF (rd l0 jF) kE l0 (l0.length : Int) jF l1 (l1.length : Int) (wrap64 (ng + 1))) = some r := by first | (rw [hy112]; with_reducible exact H) | (have H2_ := (Option.bind_some _ _).symm.trans H; rw [hy112]; with_reducible exact H2_) | (have H2_ := (Option.bind_some _ _).symm.trans H; with_reducible exact H2_) | with_reducible exact H | (rw [hy112]; exact H) | exact H
               have Ny112 := ae.mk hy112
               clear hy112
               have H' := ae.mk H
               clear H
               have p108 : 0 ≤ (ng : Int) := of_decide_eq_true qa
               have q108 : ng < (l1.length : Int) := of_decide_eq_true qa
               obtain ⟨ad108, e108, hx108_0⟩ := Kd.gH HR1.out ng p108 q108
               cases e108
               replace hx108_0 := (HB.out.cell (World.block_lt_of_cell? w _ hx108_0)).trans hx108_0
               replace p108 := eq_true p108
               replace q108 := eq_true q108
               obtain ⟨fH, fE, tq⟩ := Kd.bD kM.out
               subst tq
               have p109 : 0 ≤ ((ji14) : Int) := of_decide_eq_true qa
               have q109 : (ji14) < (jl.length : Int) := of_decide_eq_true qa
               obtain ⟨ad109, e109, hx109_0⟩ := Kd.gH (Kd.ak kM.out).2.2 (ji14) p109 q109
               cases e109
               replace p109 := eq_true p109
               replace q109 := eq_true q109
               go_wp2_with (first | ((with_reducible refine aW (f := 118) rfl ?_); refine cO (some 45) rfl rfl Tryd.func118 (by kernel_rfl) rfl #[.int .u64 (rd l0 jF), .int .u64 (rd l1 ng), .int .u64 (rd jl (ji14)), .int .u64 vI] rfl (by (try simp only [List.map_toArray, List.map_cons, List.map_nil]); first | done | (simp only [hji14]; rfl) | rfl | (simp only [List.length_drop, List.length_take]; rfl)) ?_; (with_reducible refine (mE.calls (rd l0 jF) (rd l1 ng) (rd jl (ji14)) vI bi kE _ A17.out).mono ?_); rintro e w' ⟨rfl, ⟨nd, rfl⟩⟩; refine ⟨_, rfl, ?_⟩; (try (rw [kD wr]; generalize hq_ : World.drewN wr _ = wr; replace kM : ae (Kd.R (Kd.int .u64) 64 wr w.heap.size (fun _ => True) (.slice (some ad109) jl.length fE) jl) := ⟨by rw [← hq_]; exact (qr kM)⟩; replace HB : ae (Below w.heap.size w wr) := ⟨by rw [← hq_]; exact (qw HB)⟩; clear hq_)); have p18 : 0 ≤ ((ji14) : Int) := of_decide_eq_true qa; have q18 : ((ji14) : Int) < ((jl.length : Int) : Int) := of_decide_eq_true qa; obtain ⟨go18, FP, Co, FQ, gl18, cl18, HG18⟩ := Kd.nP kM.out (by omega); (first | cases Co | (injection Co with ea_ en_ ec_; (first | subst ea_ | (injection ea_ with ea_; subst ea_)); subst ec_; clear en_)); have Jd := ae.mk FQ; have GG18 := ae.mk HG18; clear FQ gl18 HG18; (first | simp only [add_plain] at hx109_0 | skip); obtain ⟨hx18_0, hf18_0⟩ := Kd.jk 0 kM.out ((ji14) : Int) p18 q18; replace p18 := eq_true p18; replace q18 := eq_true q18; obtain ⟨hy20_, hz20_⟩ := Kd.jk 0 kM.out ((ji14) : Int) (of_decide_eq_true qa) (of_decide_eq_true qa); have HP20 := Kd.oq kM.out ((ji14) : Int) bi) | ((with_reducible refine jL (t := 64) (p := 48) rfl ?_); refine jq (t := 64) (p := 48) (v := ?vo_w21) (w1 := (wr.setCell ⟨go18, ((ji14) : Int).toNat, none⟩ (.int .u64 bi))) ?hg ?ho ?hn ?hr ?_; (case ho => rfl); (case hg => rfl); (case hn => rfl); (case hr => first | (go_simp; done) | (go_simp; rfl)); intro w21 hw; have hg : wr.grownBy w21 (some go18) := (by rw [hw]; exact HP20.2); have hp_ : Kd.R (Kd.int .u64) 64 w21 w.heap.size (fun _ => True) (.slice (some ⟨go18, 0, none⟩) jl.length fE) y112 := (by rw [hw, Ny112.out]; exact HP20.1); clear HP20; replace kM := ae.mk (hp_); replace HB := ae.mk ((by rw [hw]; exact aQ (HB.out) Jd.out : Below w.heap.size w w21)); clear hg hw hp_))
               go_roundg k2
               case measure => have := HK1.out; have := HK2.out; omega
               case rel => exact ⟨(y112), (kE), (wrap64 (ng + 1)), (by first | rfl | (simp; done) | (simp [*]; done)), (by first | rfl | (simp; done) | (simp [*]; done)), H', ⟨by have := HK1.out; have := HK2.out; omega⟩, ⟨by (with_reducible repeat (first | apply Kd.bu | apply Kd.bv | apply Kd.bg)); exact kM.out⟩, ⟨by repeat (first | (with_reducible first | exact HB.out | apply aM | apply aD | apply aH) | exact HB.out)⟩⟩
              ·rw [if_neg c16] at H
               exact absurd H (by simp)
             ·rw [if_neg c15] at H
              exact absurd H (by simp)
            ·rw [if_neg c13] at H
             exact absurd H (by simp)
           ·rw [if_neg c12] at H
            exact absurd H (by simp)
          ·rw [if_neg c11] at H
           have qB : decide (ng < (l1.length : Int)) = false := decide_eq_false c11
           clear c11
           obtain ⟨ji22, hji22⟩ : ∃ j_ : Int, (wrap64 (jF + (l1.length : Int))) = j_ := ⟨_, rfl⟩
           (try (have hji22r := hji22; simp only [hji3] at hji22r))
           (try (have hji22wr := (gT _).trans hji22r))
           replace H : (if 0 ≤ (ji22) then (if (ji22) < (jl.length : Int) then (gp.l0 k2 l1 (jl.set ((ji22) : Int).toNat vI) l0 (l0.length : Int) (wrap64 (jF + 1))) else (none)) else (none)) = some r := by first | (rw [hji22] at H; exact H) | (simp only [hji22] at H ⊢; exact H)
           have hji22w : (IntKind.i64.wrap (jF + (l1.length : Int))) = ji22 := (gT _).trans hji22
           by_cases c23 : 0 ≤ (ji22)
           ·rw [if_pos c23] at H
            have FR : decide (0 ≤ (ji22)) = true := decide_eq_true c23
            clear c23
            by_cases c24 : (ji22) < (jl.length : Int)
            ·rw [if_pos c24] at H
             have Dl : decide ((ji22) < (jl.length : Int)) = true := decide_eq_true c24
             clear c24
             obtain ⟨y113, hy113⟩ : ∃ y_ : List Int, y_ = (jl.set ((ji22) : Int).toNat vI) := ⟨_, rfl⟩
             replace H : (gp.l0 k2 l1 y113 l0 (l0.length : Int) (wrap64 (jF + 1))) = some r := by first | (rw [hy113]; with_reducible exact H) | (have H2_ := (Option.bind_some _ _).symm.trans H; rw [hy113]; with_reducible exact H2_) | (have H2_ := (Option.bind_some _ _).symm.trans H; with_reducible exact H2_) | with_reducible exact H | (rw [hy113]; exact H) | exact H
             have Ny113 := ae.mk hy113
             clear hy113
             have H' := ae.mk H
             clear H
             have p25 : 0 ≤ ((ji22) : Int) := of_decide_eq_true qa
             have q25 : ((ji22) : Int) < ((jl.length : Int) : Int) := of_decide_eq_true qa
             obtain ⟨go25, gM, wJ, FT, gl25, cl25, HG25⟩ := Kd.nP kM.out (by omega)
             (first | cases wJ | (injection wJ with ea_ en_ ec_; (first | subst ea_ | (injection ea_ with ea_; subst ea_)); subst ec_; clear en_))
             have Je := ae.mk FT
             have GG25 := ae.mk HG25
             clear FT gl25 HG25
             obtain ⟨hx25_0, hf25_0⟩ := Kd.jk 0 kM.out ((ji22) : Int) p25 q25
             replace p25 := eq_true p25
             replace q25 := eq_true q25
             have HP26 := Kd.oq kM.out ((ji22) : Int) vI
             go_wp2_with (first | ((with_reducible refine jL (t := 64) (p := 56) rfl ?_); refine jq (t := 64) (p := 56) (v := ?vo_w27) (w1 := (wr.setCell ⟨go25, ((ji22) : Int).toNat, none⟩ (.int .u64 vI))) ?hg ?ho ?hn ?hr ?_; (case ho => rfl); (case hg => rfl); (case hn => rfl); (case hr => first | (go_simp; done) | (go_simp; rfl)); intro w27 hw; have hg : wr.grownBy w27 (some go25) := (by rw [hw]; exact HP26.2); have hp_ : Kd.R (Kd.int .u64) 64 w27 w.heap.size (fun _ => True) (.slice (some ⟨go25, 0, none⟩) jl.length gM) y113 := (by rw [hw, Ny113.out]; exact HP26.1); clear HP26; replace kM := ae.mk (hp_); replace HB := ae.mk ((by rw [hw]; exact aQ (HB.out) Je.out : Below w.heap.size w w27)); clear hg hw hp_))
             go_roundg k2
             case measure => have := HK1.out; have := HK2.out; omega
             case rel => exact ⟨(y113), (wrap64 (jF + 1)), (by first | rfl | (simp; done) | (simp [*]; done)), H', ⟨by have := HK1.out; have := HK2.out; omega⟩, ⟨by (with_reducible repeat (first | apply Kd.bu | apply Kd.bv | apply Kd.bg)); exact kM.out⟩, ⟨by repeat (first | (with_reducible first | exact HB.out | apply aM | apply aD | apply aH) | exact HB.out)⟩⟩
            ·rw [if_neg c24] at H
             exact absurd H (by simp)
           ·rw [if_neg c23] at H
            exact absurd H (by simp)
       ·rw [if_neg c10] at H
        exact absurd H (by simp)
      ·rw [if_neg c9] at H
       exact absurd H (by simp)
     ·rw [if_neg c8] at H
      have oZ : decide (jF < (l0.length : Int)) = false := decide_eq_false c8
      clear c8
      replace H := Option.bind_eq_some_iff.mp H
      obtain ⟨fQ, A280, H⟩ := H
      replace H : (some fQ) = some r := H
      have A28 := ae.mk A280
      clear A280
      obtain rfl := Option.some.inj H
      obtain ⟨Jf, pV, ym⟩ := Kd.bD kM.out
      subst ym
      go_wp2_with (first | ((with_reducible refine aW (f := 119) rfl ?_); refine cO (some 59) rfl rfl Tryd.func119 (by kernel_rfl) rfl #[.slice Jf fC.length pV] rfl qt ?_; (with_reducible refine (jy.calls k1 _ _ fC fQ _ ?aU ?aV A28.out).mono ?_); (case aU => exact qs ((Kd.ak kM.out).2.2)); (case aV => exact (Kd.ak kM.out).2.1); rintro e w30 ⟨v105, rfl, ho0, hb⟩; refine ⟨_, rfl, ?_⟩; have jO := ae.mk (Kd.bz (Kd.aA ho0 (Kd.aY (qr kM))) (aN (qw HB))); replace kM := ae.mk (Kd.aj (qr kM) (Kd.az ho0) hb); replace HB := ae.mk (av (qw HB) hb); (try clear hb); (try clear hb2); (try clear hk); (try clear hi); (try clear ho0)))
      go_ret
      exact ⟨_, by first | rfl | (simp [errW_none, errW_some] <;> rfl) | (simp only [← hji3]; first | rfl | (simp [errW_none, errW_some] <;> rfl)) | (simp [*, errW_none, errW_some] <;> rfl), by (with_reducible repeat (first | apply Kd.bu | apply Kd.bv | apply Kd.bg)); exact Kd.bG jO.out (fun _ hk => trivial), by repeat (first | (with_reducible first | exact HB.out | apply aM | apply aD | apply aH) | exact HB.out)⟩
  ·rw [if_neg c5] at H
   exact absurd H (by simp)
 ·rw [if_neg c4] at H
  exact absurd H (by simp)
end Go.Proofs.YthfphdbebnkdpaaDoor.P
end
section
namespace Go.Proofs.YthfphdbebnkdpaaDoor.P
open Go.RowKit Go.Proofs.YthfphdbebnkdpaaDoorW.aZ Go.Proofs.YthfphdbebnkdpaaDoorW.bL Go.Proofs.YthfphdbebnkdpaaDoorW.dC
attribute [local go_sem] dZ d9 fA fB dH dI ed ek
set_option linter.unusedVariables false
set_option linter.unusedSimpArgs false
def fq.f : Nat → List Int → List Int → Option (List Int)
 | 0, _, _ => none
 | k + 1, l0, l1 => if (mn (l0.length : Int) (l1.length : Int)) < 4 then ((gp.f k l0 l1).bind fun fM => (some fM)) else ((iU.f k l0 (wrap64 (Int.tdiv (wrap64 ((mx (l0.length : Int) (l1.length : Int)) + 1)) 2))).bind fun gV => ((iU.f k l1 (wrap64 (Int.tdiv (wrap64 ((mx (l0.length : Int) (l1.length : Int)) + 1)) 2))).bind fun ik => ((fq.f k gV.1 ik.1).bind fun t116 => ((fq.f k gV.2 ik.2).bind fun t119 => ((dU.f k gV.1 gV.2).bind fun jN => ((dU.f k ik.1 ik.2).bind fun kI => ((fq.f k jN kI).bind fun lv => ((dx.f k lv t116).bind fun lZ => ((dx.f k lZ.1 t119).bind fun kT => ((iy.f k kT.1 (wrap64 (Int.tdiv (wrap64 ((mx (l0.length : Int) (l1.length : Int)) + 1)) 2))).bind fun t139 => ((iy.f k t119 (wrap64 (2 * (wrap64 (Int.tdiv (wrap64 ((mx (l0.length : Int) (l1.length : Int)) + 1)) 2))))).bind fun kF => ((gu.f k (([t116, t139, kF] : List (List Int)))).bind fun t148 => (some t148)))))))))))))
set_option maxHeartbeats 8000000 in
set_option maxRecDepth 100000 in
theorem fq.calls (k : Nat) : ∀ (A0 : Option Addr) (c0 : Nat) (l0 : List Int) (A1 : Option Addr) (c1 : Nat) (l1 : List Int) (r : List Int) (w : World) (hr0 : Kd.C (Kd.int .u64) w A0 l0.length l0) (hc0 : l0.length ≤ c0) (hr1 : Kd.C (Kd.int .u64) w A1 l1.length l1) (hc1 : l1.length ≤ c1) (h : fq.f k l0 l1 = some r),
  Calls Tryd.prog 57 #[.slice A0 l0.length c0, .slice A1 l1.length c1] w fun e w' => ∃ v0_ : Value, e = .returned (v0_) ∧ Kd.R (Kd.int .u64) 64 w' w.heap.size (fun _ => True) v0_ r ∧ Below w.heap.size w w' := by
 induction k using Nat.strongRecOn with
 | _ k ih =>
 intro A0 c0 l0 A1 c1 l1 r w hr0 hc0 hr1 hc1 h
 cases k with
 | zero => exact absurd h (by simp [fq.f])
 | succ k =>
 simp only [fq.f] at h
 have HR0 := ae.mk hr0
 have HC0 := ae.mk hc0
 clear hr0 hc0
 have HR1 := ae.mk hr1
 have HC1 := ae.mk hc1
 clear hr1 hc1
 have HB := ae.mk (Below.refl w.heap.size w)
 have H : (if (mn (l0.length : Int) (l1.length : Int)) < 4 then ((gp.f k l0 l1).bind fun fM => (some fM)) else ((iU.f k l0 (wrap64 (Int.tdiv (wrap64 ((mx (l0.length : Int) (l1.length : Int)) + 1)) 2))).bind fun gV => ((iU.f k l1 (wrap64 (Int.tdiv (wrap64 ((mx (l0.length : Int) (l1.length : Int)) + 1)) 2))).bind fun ik => ((fq.f k gV.1 ik.1).bind fun t116 => ((fq.f k gV.2 ik.2).bind fun t119 => ((dU.f k gV.1 gV.2).bind fun jN => ((dU.f k ik.1 ik.2).bind fun kI => ((fq.f k jN kI).bind fun lv => ((dx.f k lv t116).bind fun lZ => ((dx.f k lZ.1 t119).bind fun kT => ((iy.f k kT.1 (wrap64 (Int.tdiv (wrap64 ((mx (l0.length : Int) (l1.length : Int)) + 1)) 2))).bind fun t139 => ((iy.f k t119 (wrap64 (2 * (wrap64 (Int.tdiv (wrap64 ((mx (l0.length : Int) (l1.length : Int)) + 1)) 2))))).bind fun kF => ((gu.f k (([t116, t139, kF] : List (List Int)))).bind fun t148 => (some t148)))))))))))))) = some r := h
 clear h
 obtain ⟨ji3, hji3⟩ : ∃ j_ : Int, (mn (l0.length : Int) (l1.length : Int)) = j_ := ⟨_, rfl⟩
 replace H : (if (ji3) < 4 then ((gp.f k l0 l1).bind fun fM => (some fM)) else ((iU.f k l0 (wrap64 (Int.tdiv (wrap64 ((mx (l0.length : Int) (l1.length : Int)) + 1)) 2))).bind fun gV => ((iU.f k l1 (wrap64 (Int.tdiv (wrap64 ((mx (l0.length : Int) (l1.length : Int)) + 1)) 2))).bind fun ik => ((fq.f k gV.1 ik.1).bind fun t116 => ((fq.f k gV.2 ik.2).bind fun t119 => ((dU.f k gV.1 gV.2).bind fun jN => ((dU.f k ik.1 ik.2).bind fun kI => ((fq.f k jN kI).bind fun lv => ((dx.f k lv t116).bind fun lZ => ((dx.f k lZ.1 t119).bind fun kT => ((iy.f k kT.1 (wrap64 (Int.tdiv (wrap64 ((mx (l0.length : Int) (l1.length : Int)) + 1)) 2))).bind fun t139 => ((iy.f k t119 (wrap64 (2 * (wrap64 (Int.tdiv (wrap64 ((mx (l0.length : Int) (l1.length : Int)) + 1)) 2))))).bind fun kF => ((gu.f k (([t116, t139, kF] : List (List Int)))).bind fun t148 => (some t148)))))))))))))) = some r := by first | (rw [hji3] at H; exact H) | (simp only [hji3] at H ⊢; exact H)
 (try (have hji3l : 0 ≤ ji3 := by (rw [← hji3]; unfold mn; (repeat' split) <;> omega)))
 (try (have hji3m : 0 ≤ ji3 := by omega))
 have hji3_ : (if (l1.length : Int) < (l0.length : Int) then (l1.length : Int) else (l0.length : Int)) = ji3 := hji3
 have hji3n : (if l1.length < l0.length then (l1.length : Int) else (l0.length : Int)) = ji3 := by rw [← hji3]; first | (unfold mx; simp only [Int.ofNat_lt]) | (unfold mn; simp only [Int.ofNat_lt])
 by_cases c4 : (ji3) < 4
 ·rw [if_pos c4] at H
  have ll : decide ((ji3) < 4) = true := decide_eq_true c4
  clear c4
  replace H := Option.bind_eq_some_iff.mp H
  obtain ⟨fM, A50, H⟩ := H
  replace H : (some fM) = some r := H
  have A5 := ae.mk A50
  clear A50
  obtain rfl := Option.some.inj H
  go_enter Tryd.func57, Tryd.ntmps57
  go_wp2_with (first | ((with_reducible refine aW (f := 82) rfl ?_); refine cO (some 21) rfl rfl Tryd.func82 (by kernel_rfl) rfl #[.slice A0 l0.length c0, .slice A1 l1.length c1] rfl qt ?_; (with_reducible refine (gp.calls k _ _ l0 _ _ l1 fM _ ?aU ?aV ?bJ ?bK A5.out).mono ?_); (case aU => exact qs (HR0.out)); (case aV => exact HC0.out); (case bJ => exact qs (HR1.out)); (case bK => exact HC1.out); rintro e w6 ⟨v102, rfl, ho0, hb⟩; refine ⟨_, rfl, ?_⟩; have nI := ae.mk (Kd.bz ho0 (aN (qw HB))); replace HB := ae.mk (av (qw HB) hb); (try clear hb); (try clear hb2); (try clear hk); (try clear hi); (try clear ho0)))
  go_ret
  exact ⟨_, by first | rfl | (simp [errW_none, errW_some] <;> rfl) | (simp only [← hji3]; first | rfl | (simp [errW_none, errW_some] <;> rfl)) | (simp [*, errW_none, errW_some] <;> rfl), by (with_reducible repeat (first | apply Kd.bu | apply Kd.bv | apply Kd.bg)); exact nI.out, by repeat (first | (with_reducible first | exact HB.out | apply aM | apply aD | apply aH) | exact HB.out)⟩
 ·rw [if_neg c4] at H
  have ll : decide ((ji3) < 4) = false := decide_eq_false c4
  clear c4
  obtain ⟨ji7, hji7⟩ : ∃ j_ : Int, (mx (l0.length : Int) (l1.length : Int)) = j_ := ⟨_, rfl⟩
  (try (have hji7r := hji7; simp only [hji3] at hji7r))
  (try (have hji7wr := (gT _).trans hji7r))
  replace H : ((iU.f k l0 (wrap64 (Int.tdiv (wrap64 ((ji7) + 1)) 2))).bind fun gV => ((iU.f k l1 (wrap64 (Int.tdiv (wrap64 ((ji7) + 1)) 2))).bind fun ik => ((fq.f k gV.1 ik.1).bind fun t116 => ((fq.f k gV.2 ik.2).bind fun t119 => ((dU.f k gV.1 gV.2).bind fun jN => ((dU.f k ik.1 ik.2).bind fun kI => ((fq.f k jN kI).bind fun lv => ((dx.f k lv t116).bind fun lZ => ((dx.f k lZ.1 t119).bind fun kT => ((iy.f k kT.1 (wrap64 (Int.tdiv (wrap64 ((ji7) + 1)) 2))).bind fun t139 => ((iy.f k t119 (wrap64 (2 * (wrap64 (Int.tdiv (wrap64 ((ji7) + 1)) 2))))).bind fun kF => ((gu.f k (([t116, t139, kF] : List (List Int)))).bind fun t148 => (some t148))))))))))))) = some r := by first | (rw [hji7] at H; exact H) | (simp only [hji7] at H ⊢; exact H)
  (try (have hji7l : 0 ≤ ji7 := by (rw [← hji7]; unfold mx; (repeat' split) <;> omega)))
  (try (have hji7m : 0 ≤ ji7 := by omega))
  have hji7_ : (if (l0.length : Int) < (l1.length : Int) then (l1.length : Int) else (l0.length : Int)) = ji7 := hji7
  have hji7n : (if l0.length < l1.length then (l1.length : Int) else (l0.length : Int)) = ji7 := by rw [← hji7]; first | (unfold mx; simp only [Int.ofNat_lt]) | (unfold mn; simp only [Int.ofNat_lt])
  replace H := Option.bind_eq_some_iff.mp H
  obtain ⟨⟨fQ, t105⟩, A80, H⟩ := H
  replace H : ((iU.f k l1 (wrap64 (Int.tdiv (wrap64 ((ji7) + 1)) 2))).bind fun ik => ((fq.f k fQ ik.1).bind fun t116 => ((fq.f k t105 ik.2).bind fun t119 => ((dU.f k fQ t105).bind fun jN => ((dU.f k ik.1 ik.2).bind fun kI => ((fq.f k jN kI).bind fun lv => ((dx.f k lv t116).bind fun lZ => ((dx.f k lZ.1 t119).bind fun kT => ((iy.f k kT.1 (wrap64 (Int.tdiv (wrap64 ((ji7) + 1)) 2))).bind fun t139 => ((iy.f k t119 (wrap64 (2 * (wrap64 (Int.tdiv (wrap64 ((ji7) + 1)) 2))))).bind fun kF => ((gu.f k (([t116, t139, kF] : List (List Int)))).bind fun t148 => (some t148)))))))))))) = some r := H
  have A8 := ae.mk A80
  clear A80
  replace H := Option.bind_eq_some_iff.mp H
  obtain ⟨⟨bi, kE⟩, A90, H⟩ := H
  replace H : ((fq.f k fQ bi).bind fun t116 => ((fq.f k t105 kE).bind fun t119 => ((dU.f k fQ t105).bind fun jN => ((dU.f k bi kE).bind fun kI => ((fq.f k jN kI).bind fun lv => ((dx.f k lv t116).bind fun lZ => ((dx.f k lZ.1 t119).bind fun kT => ((iy.f k kT.1 (wrap64 (Int.tdiv (wrap64 ((ji7) + 1)) 2))).bind fun t139 => ((iy.f k t119 (wrap64 (2 * (wrap64 (Int.tdiv (wrap64 ((ji7) + 1)) 2))))).bind fun kF => ((gu.f k (([t116, t139, kF] : List (List Int)))).bind fun t148 => (some t148))))))))))) = some r := H
  have A9 := ae.mk A90
  clear A90
  replace H := Option.bind_eq_some_iff.mp H
  obtain ⟨t116, A100, H⟩ := H
  replace H : ((fq.f k t105 kE).bind fun t119 => ((dU.f k fQ t105).bind fun jN => ((dU.f k bi kE).bind fun kI => ((fq.f k jN kI).bind fun lv => ((dx.f k lv t116).bind fun lZ => ((dx.f k lZ.1 t119).bind fun kT => ((iy.f k kT.1 (wrap64 (Int.tdiv (wrap64 ((ji7) + 1)) 2))).bind fun t139 => ((iy.f k t119 (wrap64 (2 * (wrap64 (Int.tdiv (wrap64 ((ji7) + 1)) 2))))).bind fun kF => ((gu.f k (([t116, t139, kF] : List (List Int)))).bind fun t148 => (some t148)))))))))) = some r := H
  have A10 := ae.mk A100
  clear A100
  replace H := Option.bind_eq_some_iff.mp H
  obtain ⟨t119, A110, H⟩ := H
  replace H : ((dU.f k fQ t105).bind fun jN => ((dU.f k bi kE).bind fun kI => ((fq.f k jN kI).bind fun lv => ((dx.f k lv t116).bind fun lZ => ((dx.f k lZ.1 t119).bind fun kT => ((iy.f k kT.1 (wrap64 (Int.tdiv (wrap64 ((ji7) + 1)) 2))).bind fun t139 => ((iy.f k t119 (wrap64 (2 * (wrap64 (Int.tdiv (wrap64 ((ji7) + 1)) 2))))).bind fun kF => ((gu.f k (([t116, t139, kF] : List (List Int)))).bind fun t148 => (some t148))))))))) = some r := H
  have A11 := ae.mk A110
  clear A110
  replace H := Option.bind_eq_some_iff.mp H
  obtain ⟨jN, A120, H⟩ := H
  replace H : ((dU.f k bi kE).bind fun kI => ((fq.f k jN kI).bind fun lv => ((dx.f k lv t116).bind fun lZ => ((dx.f k lZ.1 t119).bind fun kT => ((iy.f k kT.1 (wrap64 (Int.tdiv (wrap64 ((ji7) + 1)) 2))).bind fun t139 => ((iy.f k t119 (wrap64 (2 * (wrap64 (Int.tdiv (wrap64 ((ji7) + 1)) 2))))).bind fun kF => ((gu.f k (([t116, t139, kF] : List (List Int)))).bind fun t148 => (some t148)))))))) = some r := H
  have A12 := ae.mk A120
  clear A120
  replace H := Option.bind_eq_some_iff.mp H
  obtain ⟨kI, A130, H⟩ := H
  replace H : ((fq.f k jN kI).bind fun lv => ((dx.f k lv t116).bind fun lZ => ((dx.f k lZ.1 t119).bind fun kT => ((iy.f k kT.1 (wrap64 (Int.tdiv (wrap64 ((ji7) + 1)) 2))).bind fun t139 => ((iy.f k t119 (wrap64 (2 * (wrap64 (Int.tdiv (wrap64 ((ji7) + 1)) 2))))).bind fun kF => ((gu.f k (([t116, t139, kF] : List (List Int)))).bind fun t148 => (some t148))))))) = some r := H
  have A13 := ae.mk A130
  clear A130
  replace H := Option.bind_eq_some_iff.mp H
  obtain ⟨lv, A140, H⟩ := H
  replace H : ((dx.f k lv t116).bind fun lZ => ((dx.f k lZ.1 t119).bind fun kT => ((iy.f k kT.1 (wrap64 (Int.tdiv (wrap64 ((ji7) + 1)) 2))).bind fun t139 => ((iy.f k t119 (wrap64 (2 * (wrap64 (Int.tdiv (wrap64 ((ji7) + 1)) 2))))).bind fun kF => ((gu.f k (([t116, t139, kF] : List (List Int)))).bind fun t148 => (some t148)))))) = some r := H
  have A14 := ae.mk A140
  clear A140
  replace H := Option.bind_eq_some_iff.mp H
  obtain ⟨⟨t131, Jg⟩, A150, H⟩ := H
  replace H : ((dx.f k t131 t119).bind fun kT => ((iy.f k kT.1 (wrap64 (Int.tdiv (wrap64 ((ji7) + 1)) 2))).bind fun t139 => ((iy.f k t119 (wrap64 (2 * (wrap64 (Int.tdiv (wrap64 ((ji7) + 1)) 2))))).bind fun kF => ((gu.f k (([t116, t139, kF] : List (List Int)))).bind fun t148 => (some t148))))) = some r := H
  have A15 := ae.mk A150
  clear A150
  replace H := Option.bind_eq_some_iff.mp H
  obtain ⟨⟨mK, Jh⟩, A160, H⟩ := H
  replace H : ((iy.f k mK (wrap64 (Int.tdiv (wrap64 ((ji7) + 1)) 2))).bind fun t139 => ((iy.f k t119 (wrap64 (2 * (wrap64 (Int.tdiv (wrap64 ((ji7) + 1)) 2))))).bind fun kF => ((gu.f k (([t116, t139, kF] : List (List Int)))).bind fun t148 => (some t148)))) = some r := H
  have A16 := ae.mk A160
  clear A160
  replace H := Option.bind_eq_some_iff.mp H
  obtain ⟨t139, A170, H⟩ := H
  replace H : ((iy.f k t119 (wrap64 (2 * (wrap64 (Int.tdiv (wrap64 ((ji7) + 1)) 2))))).bind fun kF => ((gu.f k (([t116, t139, kF] : List (List Int)))).bind fun t148 => (some t148))) = some r := H
  have A17 := ae.mk A170
  clear A170
  replace H := Option.bind_eq_some_iff.mp H
  obtain ⟨kF, A180, H⟩ := H
  replace H : ((gu.f k (([t116, t139, kF] : List (List Int)))).bind fun t148 => (some t148)) = some r := H
  have A18 := ae.mk A180
  clear A180
  obtain ⟨y145, hy145⟩ : ∃ y_ : List (List Int), y_ = (([t116, t139, kF] : List (List Int))) := ⟨_, rfl⟩
  replace H : ((gu.f k y145).bind fun t148 => (some t148)) = some r := by first | (rw [hy145]; with_reducible exact H) | (have H2_ := (Option.bind_some _ _).symm.trans H; rw [hy145]; with_reducible exact H2_) | (have H2_ := (Option.bind_some _ _).symm.trans H; with_reducible exact H2_) | with_reducible exact H | (rw [hy145]; exact H) | exact H
  have Ny145 := ae.mk hy145
  clear hy145
  replace H := Option.bind_eq_some_iff.mp H
  obtain ⟨t148, A190, H⟩ := H
  replace H : (some t148) = some r := H
  have A19 := ae.mk A190
  clear A190
  obtain rfl := Option.some.inj H
  go_enter Tryd.func57, Tryd.ntmps57
  go_wp2_with (first | ((with_reducible refine aW (f := 83) rfl ?_); refine cO (some 32) rfl rfl Tryd.func83 (by kernel_rfl) rfl #[.slice A0 l0.length c0, .int .i64 (wrap64 (Int.tdiv (wrap64 ((ji7) + 1)) 2))] rfl (by (try simp only [List.map_toArray, List.map_cons, List.map_nil]); first | done | (simp only [hji7]; rfl) | rfl | (simp only [List.length_drop, List.length_take]; rfl)) ?_; (with_reducible refine (iU.calls k _ _ l0 (wrap64 (Int.tdiv (wrap64 ((ji7) + 1)) 2)) fQ t105 _ ?aU ?aV A8.out).mono ?_); (case aU => exact qs (HR0.out)); (case aV => exact HC0.out); rintro e w20 ⟨v106, v108, rfl, ho0, ho1, hb⟩; refine ⟨_, rfl, ?_⟩; have gF := ae.mk (Kd.bz ho0 (aN (qw HB))); have gW := ae.mk (Kd.bz ho1 (aN (qw HB))); replace HB := ae.mk (av (qw HB) hb); (try clear hb); (try clear hb2); (try clear hk); (try clear hi); (try clear ho0); (try clear ho1)) | ((with_reducible refine aW (f := 83) rfl ?_); refine cO (some 38) rfl rfl Tryd.func83 (by kernel_rfl) rfl #[.slice A1 l1.length c1, .int .i64 (wrap64 (Int.tdiv (wrap64 ((ji7) + 1)) 2))] rfl (by (try simp only [List.map_toArray, List.map_cons, List.map_nil]); first | done | (simp only [hji7]; rfl) | rfl | (simp only [List.length_drop, List.length_take]; rfl)) ?_; (with_reducible refine (iU.calls k _ _ l1 (wrap64 (Int.tdiv (wrap64 ((ji7) + 1)) 2)) bi kE _ ?aU ?aV A9.out).mono ?_); (case aU => exact qs ((Kd.dS HR1.out HB.out))); (case aV => exact HC1.out); rintro e w21 ⟨v112, v114, rfl, ho0, ho1, hb⟩; refine ⟨_, rfl, ?_⟩; have il := ae.mk (Kd.bz (Kd.aA (Kd.aA ho0 (Kd.aY (qr gF))) (Kd.aY (qr gW))) (aN (qw HB))); have jv := ae.mk (Kd.bz (Kd.aA (Kd.aA ho1 (Kd.aY (qr gF))) (Kd.aY (qr gW))) (aN (qw HB))); replace gF := ae.mk (Kd.bG (Kd.gQ (Kd.gQ (Kd.mo (qr gF) hb) (Kd.az ho0)) (Kd.az ho1)) (fun _ h_ => h_.1)); replace gW := ae.mk (Kd.bG (Kd.gQ (Kd.gQ (Kd.mo (qr gW) hb) (Kd.az ho0)) (Kd.az ho1)) (fun _ h_ => h_.1)); replace HB := ae.mk (av (qw HB) hb); (try clear hb); (try clear hb2); (try clear hk); (try clear hi); (try clear ho0); (try clear ho1); obtain ⟨fO, fP, Cq⟩ := Kd.bD gF.out; subst Cq; obtain ⟨uR, uq, Cr⟩ := Kd.bD il.out; subst Cr) | ((with_reducible refine aW (f := 57) rfl ?_); refine cO (some 43) rfl rfl Tryd.func57 (by kernel_rfl) rfl #[.slice fO fQ.length fP, .slice uR bi.length uq] rfl qt ?_; (with_reducible refine (ih k (by omega) _ _ fQ _ _ bi t116 _ ?aU ?aV ?bJ ?bK A10.out).mono ?_); (case aU => exact qs ((Kd.ak gF.out).2.2)); (case aV => exact (Kd.ak gF.out).2.1); (case bJ => exact qs ((Kd.ak il.out).2.2)); (case bK => exact (Kd.ak il.out).2.1); rintro e w24 ⟨v117, rfl, ho0, hb⟩; refine ⟨_, rfl, ?_⟩; have jG := ae.mk (Kd.bz (Kd.aA (Kd.aA (Kd.aA (Kd.aA ho0 (Kd.aY (qr gF))) (Kd.aY (qr gW))) (Kd.aY (qr il))) (Kd.aY (qr jv))) (aN (qw HB))); replace gF := ae.mk (Kd.aj (qr gF) (Kd.az ho0) hb); replace gW := ae.mk (Kd.aj (qr gW) (Kd.az ho0) hb); replace il := ae.mk (Kd.aj (qr il) (Kd.az ho0) hb); replace jv := ae.mk (Kd.aj (qr jv) (Kd.az ho0) hb); replace HB := ae.mk (av (qw HB) hb); (try clear hb); (try clear hb2); (try clear hk); (try clear hi); (try clear ho0); obtain ⟨gN, gM, wJ⟩ := Kd.bD gW.out; subst wJ; obtain ⟨rF, qF, yn⟩ := Kd.bD jv.out; subst yn) | ((with_reducible refine aW (f := 57) rfl ?_); refine cO (some 46) rfl rfl Tryd.func57 (by kernel_rfl) rfl #[.slice gN t105.length gM, .slice rF kE.length qF] rfl qt ?_; (with_reducible refine (ih k (by omega) _ _ t105 _ _ kE t119 _ ?aU ?aV ?bJ ?bK A11.out).mono ?_); (case aU => exact qs ((Kd.ak gW.out).2.2)); (case aV => exact (Kd.ak gW.out).2.1); (case bJ => exact qs ((Kd.ak jv.out).2.2)); (case bK => exact (Kd.ak jv.out).2.1); rintro e w27 ⟨v120, rfl, ho0, hb⟩; refine ⟨_, rfl, ?_⟩; have iA := ae.mk (Kd.bz (Kd.aA (Kd.aA (Kd.aA (Kd.aA (Kd.aA ho0 (Kd.aY (qr gF))) (Kd.aY (qr gW))) (Kd.aY (qr il))) (Kd.aY (qr jv))) (Kd.aY (qr jG))) (aN (qw HB))); replace gF := ae.mk (Kd.aj (qr gF) (Kd.az ho0) hb); replace gW := ae.mk (Kd.aj (qr gW) (Kd.az ho0) hb); replace il := ae.mk (Kd.aj (qr il) (Kd.az ho0) hb); replace jv := ae.mk (Kd.aj (qr jv) (Kd.az ho0) hb); replace jG := ae.mk (Kd.aj (qr jG) (Kd.az ho0) hb); replace HB := ae.mk (av (qw HB) hb); (try clear hb); (try clear hb2); (try clear hk); (try clear hi); (try clear ho0)) | ((with_reducible refine aW (f := 29) rfl ?_); refine cO (some 49) rfl rfl Tryd.func29 (by kernel_rfl) rfl #[.slice fO fQ.length fP, .slice gN t105.length gM] rfl qt ?_; (with_reducible refine (dU.calls k _ _ fQ _ _ t105 jN _ ?aU ?aV ?bJ ?bK A12.out).mono ?_); (case aU => exact qs ((Kd.ak gF.out).2.2)); (case aV => exact (Kd.ak gF.out).2.1); (case bJ => exact qs ((Kd.ak gW.out).2.2)); (case bK => exact (Kd.ak gW.out).2.1); rintro e w28 ⟨v123, rfl, ho0, hb⟩; refine ⟨_, rfl, ?_⟩; have gI := ae.mk (Kd.bz (Kd.aA (Kd.aA (Kd.aA (Kd.aA (Kd.aA (Kd.aA ho0 (Kd.aY (qr gF))) (Kd.aY (qr gW))) (Kd.aY (qr il))) (Kd.aY (qr jv))) (Kd.aY (qr jG))) (Kd.aY (qr iA))) (aN (qw HB))); replace gF := ae.mk (Kd.aj (qr gF) (Kd.az ho0) hb); replace gW := ae.mk (Kd.aj (qr gW) (Kd.az ho0) hb); replace il := ae.mk (Kd.aj (qr il) (Kd.az ho0) hb); replace jv := ae.mk (Kd.aj (qr jv) (Kd.az ho0) hb); replace jG := ae.mk (Kd.aj (qr jG) (Kd.az ho0) hb); replace iA := ae.mk (Kd.aj (qr iA) (Kd.az ho0) hb); replace HB := ae.mk (av (qw HB) hb); (try clear hb); (try clear hb2); (try clear hk); (try clear hi); (try clear ho0)) | ((with_reducible refine aW (f := 29) rfl ?_); refine cO (some 52) rfl rfl Tryd.func29 (by kernel_rfl) rfl #[.slice uR bi.length uq, .slice rF kE.length qF] rfl qt ?_; (with_reducible refine (dU.calls k _ _ bi _ _ kE kI _ ?aU ?aV ?bJ ?bK A13.out).mono ?_); (case aU => exact qs ((Kd.ak il.out).2.2)); (case aV => exact (Kd.ak il.out).2.1); (case bJ => exact qs ((Kd.ak jv.out).2.2)); (case bK => exact (Kd.ak jv.out).2.1); rintro e w29 ⟨v126, rfl, ho0, hb⟩; refine ⟨_, rfl, ?_⟩; have ma := ae.mk (Kd.bz (Kd.aA (Kd.aA (Kd.aA (Kd.aA (Kd.aA (Kd.aA (Kd.aA ho0 (Kd.aY (qr gF))) (Kd.aY (qr gW))) (Kd.aY (qr il))) (Kd.aY (qr jv))) (Kd.aY (qr jG))) (Kd.aY (qr iA))) (Kd.aY (qr gI))) (aN (qw HB))); replace gF := ae.mk (Kd.aj (qr gF) (Kd.az ho0) hb); replace gW := ae.mk (Kd.aj (qr gW) (Kd.az ho0) hb); replace il := ae.mk (Kd.aj (qr il) (Kd.az ho0) hb); replace jv := ae.mk (Kd.aj (qr jv) (Kd.az ho0) hb); replace jG := ae.mk (Kd.aj (qr jG) (Kd.az ho0) hb); replace iA := ae.mk (Kd.aj (qr iA) (Kd.az ho0) hb); replace gI := ae.mk (Kd.aj (qr gI) (Kd.az ho0) hb); replace HB := ae.mk (av (qw HB) hb); (try clear hb); (try clear hb2); (try clear hk); (try clear hi); (try clear ho0); obtain ⟨vJ, vK, Ji⟩ := Kd.bD gI.out; subst Ji; obtain ⟨vL, vM, Jj⟩ := Kd.bD ma.out; subst Jj) | ((with_reducible refine aW (f := 57) rfl ?_); refine cO (some 53) rfl rfl Tryd.func57 (by kernel_rfl) rfl #[.slice vJ jN.length vK, .slice vL kI.length vM] rfl qt ?_; (with_reducible refine (ih k (by omega) _ _ jN _ _ kI lv _ ?aU ?aV ?bJ ?bK A14.out).mono ?_); (case aU => exact qs ((Kd.ak gI.out).2.2)); (case aV => exact (Kd.ak gI.out).2.1); (case bJ => exact qs ((Kd.ak ma.out).2.2)); (case bK => exact (Kd.ak ma.out).2.1); rintro e w32 ⟨v129, rfl, ho0, hb⟩; refine ⟨_, rfl, ?_⟩; have mF := ae.mk (Kd.bz (Kd.aA (Kd.aA (Kd.aA (Kd.aA (Kd.aA (Kd.aA (Kd.aA (Kd.aA ho0 (Kd.aY (qr gF))) (Kd.aY (qr gW))) (Kd.aY (qr il))) (Kd.aY (qr jv))) (Kd.aY (qr jG))) (Kd.aY (qr iA))) (Kd.aY (qr gI))) (Kd.aY (qr ma))) (aN (qw HB))); replace gF := ae.mk (Kd.aj (qr gF) (Kd.az ho0) hb); replace gW := ae.mk (Kd.aj (qr gW) (Kd.az ho0) hb); replace il := ae.mk (Kd.aj (qr il) (Kd.az ho0) hb); replace jv := ae.mk (Kd.aj (qr jv) (Kd.az ho0) hb); replace jG := ae.mk (Kd.aj (qr jG) (Kd.az ho0) hb); replace iA := ae.mk (Kd.aj (qr iA) (Kd.az ho0) hb); replace gI := ae.mk (Kd.aj (qr gI) (Kd.az ho0) hb); replace ma := ae.mk (Kd.aj (qr ma) (Kd.az ho0) hb); replace HB := ae.mk (av (qw HB) hb); (try clear hb); (try clear hb2); (try clear hk); (try clear hi); (try clear ho0); obtain ⟨vN, vO, Jk⟩ := Kd.bD mF.out; subst Jk; obtain ⟨nU, nV, yo⟩ := Kd.bD jG.out; subst yo) | ((with_reducible refine aW (f := 30) rfl ?_); refine cO (some 57) rfl rfl Tryd.func30 (by kernel_rfl) rfl #[.slice vN lv.length vO, .slice nU t116.length nV] rfl qt ?_; (with_reducible refine (dx.calls k _ _ lv _ _ t116 t131 Jg _ ?aU ?aV ?bJ ?bK A15.out).mono ?_); (case aU => exact qs ((Kd.ak mF.out).2.2)); (case aV => exact (Kd.ak mF.out).2.1); (case bJ => exact qs ((Kd.ak jG.out).2.2)); (case bK => exact (Kd.ak jG.out).2.1); rintro e w35 ⟨v133, rfl, ho0, hb⟩; refine ⟨_, rfl, ?_⟩; have nN := ae.mk (Kd.bz (Kd.aA (Kd.aA (Kd.aA (Kd.aA (Kd.aA (Kd.aA (Kd.aA (Kd.aA (Kd.aA ho0 (Kd.aY (qr gF))) (Kd.aY (qr gW))) (Kd.aY (qr il))) (Kd.aY (qr jv))) (Kd.aY (qr jG))) (Kd.aY (qr iA))) (Kd.aY (qr gI))) (Kd.aY (qr ma))) (Kd.aY (qr mF))) (aN (qw HB))); replace gF := ae.mk (Kd.aj (qr gF) (Kd.az ho0) hb); replace gW := ae.mk (Kd.aj (qr gW) (Kd.az ho0) hb); replace il := ae.mk (Kd.aj (qr il) (Kd.az ho0) hb); replace jv := ae.mk (Kd.aj (qr jv) (Kd.az ho0) hb); replace jG := ae.mk (Kd.aj (qr jG) (Kd.az ho0) hb); replace iA := ae.mk (Kd.aj (qr iA) (Kd.az ho0) hb); replace gI := ae.mk (Kd.aj (qr gI) (Kd.az ho0) hb); replace ma := ae.mk (Kd.aj (qr ma) (Kd.az ho0) hb); replace mF := ae.mk (Kd.aj (qr mF) (Kd.az ho0) hb); replace HB := ae.mk (av (qw HB) hb); (try clear hb); (try clear hb2); (try clear hk); (try clear hi); (try clear ho0); obtain ⟨vP, vQ, Jl⟩ := Kd.bD nN.out; subst Jl; obtain ⟨sF, sG, Er⟩ := Kd.bD iA.out; subst Er) | ((with_reducible refine aW (f := 30) rfl ?_); refine cO (some 63) rfl rfl Tryd.func30 (by kernel_rfl) rfl #[.slice vP t131.length vQ, .slice sF t119.length sG] rfl qt ?_; (with_reducible refine (dx.calls k _ _ t131 _ _ t119 mK Jh _ ?aU ?aV ?bJ ?bK A16.out).mono ?_); (case aU => exact qs ((Kd.ak nN.out).2.2)); (case aV => exact (Kd.ak nN.out).2.1); (case bJ => exact qs ((Kd.ak iA.out).2.2)); (case bK => exact (Kd.ak iA.out).2.1); rintro e w38 ⟨v137, rfl, ho0, hb⟩; refine ⟨_, rfl, ?_⟩; have o6 := ae.mk (Kd.bz (Kd.aA (Kd.aA (Kd.aA (Kd.aA (Kd.aA (Kd.aA (Kd.aA (Kd.aA (Kd.aA (Kd.aA ho0 (Kd.aY (qr gF))) (Kd.aY (qr gW))) (Kd.aY (qr il))) (Kd.aY (qr jv))) (Kd.aY (qr jG))) (Kd.aY (qr iA))) (Kd.aY (qr gI))) (Kd.aY (qr ma))) (Kd.aY (qr mF))) (Kd.aY (qr nN))) (aN (qw HB))); replace gF := ae.mk (Kd.aj (qr gF) (Kd.az ho0) hb); replace gW := ae.mk (Kd.aj (qr gW) (Kd.az ho0) hb); replace il := ae.mk (Kd.aj (qr il) (Kd.az ho0) hb); replace jv := ae.mk (Kd.aj (qr jv) (Kd.az ho0) hb); replace jG := ae.mk (Kd.aj (qr jG) (Kd.az ho0) hb); replace iA := ae.mk (Kd.aj (qr iA) (Kd.az ho0) hb); replace gI := ae.mk (Kd.aj (qr gI) (Kd.az ho0) hb); replace ma := ae.mk (Kd.aj (qr ma) (Kd.az ho0) hb); replace mF := ae.mk (Kd.aj (qr mF) (Kd.az ho0) hb); replace nN := ae.mk (Kd.aj (qr nN) (Kd.az ho0) hb); replace HB := ae.mk (av (qw HB) hb); (try clear hb); (try clear hb2); (try clear hk); (try clear hi); (try clear ho0); obtain ⟨ut, uu, Es⟩ := Kd.bD o6.out; subst Es) | ((with_reducible refine aW (f := 85) rfl ?_); refine cO (some 69) rfl rfl Tryd.func85 (by kernel_rfl) rfl #[.slice ut mK.length uu, .int .i64 (wrap64 (Int.tdiv (wrap64 ((ji7) + 1)) 2))] rfl (by (try simp only [List.map_toArray, List.map_cons, List.map_nil]); first | done | (simp only [hji7]; rfl) | rfl | (simp only [List.length_drop, List.length_take]; rfl)) ?_; (with_reducible refine (iy.calls k _ _ mK (wrap64 (Int.tdiv (wrap64 ((ji7) + 1)) 2)) t139 _ ?aU ?aV A17.out).mono ?_); (case aU => exact qs ((Kd.ak o6.out).2.2)); (case aV => exact (Kd.ak o6.out).2.1); rintro e w40 ⟨v140, rfl, ho0, hb⟩; refine ⟨_, rfl, ?_⟩; have nL := ae.mk (Kd.bz (Kd.aA (Kd.aA (Kd.aA (Kd.aA (Kd.aA (Kd.aA (Kd.aA (Kd.aA (Kd.aA (Kd.aA (Kd.aA ho0 (Kd.aY (qr gF))) (Kd.aY (qr gW))) (Kd.aY (qr il))) (Kd.aY (qr jv))) (Kd.aY (qr jG))) (Kd.aY (qr iA))) (Kd.aY (qr gI))) (Kd.aY (qr ma))) (Kd.aY (qr mF))) (Kd.aY (qr nN))) (Kd.aY (qr o6))) (aN (qw HB))); replace gF := ae.mk (Kd.aj (qr gF) (Kd.az ho0) hb); replace gW := ae.mk (Kd.aj (qr gW) (Kd.az ho0) hb); replace il := ae.mk (Kd.aj (qr il) (Kd.az ho0) hb); replace jv := ae.mk (Kd.aj (qr jv) (Kd.az ho0) hb); replace jG := ae.mk (Kd.aj (qr jG) (Kd.az ho0) hb); replace iA := ae.mk (Kd.aj (qr iA) (Kd.az ho0) hb); replace gI := ae.mk (Kd.aj (qr gI) (Kd.az ho0) hb); replace ma := ae.mk (Kd.aj (qr ma) (Kd.az ho0) hb); replace mF := ae.mk (Kd.aj (qr mF) (Kd.az ho0) hb); replace nN := ae.mk (Kd.aj (qr nN) (Kd.az ho0) hb); replace o6 := ae.mk (Kd.aj (qr o6) (Kd.az ho0) hb); replace HB := ae.mk (av (qw HB) hb); (try clear hb); (try clear hb2); (try clear hk); (try clear hi); (try clear ho0)) | ((with_reducible refine aW (f := 85) rfl ?_); refine cO (some 73) rfl rfl Tryd.func85 (by kernel_rfl) rfl #[.slice sF t119.length sG, .int .i64 (wrap64 (2 * (wrap64 (Int.tdiv (wrap64 ((ji7) + 1)) 2))))] rfl (by (try simp only [List.map_toArray, List.map_cons, List.map_nil]); first | done | (simp only [hji7]; rfl) | rfl | (simp only [List.length_drop, List.length_take]; rfl)) ?_; (with_reducible refine (iy.calls k _ _ t119 (wrap64 (2 * (wrap64 (Int.tdiv (wrap64 ((ji7) + 1)) 2)))) kF _ ?aU ?aV A18.out).mono ?_); (case aU => exact qs ((Kd.ak iA.out).2.2)); (case aV => exact (Kd.ak iA.out).2.1); rintro e w41 ⟨v143, rfl, ho0, hb⟩; refine ⟨_, rfl, ?_⟩; have za := ae.mk (Kd.bz (Kd.aA (Kd.aA (Kd.aA (Kd.aA (Kd.aA (Kd.aA (Kd.aA (Kd.aA (Kd.aA (Kd.aA (Kd.aA (Kd.aA ho0 (Kd.aY (qr gF))) (Kd.aY (qr gW))) (Kd.aY (qr il))) (Kd.aY (qr jv))) (Kd.aY (qr jG))) (Kd.aY (qr iA))) (Kd.aY (qr gI))) (Kd.aY (qr ma))) (Kd.aY (qr mF))) (Kd.aY (qr nN))) (Kd.aY (qr o6))) (Kd.aY (qr nL))) (aN (qw HB))); replace gF := ae.mk (Kd.aj (qr gF) (Kd.az ho0) hb); replace gW := ae.mk (Kd.aj (qr gW) (Kd.az ho0) hb); replace il := ae.mk (Kd.aj (qr il) (Kd.az ho0) hb); replace jv := ae.mk (Kd.aj (qr jv) (Kd.az ho0) hb); replace jG := ae.mk (Kd.aj (qr jG) (Kd.az ho0) hb); replace iA := ae.mk (Kd.aj (qr iA) (Kd.az ho0) hb); replace gI := ae.mk (Kd.aj (qr gI) (Kd.az ho0) hb); replace ma := ae.mk (Kd.aj (qr ma) (Kd.az ho0) hb); replace mF := ae.mk (Kd.aj (qr mF) (Kd.az ho0) hb); replace nN := ae.mk (Kd.aj (qr nN) (Kd.az ho0) hb); replace o6 := ae.mk (Kd.aj (qr o6) (Kd.az ho0) hb); replace nL := ae.mk (Kd.aj (qr nL) (Kd.az ho0) hb); replace HB := ae.mk (av (qw HB) hb); (try clear hb); (try clear hb2); (try clear hk); (try clear hi); (try clear ho0); obtain ⟨Cs, Ct, Et⟩ := Kd.bD nL.out; subst Et; obtain ⟨FU, FV, Jm⟩ := Kd.bD za.out; subst Jm) | ((with_reducible refine bR (N := 74) rfl ?_); refine Kd.FE (Kd.slice 64 (Kd.int .u64)) _ 23 ?hg (N' := 74) ?hd (xs := ([t116, t139, kF] : List (List Int))) (inner := [.slice nU t116.length nV, .slice Cs t139.length Ct, .slice FU kF.length FV]) (ok := (fun k_ => some k_ ≠ (.slice fO fQ.length fP : Value).ownBlock ∧ some k_ ≠ (.slice gN t105.length gM : Value).ownBlock ∧ some k_ ≠ (.slice uR bi.length uq : Value).ownBlock ∧ some k_ ≠ (.slice rF kE.length qF : Value).ownBlock ∧ some k_ ≠ (.slice sF t119.length sG : Value).ownBlock ∧ some k_ ≠ (.slice vJ jN.length vK : Value).ownBlock ∧ some k_ ≠ (.slice vL kI.length vM : Value).ownBlock ∧ some k_ ≠ (.slice vN lv.length vO : Value).ownBlock ∧ some k_ ≠ (.slice vP t131.length vQ : Value).ownBlock ∧ some k_ ≠ (.slice ut mK.length uu : Value).ownBlock)) (okp := (fun k_ => some k_ ≠ (.slice fO fQ.length fP : Value).ownBlock ∧ some k_ ≠ (.slice gN t105.length gM : Value).ownBlock ∧ some k_ ≠ (.slice uR bi.length uq : Value).ownBlock ∧ some k_ ≠ (.slice rF kE.length qF : Value).ownBlock ∧ some k_ ≠ (.slice sF t119.length sG : Value).ownBlock ∧ some k_ ≠ (.slice vJ jN.length vK : Value).ownBlock ∧ some k_ ≠ (.slice vL kI.length vM : Value).ownBlock ∧ some k_ ≠ (.slice vN lv.length vO : Value).ownBlock ∧ some k_ ≠ (.slice vP t131.length vQ : Value).ownBlock ∧ some k_ ≠ (.slice ut mK.length uu : Value).ownBlock)) ?hr ?hp (fun _ hk => hk) ((show ∀ k_, w41.heap.size ≤ k_ → (fun k_ => some k_ ≠ (.slice fO fQ.length fP : Value).ownBlock ∧ some k_ ≠ (.slice gN t105.length gM : Value).ownBlock ∧ some k_ ≠ (.slice uR bi.length uq : Value).ownBlock ∧ some k_ ≠ (.slice rF kE.length qF : Value).ownBlock ∧ some k_ ≠ (.slice sF t119.length sG : Value).ownBlock ∧ some k_ ≠ (.slice vJ jN.length vK : Value).ownBlock ∧ some k_ ≠ (.slice vL kI.length vM : Value).ownBlock ∧ some k_ ≠ (.slice vN lv.length vO : Value).ownBlock ∧ some k_ ≠ (.slice vP t131.length vQ : Value).ownBlock ∧ some k_ ≠ (.slice ut mK.length uu : Value).ownBlock) k_ from fun k_ hk => ⟨Kd.fresh' (Kd.aY (qr gF)) k_ hk, Kd.fresh' (Kd.aY (qr gW)) k_ hk, Kd.fresh' (Kd.aY (qr il)) k_ hk, Kd.fresh' (Kd.aY (qr jv)) k_ hk, Kd.fresh' (Kd.aY (qr iA)) k_ hk, Kd.fresh' (Kd.aY (qr gI)) k_ hk, Kd.fresh' (Kd.aY (qr ma)) k_ hk, Kd.fresh' (Kd.aY (qr mF)) k_ hk, Kd.fresh' (Kd.aY (qr nN)) k_ hk, Kd.fresh' (Kd.aY (qr o6)) k_ hk⟩) _ (Nat.le_refl _)) (Below.refl _ _) (Nat.le_refl _) (by simp) ?_; (case hd => rfl); (case hg => rfl); (case hr => first | (go_simp; done) | (go_simp; rfl)); (case hp => exact (iB.one (show Kd.FK (Kd.slice 64 (Kd.int .u64)) _ _ t116 [.slice nU t116.length nV] from (Kd.qI (Kd.ak (Kd.bG (ok' := (fun k_ => some k_ ≠ (.slice fO fQ.length fP : Value).ownBlock ∧ some k_ ≠ (.slice gN t105.length gM : Value).ownBlock ∧ some k_ ≠ (.slice uR bi.length uq : Value).ownBlock ∧ some k_ ≠ (.slice rF kE.length qF : Value).ownBlock ∧ some k_ ≠ (.slice sF t119.length sG : Value).ownBlock ∧ some k_ ≠ (.slice vJ jN.length vK : Value).ownBlock ∧ some k_ ≠ (.slice vL kI.length vM : Value).ownBlock ∧ some k_ ≠ (.slice vN lv.length vO : Value).ownBlock ∧ some k_ ≠ (.slice vP t131.length vQ : Value).ownBlock ∧ some k_ ≠ (.slice ut mK.length uu : Value).ownBlock)) (jG.out) (fun k_ hk => ⟨hk.1.1.1.1.1.1.1.1.1.1.1.2, ⟨hk.1.1.1.1.1.1.1.1.1.1.2, ⟨hk.1.1.1.1.1.1.1.1.1.2, ⟨hk.1.1.1.1.1.1.1.1.2, ⟨hk.1.1.1.1.1.1.1.2, ⟨hk.1.1.1.1.1.1.2, ⟨hk.1.1.1.1.1.2, ⟨hk.1.1.1.1.2, ⟨hk.1.1.1.2, hk.1.1.2⟩⟩⟩⟩⟩⟩⟩⟩⟩))).2.1 (Kd.R_F (Kd.bG (ok' := (fun k_ => some k_ ≠ (.slice fO fQ.length fP : Value).ownBlock ∧ some k_ ≠ (.slice gN t105.length gM : Value).ownBlock ∧ some k_ ≠ (.slice uR bi.length uq : Value).ownBlock ∧ some k_ ≠ (.slice rF kE.length qF : Value).ownBlock ∧ some k_ ≠ (.slice sF t119.length sG : Value).ownBlock ∧ some k_ ≠ (.slice vJ jN.length vK : Value).ownBlock ∧ some k_ ≠ (.slice vL kI.length vM : Value).ownBlock ∧ some k_ ≠ (.slice vN lv.length vO : Value).ownBlock ∧ some k_ ≠ (.slice vP t131.length vQ : Value).ownBlock ∧ some k_ ≠ (.slice ut mK.length uu : Value).ownBlock)) (jG.out) (fun k_ hk => ⟨hk.1.1.1.1.1.1.1.1.1.1.1.2, ⟨hk.1.1.1.1.1.1.1.1.1.1.2, ⟨hk.1.1.1.1.1.1.1.1.1.2, ⟨hk.1.1.1.1.1.1.1.1.2, ⟨hk.1.1.1.1.1.1.1.2, ⟨hk.1.1.1.1.1.1.2, ⟨hk.1.1.1.1.1.2, ⟨hk.1.1.1.1.2, ⟨hk.1.1.1.2, hk.1.1.2⟩⟩⟩⟩⟩⟩⟩⟩⟩))))) (iB.one (show Kd.FK (Kd.slice 64 (Kd.int .u64)) _ _ t139 [.slice Cs t139.length Ct] from (Kd.qI (Kd.ak (Kd.bG (ok' := (fun k_ => some k_ ≠ (.slice fO fQ.length fP : Value).ownBlock ∧ some k_ ≠ (.slice gN t105.length gM : Value).ownBlock ∧ some k_ ≠ (.slice uR bi.length uq : Value).ownBlock ∧ some k_ ≠ (.slice rF kE.length qF : Value).ownBlock ∧ some k_ ≠ (.slice sF t119.length sG : Value).ownBlock ∧ some k_ ≠ (.slice vJ jN.length vK : Value).ownBlock ∧ some k_ ≠ (.slice vL kI.length vM : Value).ownBlock ∧ some k_ ≠ (.slice vN lv.length vO : Value).ownBlock ∧ some k_ ≠ (.slice vP t131.length vQ : Value).ownBlock ∧ some k_ ≠ (.slice ut mK.length uu : Value).ownBlock)) (nL.out) (fun k_ hk => ⟨hk.1.1.1.1.1.1.1.1.1.1.1.2, ⟨hk.1.1.1.1.1.1.1.1.1.1.2, ⟨hk.1.1.1.1.1.1.1.1.1.2, ⟨hk.1.1.1.1.1.1.1.1.2, ⟨hk.1.1.1.1.1.1.2, ⟨hk.1.1.1.1.1.2, ⟨hk.1.1.1.1.2, ⟨hk.1.1.1.2, ⟨hk.1.1.2, hk.1.2⟩⟩⟩⟩⟩⟩⟩⟩⟩))).2.1 (Kd.R_F (Kd.bG (ok' := (fun k_ => some k_ ≠ (.slice fO fQ.length fP : Value).ownBlock ∧ some k_ ≠ (.slice gN t105.length gM : Value).ownBlock ∧ some k_ ≠ (.slice uR bi.length uq : Value).ownBlock ∧ some k_ ≠ (.slice rF kE.length qF : Value).ownBlock ∧ some k_ ≠ (.slice sF t119.length sG : Value).ownBlock ∧ some k_ ≠ (.slice vJ jN.length vK : Value).ownBlock ∧ some k_ ≠ (.slice vL kI.length vM : Value).ownBlock ∧ some k_ ≠ (.slice vN lv.length vO : Value).ownBlock ∧ some k_ ≠ (.slice vP t131.length vQ : Value).ownBlock ∧ some k_ ≠ (.slice ut mK.length uu : Value).ownBlock)) (nL.out) (fun k_ hk => ⟨hk.1.1.1.1.1.1.1.1.1.1.1.2, ⟨hk.1.1.1.1.1.1.1.1.1.1.2, ⟨hk.1.1.1.1.1.1.1.1.1.2, ⟨hk.1.1.1.1.1.1.1.1.2, ⟨hk.1.1.1.1.1.1.2, ⟨hk.1.1.1.1.1.2, ⟨hk.1.1.1.1.2, ⟨hk.1.1.1.2, ⟨hk.1.1.2, hk.1.2⟩⟩⟩⟩⟩⟩⟩⟩⟩))))) (iB.one (show Kd.FK (Kd.slice 64 (Kd.int .u64)) _ _ kF [.slice FU kF.length FV] from (Kd.qI (Kd.ak (Kd.bG (ok' := (fun k_ => some k_ ≠ (.slice fO fQ.length fP : Value).ownBlock ∧ some k_ ≠ (.slice gN t105.length gM : Value).ownBlock ∧ some k_ ≠ (.slice uR bi.length uq : Value).ownBlock ∧ some k_ ≠ (.slice rF kE.length qF : Value).ownBlock ∧ some k_ ≠ (.slice sF t119.length sG : Value).ownBlock ∧ some k_ ≠ (.slice vJ jN.length vK : Value).ownBlock ∧ some k_ ≠ (.slice vL kI.length vM : Value).ownBlock ∧ some k_ ≠ (.slice vN lv.length vO : Value).ownBlock ∧ some k_ ≠ (.slice vP t131.length vQ : Value).ownBlock ∧ some k_ ≠ (.slice ut mK.length uu : Value).ownBlock)) (za.out) (fun k_ hk => ⟨hk.1.1.1.1.1.1.1.1.1.1.1.2, ⟨hk.1.1.1.1.1.1.1.1.1.1.2, ⟨hk.1.1.1.1.1.1.1.1.1.2, ⟨hk.1.1.1.1.1.1.1.1.2, ⟨hk.1.1.1.1.1.1.2, ⟨hk.1.1.1.1.1.2, ⟨hk.1.1.1.1.2, ⟨hk.1.1.1.2, ⟨hk.1.1.2, hk.1.2⟩⟩⟩⟩⟩⟩⟩⟩⟩))).2.1 (Kd.R_F (Kd.bG (ok' := (fun k_ => some k_ ≠ (.slice fO fQ.length fP : Value).ownBlock ∧ some k_ ≠ (.slice gN t105.length gM : Value).ownBlock ∧ some k_ ≠ (.slice uR bi.length uq : Value).ownBlock ∧ some k_ ≠ (.slice rF kE.length qF : Value).ownBlock ∧ some k_ ≠ (.slice sF t119.length sG : Value).ownBlock ∧ some k_ ≠ (.slice vJ jN.length vK : Value).ownBlock ∧ some k_ ≠ (.slice vL kI.length vM : Value).ownBlock ∧ some k_ ≠ (.slice vN lv.length vO : Value).ownBlock ∧ some k_ ≠ (.slice vP t131.length vQ : Value).ownBlock ∧ some k_ ≠ (.slice ut mK.length uu : Value).ownBlock)) (za.out) (fun k_ hk => ⟨hk.1.1.1.1.1.1.1.1.1.1.1.2, ⟨hk.1.1.1.1.1.1.1.1.1.1.2, ⟨hk.1.1.1.1.1.1.1.1.1.2, ⟨hk.1.1.1.1.1.1.1.1.2, ⟨hk.1.1.1.1.1.1.2, ⟨hk.1.1.1.1.1.2, ⟨hk.1.1.1.1.2, ⟨hk.1.1.1.2, ⟨hk.1.1.2, hk.1.2⟩⟩⟩⟩⟩⟩⟩⟩⟩))))) (iB.none _ _))))); intro v146 w44 AR hb hg_ hnew_; clear hg_ hnew_; (first | rw [← Ny145.out] at AR | (simp only [Int.reduceToNat] at AR; rw [← Ny145.out] at AR)); replace gF := ae.mk (Kd.aI (qr gF) hb); replace gW := ae.mk (Kd.aI (qr gW) hb); replace il := ae.mk (Kd.aI (qr il) hb); replace jv := ae.mk (Kd.aI (qr jv) hb); replace iA := ae.mk (Kd.aI (qr iA) hb); replace gI := ae.mk (Kd.aI (qr gI) hb); replace ma := ae.mk (Kd.aI (qr ma) hb); replace mF := ae.mk (Kd.aI (qr mF) hb); replace nN := ae.mk (Kd.aI (qr nN) hb); replace o6 := ae.mk (Kd.aI (qr o6) hb); have xq := ae.mk (Kd.Ca AR (aN (qw HB))); replace HB := ae.mk (av (qw HB) hb); clear jG nL za; clear hb AR; obtain ⟨Eu, Ew, Cu⟩ := Kd.Cc xq.out; subst Cu) | ((with_reducible refine aW (f := 84) rfl ?_); refine cO (some 75) rfl rfl Tryd.func84 (by kernel_rfl) rfl #[.slice Eu y145.length Ew] rfl qt ?_; (with_reducible refine (gu.calls k _ _ y145 t148 _ ?aU ?aV A19.out).mono ?_); (case aU => exact qs ((Kd.xc xq.out).2.2)); (case aV => exact (Kd.xc xq.out).2.1); rintro e w47 ⟨v149, rfl, ho0, hb⟩; refine ⟨_, rfl, ?_⟩; replace xq := ae.mk (Kd.Am (by (with_reducible repeat (first | apply Kd.N_alloc | apply Kd.N_drewN | apply Kd.N_drew)); exact xq.out) (Kd.az ho0) hb); have FW := ae.mk (Kd.bz (Kd.aA (Kd.aA (Kd.aA (Kd.aA (Kd.aA (Kd.aA (Kd.aA (Kd.aA (Kd.aA (Kd.aA ho0 (Kd.aY (qr gF))) (Kd.aY (qr gW))) (Kd.aY (qr il))) (Kd.aY (qr jv))) (Kd.aY (qr iA))) (Kd.aY (qr gI))) (Kd.aY (qr ma))) (Kd.aY (qr mF))) (Kd.aY (qr nN))) (Kd.aY (qr o6))) (aN (qw HB))); replace gF := ae.mk (Kd.aj (qr gF) (Kd.az ho0) hb); replace gW := ae.mk (Kd.aj (qr gW) (Kd.az ho0) hb); replace il := ae.mk (Kd.aj (qr il) (Kd.az ho0) hb); replace jv := ae.mk (Kd.aj (qr jv) (Kd.az ho0) hb); replace iA := ae.mk (Kd.aj (qr iA) (Kd.az ho0) hb); replace gI := ae.mk (Kd.aj (qr gI) (Kd.az ho0) hb); replace ma := ae.mk (Kd.aj (qr ma) (Kd.az ho0) hb); replace mF := ae.mk (Kd.aj (qr mF) (Kd.az ho0) hb); replace nN := ae.mk (Kd.aj (qr nN) (Kd.az ho0) hb); replace o6 := ae.mk (Kd.aj (qr o6) (Kd.az ho0) hb); replace HB := ae.mk (av (qw HB) hb); (try clear hb); (try clear hb2); (try clear hk); (try clear hi); (try clear ho0)))
  go_ret
  exact ⟨_, by first | rfl | (simp [errW_none, errW_some] <;> rfl) | (simp only [← hji3, ← hji7]; first | rfl | (simp [errW_none, errW_some] <;> rfl)) | (simp [*, errW_none, errW_some] <;> rfl), by (with_reducible repeat (first | apply Kd.bu | apply Kd.bv | apply Kd.bg)); exact Kd.bG FW.out (fun _ hk => trivial), by repeat (first | (with_reducible first | exact HB.out | apply aM | apply aD | apply aH) | exact HB.out)⟩
end Go.Proofs.YthfphdbebnkdpaaDoor.P
end
section
namespace Go.Proofs.YthfphdbebnkdpaaDoor.P
open Go.RowKit Go.Proofs.YthfphdbebnkdpaaDoorW.aZ Go.Proofs.YthfphdbebnkdpaaDoorW.bL Go.Proofs.YthfphdbebnkdpaaDoorW.dC
attribute [local go_sem] dZ d9 fA fB dH dI ed ek
set_option linter.unusedVariables false
set_option linter.unusedSimpArgs false
def rC.f (k : Nat) (l0 : List Int) (l1 : List Int) : Option (List Int) := (fq.f k l0 l1).bind fun fM => (some fM)
set_option maxHeartbeats 8000000 in
set_option maxRecDepth 100000 in
theorem rC.calls (k : Nat) (A0 : Option Addr) (c0 : Nat) (l0 : List Int) (A1 : Option Addr) (c1 : Nat) (l1 : List Int) (r : List Int) (w : World) (hr0 : Kd.C (Kd.int .u64) w A0 l0.length l0) (hc0 : l0.length ≤ c0) (hr1 : Kd.C (Kd.int .u64) w A1 l1.length l1) (hc1 : l1.length ≤ c1) (h : rC.f k l0 l1 = some r) :
  Calls Tryd.prog 31 #[.slice A0 l0.length c0, .slice A1 l1.length c1] w fun e w' => ∃ v0_ : Value, e = .returned (v0_) ∧ Kd.R (Kd.int .u64) 64 w' w.heap.size (fun _ => True) v0_ r ∧ Below w.heap.size w w' := by
 have HR0 := ae.mk hr0
 have HC0 := ae.mk hc0
 clear hr0 hc0
 have HR1 := ae.mk hr1
 have HC1 := ae.mk hc1
 clear hr1 hc1
 have HB := ae.mk (Below.refl w.heap.size w)
 have H : ((fq.f k l0 l1).bind fun fM => (some fM)) = some r := h
 clear h
 replace H := Option.bind_eq_some_iff.mp H
 obtain ⟨fM, A30, H⟩ := H
 replace H : (some fM) = some r := H
 have A3 := ae.mk A30
 clear A30
 obtain rfl := Option.some.inj H
 go_enter Tryd.func31, Tryd.ntmps31
 go_wp2_with (first | ((with_reducible refine aW (f := 57) rfl ?_); refine cO (some 7) rfl rfl Tryd.func57 (by kernel_rfl) rfl #[.slice A0 l0.length c0, .slice A1 l1.length c1] rfl qt ?_; (with_reducible refine (fq.calls k _ _ l0 _ _ l1 fM _ ?aU ?aV ?bJ ?bK A3.out).mono ?_); (case aU => exact qs (HR0.out)); (case aV => exact HC0.out); (case bJ => exact qs (HR1.out)); (case bK => exact HC1.out); rintro e w4 ⟨v102, rfl, ho0, hb⟩; refine ⟨_, rfl, ?_⟩; have nI := ae.mk (Kd.bz ho0 (aN (qw HB))); replace HB := ae.mk (av (qw HB) hb); (try clear hb); (try clear hb2); (try clear hk); (try clear hi); (try clear ho0)))
 go_ret
 exact ⟨_, by first | rfl | (simp [errW_none, errW_some] <;> rfl) | (simp [*, errW_none, errW_some] <;> rfl), by (with_reducible repeat (first | apply Kd.bu | apply Kd.bv | apply Kd.bg)); exact nI.out, by repeat (first | (with_reducible first | exact HB.out | apply aM | apply aD | apply aH) | exact HB.out)⟩
end Go.Proofs.YthfphdbebnkdpaaDoor.P
end
section
set_option linter.unusedVariables false
set_option linter.unusedSimpArgs false
namespace Go.Proofs.YthfphdbebnkdpaaDoor.Pn
open Go.Proofs.YthfphdbebnkdpaaDoor.P Go.Proofs.YthfphdbebnkdpaaDoorW.aZ Go.Proofs.YthfphdbebnkdpaaDoorW.bL Go.RowKit
theorem ze (a b c d : Nat) (ha : a < 4294967296) (hb : b < 4294967296) (hc : c < 4294967296) (hd : d < 4294967296) :
    mE.f (a : Int) (b : Int) (c : Int) (d : Int) = some ((((a * b + c + d) % 4294967296 : Nat) : Int), (((a * b + c + d) / 4294967296 : Nat) : Int)) := by
  unfold mE.f
  rw [nQ (x := (a : Int)) (by omega) (by omega), nQ (x := (b : Int)) (by omega) (by omega), nQ (x := (c : Int)) (by omega) (by omega), nQ (x := (d : Int)) (by omega) (by omega), mD, mD, mD]
  have h : a * b ≤ 4294967295 * 4294967295 := Nat.mul_le_mul (by omega) (by omega)
  rw [← Int.natCast_mul]
  generalize a * b = p at h
  have e : (((p : Int) % 18446744073709551616 + c) % 18446744073709551616 + d) % 18446744073709551616 = ((p + c + d : Nat) : Int) := by omega
  rw [e, Ay (by omega) (by omega)]
  simp only [Option.some.injEq, Prod.mk.injEq]
  constructor <;> omega
theorem rD (l : List Int) (i : Nat) (x : Int) (hi : i < l.length) : vl (l.set i x) + 4294967296 ^ i * (l.getD i 0).toNat = vl l + 4294967296 ^ i * x.toNat := by
  induction l generalizing i with
  | nil => simp at hi
  | cons y l ih =>
    cases i with
    | zero => simp [vl]; omega
    | succ i =>
      have h := ih i (by simpa using hi)
      rw [List.set_cons_succ, List.getD_cons_succ, vl, vl, Nat.pow_succ]
      have h2 : 4294967296 * (vl (l.set i x) + 4294967296 ^ i * (l.getD i 0).toNat) = 4294967296 * (vl l + 4294967296 ^ i * x.toNat) := by rw [h]
      rw [Nat.mul_add, Nat.mul_add, ← Nat.mul_assoc, ← Nat.mul_assoc, Nat.mul_comm 4294967296 (4294967296 ^ i)] at h2
      rw [Nat.add_assoc, Nat.add_assoc, h2]
theorem getD_set_ne (l : List Int) (i j : Nat) (x : Int) (h : i ≠ j) : (l.set i x).getD j 0 = l.getD j 0 := by
  rw [List.getD_eq_getElem?_getD, List.getElem?_set_ne h, ← List.getD_eq_getElem?_getD]
theorem lU {l : List Int} (h : OKL l) (i : Nat) : l.getD i 0 = (((l.getD i 0).toNat : Nat) : Int) ∧ (l.getD i 0).toNat < 4294967296 := by
  have := nT h i
  omega
theorem yt (a b : List Int) (ha : OKL a) (hb : OKL b) (hla : a.length ≤ 1000000) (hlb : b.length ≤ 1000000) (i : Nat) (hi : i < a.length) (V0 : Nat) (r : List Int)
    (hr : ∀ p, p.length = a.length + b.length → OKL p → (∀ j, i + 1 + b.length ≤ j → p.getD j 0 = 0) → vl p = V0 + 4294967296 ^ i * ((a.getD i 0).toNat * vl b) →
      Ev (fun k => gp.l0 k b p a (a.length : Int) ((i + 1 : Nat) : Int)) r) (d : Nat) :
    ∀ (j : Nat) (p : List Int) (c : Nat), j + d = b.length → p.length = a.length + b.length → OKL p → (∀ q, i + b.length ≤ q → p.getD q 0 = 0) → c < 4294967296 →
      vl p + 4294967296 ^ (i + j) * c = V0 + 4294967296 ^ i * ((a.getD i 0).toNat * vl (b.take j)) →
      Ev (fun k => gp.l1 k b p (i : Int) (a.getD i 0) (c : Int) a (a.length : Int) (i : Int) b (b.length : Int) (j : Int)) r := by
  induction d with
  | zero =>
    intro j p c hj hp hok hz hc hv
    obtain rfl : j = b.length := by clear hv; omega
    rw [List.take_length] at hv
    have hlt : i + b.length < p.length := by clear hv; omega
    have hw : wrap64 ((i : Int) + (b.length : Int)) = ((i + b.length : Nat) : Int) := by clear hv; unfold wrap64; omega
    have hw2 : wrap64 ((i : Int) + 1) = ((i + 1 : Nat) : Int) := by clear hv; unfold wrap64; omega
    have hset := rD p (i + b.length) (c : Int) hlt
    rw [hz _ (Nat.le_refl _)] at hset
    refine Ev.step (fun k => ?_) (hr (p.set (i + b.length) (c : Int)) (by rw [List.length_set]; exact hp) (mJ hok _ (by clear hv hset; omega) (by clear hv hset; omega)) (fun q hq => ?_) ?_)
    · clear hv hset
      rw [gp.l1, if_neg (by omega), hw, if_pos (by omega), if_pos (by omega), hw2, Int.toNat_natCast]
    · rw [getD_set_ne _ _ _ _ (by clear hv hset; omega)]; exact hz q (by clear hv hset; omega)
    · rw [← hv]; simpa using hset
  | succ d ih =>
    intro j p c hj hp hok hz hc hv
    have hjb : j < b.length := by clear hv ih hr; omega
    have hlt : i + j < p.length := by clear hv ih hr; omega
    have hw : wrap64 ((i : Int) + (j : Int)) = ((i + j : Nat) : Int) := by clear hv ih hr; unfold wrap64; omega
    have hw2 : wrap64 ((j : Int) + 1) = ((j + 1 : Nat) : Int) := by clear hv ih hr; unfold wrap64; omega
    obtain ⟨ex, bx⟩ := lU ha i
    obtain ⟨ey, bY⟩ := lU hb j
    obtain ⟨eq_, bq⟩ := lU hok (i + j)
    have hset := rD p (i + j) ((((a.getD i 0).toNat * (b.getD j 0).toNat + (p.getD (i + j) 0).toNat + c) % 4294967296 : Nat) : Int) hlt
    have htb := jR b hb j
    have hm := ze _ _ _ c bx bY bq hc
    rw [← ex, ← ey, ← eq_] at hm
    generalize (a.getD i 0).toNat = X at *
    generalize (b.getD j 0).toNat = Y at *
    generalize (p.getD (i + j) 0).toNat = Q at *
    have hT : (X * Y + Q + c) / 4294967296 < 4294967296 := by
      have h : X * Y ≤ 4294967295 * 4294967295 := Nat.mul_le_mul (by clear hv hset htb ih hr hm; omega) (by clear hv hset htb ih hr hm; omega)
      generalize X * Y = XY at h
      clear hv hset htb ih hr hm
      omega
    refine Ev.step (fun k => ?_) (ih (j + 1) (p.set (i + j) (((X * Y + Q + c) % 4294967296 : Nat) : Int)) ((X * Y + Q + c) / 4294967296) (by clear hv hset htb ih hr hm; omega) (by rw [List.length_set]; exact hp) (mJ hok _ (by clear hv hset htb ih hr hm; omega) (by clear hv hset htb ih hr hm; omega)) (fun q hq => ?_) hT ?_)
    · clear hv hset htb hr ih
      rw [gp.l1, if_pos (by clear hm; omega), if_pos (by clear hm; omega), if_pos (by clear hm; omega), hw, if_pos (by clear hm; omega), if_pos (by clear hm; omega), gZ, gZ, hm]
      simp only [Option.bind_some]
      rw [hw2, Int.toNat_natCast]
    · rw [getD_set_ne _ _ _ _ (by clear hv hset htb ih hr hm; omega)]; exact hz q (by clear hv hset htb ih hr hm; omega)
    · rw [htb]
      clear ih hr hm htb
      have e1 := Nat.div_add_mod (X * Y + Q + c) 4294967296
      generalize (X * Y + Q + c) / 4294967296 = D at *
      generalize (X * Y + Q + c) % 4294967296 = R at *
      rw [Int.toNat_natCast] at hset
      generalize vl (p.set (i + j) (R : Int)) = vp' at *
      generalize vl p = vp at *
      generalize vl (b.take j) = vb at *
      have h2 : 4294967296 ^ i * (X * (vb + 4294967296 ^ j * Y)) = 4294967296 ^ i * (X * vb) + 4294967296 ^ (i + j) * (X * Y) := by
        rw [Nat.pow_add, Nat.mul_add, Nat.mul_add]
        congr 1
        rw [Nat.mul_left_comm X, Nat.mul_assoc]
      rw [h2, show V0 + (4294967296 ^ i * (X * vb) + 4294967296 ^ (i + j) * (X * Y)) = V0 + 4294967296 ^ i * (X * vb) + 4294967296 ^ (i + j) * (X * Y) from (Nat.add_assoc _ _ _).symm, ← hv, show i + (j + 1) = i + j + 1 by omega, Nat.pow_succ]
      generalize 4294967296 ^ (i + j) = P at *
      have h3 : P * (X * Y) + P * Q + P * c = P * 4294967296 * D + P * R := by
        rw [← Nat.mul_add, ← Nat.mul_add, ← e1, Nat.mul_add, Nat.mul_assoc]
      clear hv h2 e1 hw hw2 ex ey eq_ bx bY bq hT
      omega
theorem yu (a b : List Int) (ha : OKL a) (hb : OKL b) (hla : a.length ≤ 1000000) (hlb : b.length ≤ 1000000) (d : Nat) :
    ∀ (i : Nat) (p : List Int), i + d = a.length → p.length = a.length + b.length → OKL p → (∀ q, i + b.length ≤ q → p.getD q 0 = 0) → vl p = vl (a.take i) * vl b →
      Ev (fun k => gp.l0 k b p a (a.length : Int) (i : Int)) (dg (vl a * vl b)) := by
  induction d with
  | zero =>
    intro i p hi hp hok hz hv
    obtain rfl : i = a.length := by clear hv; omega
    rw [List.take_length] at hv
    have hm := rA p hok (by clear hv; omega)
    rw [hv] at hm
    refine Ev.step (f := fun k => (jy.f k p).bind fun t => some t) (fun k => ?_) (Ev.bind (f := fun _ t => some t) (Ev.bind (g := fun k => dw.f k p) (f := fun _ t => some t.1) hm (Ev.now _)) (Ev.now _))
    rw [gp.l0, if_neg (by clear hv hm; omega)]
  | succ d ih =>
    intro i p hi hp hok hz hv
    have hia : i < a.length := by clear hv ih; omega
    have hin := yt a b ha hb hla hlb i hia (vl p) (dg (vl a * vl b)) (fun p' h1 h2 h3 h4 => ih (i + 1) p' (by clear hv ih h4; omega) h1 h2 h3 (by rw [h4, hv, jR a ha, Nat.add_mul, Nat.mul_assoc])) b.length 0 p 0 (Nat.zero_add _) hp hok hz (by decide) (by simp [vl])
    refine Ev.step (fun k => ?_) hin
    clear hin ih hv
    rw [gp.l0, if_pos (by omega), if_pos (by omega), if_pos (by omega), gZ]
    rfl
theorem qP (n q : Nat) : (List.replicate n (0 : Int)).getD q 0 = 0 := by
  rw [List.getD_eq_getElem?_getD, List.getElem?_replicate]; split <;> rfl
theorem Cv (n m : Nat) (hn : (dg n).length ≤ 1000000) (hm : (dg m).length ≤ 1000000) : Ev (fun k => gp.f k (dg n) (dg m)) (dg (n * m)) := by
  have h := yu (dg n) (dg m) (kZ n) (kZ m) hn hm (dg n).length 0 (List.replicate ((dg n).length + (dg m).length) 0) (Nat.zero_add _) (by simp) (oI _) (fun q _ => qP _ q) (by simp [vl, uM])
  rw [mq, mq] at h
  have hw : wrap64 (((dg n).length : Int) + ((dg m).length : Int)) = (((dg n).length + (dg m).length : Nat) : Int) := by unfold wrap64; omega
  refine Ev.congr (fun k => ?_) h
  rw [gp.f, hw, if_pos (by omega), if_pos (by omega)]
  rfl
end Go.Proofs.YthfphdbebnkdpaaDoor.Pn
end
section
set_option linter.unusedVariables false
set_option linter.unusedSimpArgs false
namespace Go.Proofs.YthfphdbebnkdpaaDoor.Pn
open Go.Proofs.YthfphdbebnkdpaaDoor.P Go.Proofs.YthfphdbebnkdpaaDoorW.aZ Go.Proofs.YthfphdbebnkdpaaDoorW.bL Go.RowKit
theorem wK (l : List Int) (h : OKL l) (hl : l.length ≤ 1000000000) : Ev (fun k => jy.f k l) (dg (vl l)) :=
  Ev.bind (g := fun k => dw.f k l) (f := fun _ t => some t.1) (rA l h hl) (Ev.now _)
theorem yw (a b : Nat) : mn (a : Int) (b : Int) = ((min a b : Nat) : Int) := by unfold mn; split <;> omega
theorem yx (n N : Nat) : vl ((dg n).take (min N (dg n).length)) = n % 4294967296 ^ N ∧ vl ((dg n).drop (min N (dg n).length)) = n / 4294967296 ^ N := by
  by_cases h : N ≤ (dg n).length
  · rw [Nat.min_eq_left h]
    have h1 := qz (dg n) N h
    rw [mq] at h1
    have h2 := rJ (qK (kZ n) N)
    rw [List.length_take, Nat.min_eq_left h] at h2
    have hp : 0 < 4294967296 ^ N := Nat.pow_pos (by decide)
    generalize vl ((dg n).take N) = t at *
    generalize vl ((dg n).drop N) = d at *
    generalize 4294967296 ^ N = P at *
    subst h1
    exact ⟨by rw [Nat.add_mul_mod_self_left, Nat.mod_eq_of_lt h2], by rw [Nat.add_mul_div_left _ _ hp, Nat.div_eq_of_lt h2, Nat.zero_add]⟩
  · rw [Nat.min_eq_right (by omega), List.take_length, List.drop_length, mq]
    have h2 : n < 4294967296 ^ N := Nat.lt_of_lt_of_le (qL n) (Nat.pow_le_pow_right (by decide) (by omega))
    exact ⟨(Nat.mod_eq_of_lt h2).symm, (Nat.div_eq_of_lt h2).symm⟩
theorem AU (n N : Nat) (hn : (dg n).length ≤ 1000000) : Ev (fun k => iU.f k (dg n) (N : Int)) (dg (n % 4294967296 ^ N), dg (n / 4294967296 ^ N)) := by
  obtain ⟨h1, h2⟩ := yx n N
  have e1 := wK _ (qK (kZ n) (min N (dg n).length)) (by rw [List.length_take]; clear h1 h2; omega)
  have e2 := wK _ (Ar (kZ n) (min N (dg n).length)) (by rw [List.length_drop]; clear h1 h2; omega)
  rw [h1] at e1
  rw [h2] at e2
  refine Ev.congr (fun k => ?_) (Ev.bind (f := fun k dK => (jy.f k ((dg n).drop (min N (dg n).length))).bind fun bA => some (dK, bA)) e1 (Ev.bind (f := fun _ bA => some (_, bA)) e2 (Ev.now _)))
  clear h1 h2 e1 e2
  rw [iU.f, yw, if_pos (by omega), if_pos (by omega), Int.toNat_natCast]
theorem Dm (n N : Nat) (h : N + (dg n).length ≤ 1000000) : Ev (fun k => iy.f k (dg n) (N : Int)) (dg (4294967296 ^ N * n)) := by
  have hok : OKL (List.replicate N 0 ++ dg n) := qy.2 ⟨oI _, kZ n⟩
  have e := wK _ hok (by rw [List.length_append, List.length_replicate]; omega)
  rw [lT, uM, mq, List.length_replicate, Nat.zero_add] at e
  refine Ev.congr (fun k => ?_) e
  rw [iy.f, if_pos (by omega), Int.toNat_natCast, if_pos (by omega)]
theorem Cw (a b c : Nat) (ha : (dg a).length ≤ 900000) (hb : (dg b).length ≤ 900000) (hc : (dg c).length ≤ 900000) (hab : (dg (a + b)).length ≤ 900000) :
    Ev (fun k => gu.f k [dg a, dg b, dg c]) (dg (a + b + c)) := by
  have w1 : wrap64 ((0 : Int) + 1) = 1 := by unfold wrap64; omega
  have w2 : wrap64 ((1 : Int) + 1) = 2 := by unfold wrap64; omega
  have w3 : wrap64 ((2 : Int) + 1) = 3 := by unfold wrap64; omega
  have r0 : rM [dg a, dg b, dg c] 0 = dg a := rfl
  have r1 : rM [dg a, dg b, dg c] 1 = dg b := rfl
  have r2 : rM [dg a, dg b, dg c] 2 = dg c := rfl
  have l3 : (([dg a, dg b, dg c] : List (List Int)).length : Int) = 3 := rfl
  have e1 := qO 0 a (by rw [iL]; simp) (by omega)
  rw [iL, Nat.zero_add] at e1
  have e2 := qO a b (by omega) (by omega)
  have e3 := qO (a + b) c (by omega) (by omega)
  have s3 : Ev (fun k => gu.l0 k (dg (a + b + c)) [dg a, dg b, dg c] 3 3) (dg (a + b + c)) := by
    refine Ev.step (f := fun _ => some (dg (a + b + c))) (fun k => ?_) (Ev.now _)
    rw [gu.l0, if_neg (by decide)]
  have s2 : Ev (fun k => gu.l0 k (dg (a + b)) [dg a, dg b, dg c] 3 2) (dg (a + b + c)) := by
    refine Ev.step (f := fun k => (dU.f k (dg (a + b)) (dg c)).bind fun t => gu.l0 k t [dg a, dg b, dg c] 3 3) (fun k => ?_) (Ev.bind (f := fun k t => gu.l0 k t [dg a, dg b, dg c] 3 3) e3 s3)
    rw [gu.l0, if_pos (by decide), if_pos (by decide), l3, if_pos (by decide), r2, w3]
  have s1 : Ev (fun k => gu.l0 k (dg a) [dg a, dg b, dg c] 3 1) (dg (a + b + c)) := by
    refine Ev.step (f := fun k => (dU.f k (dg a) (dg b)).bind fun t => gu.l0 k t [dg a, dg b, dg c] 3 2) (fun k => ?_) (Ev.bind (f := fun k t => gu.l0 k t [dg a, dg b, dg c] 3 2) e2 s2)
    rw [gu.l0, if_pos (by decide), if_pos (by decide), l3, if_pos (by decide), r1, w2]
  refine Ev.step (f := fun k => (dU.f k [] (dg a)).bind fun t => gu.l0 k t [dg a, dg b, dg c] 3 1) (fun k => ?_) (Ev.bind (f := fun k t => gu.l0 k t [dg a, dg b, dg c] 3 1) e1 s1)
  rw [gu.f, gu.l0, l3, if_pos (by decide), if_pos (by decide), if_pos (by decide), r0, w1]
theorem sH (n m : Nat) : (dg (n * m)).length ≤ (dg n).length + (dg m).length := by
  refine lc ?_
  rw [Nat.pow_add]
  exact Nat.mul_lt_mul'' (qL n) (qL m)
theorem pG (n m L : Nat) (hn : (dg n).length ≤ L) (hm : (dg m).length ≤ L) : (dg (n + m)).length ≤ L + 1 := by
  refine lc ?_
  have h1 := p9 hn
  have h2 := p9 hm
  rw [Nat.pow_succ]
  generalize 4294967296 ^ L = P at *
  omega
theorem AV (L : Nat) : L ≤ 50000 → ∀ n m : Nat, (dg n).length ≤ L → (dg m).length ≤ L → Ev (fun k => fq.f k (dg n) (dg m)) (dg (n * m)) := by
  induction L using Nat.strongRecOn with
  | _ L ih =>
    intro hL n m hn hm
    by_cases hmin : min (dg n).length (dg m).length < 4
    · refine Ev.step (f := fun k => (gp.f k (dg n) (dg m)).bind fun t => some t) (fun k => ?_) (Ev.bind (f := fun _ t => some t) (Cv n m (by omega) (by omega)) (Ev.now _))
      rw [fq.f, yw, if_pos (by omega)]
    · obtain ⟨M, hM⟩ : ∃ M, M = max (dg n).length (dg m).length := ⟨_, rfl⟩
      obtain ⟨N, hN⟩ : ∃ N, N = (M + 1) / 2 := ⟨_, rfl⟩
      have hw : wrap64 (Int.tdiv (wrap64 (mx ((dg n).length : Int) ((dg m).length : Int) + 1)) 2) = (N : Int) := by
        rw [AB, ← hM, show wrap64 ((M : Int) + 1) = ((M + 1 : Nat) : Int) by unfold wrap64; omega, Int.tdiv_eq_ediv_of_nonneg (by omega)]
        unfold wrap64
        omega
      have hw2 : wrap64 (2 * (N : Int)) = ((2 * N : Nat) : Int) := by unfold wrap64; omega
      have h4 : N + 1 < L := by omega
      have hNN : M ≤ N + N := by omega
      have bn : n < 4294967296 ^ N * 4294967296 ^ N := by rw [← Nat.pow_add]; exact p9 (by omega)
      have bm : m < 4294967296 ^ N * 4294967296 ^ N := by rw [← Nat.pow_add]; exact p9 (by omega)
      have hp : 0 < 4294967296 ^ N := Nat.pow_pos (by decide)
      have lal : (dg (n % 4294967296 ^ N)).length ≤ N := lc (Nat.mod_lt _ hp)
      have lbl : (dg (m % 4294967296 ^ N)).length ≤ N := lc (Nat.mod_lt _ hp)
      have lah : (dg (n / 4294967296 ^ N)).length ≤ N := lc (Nat.div_lt_of_lt_mul bn)
      have lbh : (dg (m / 4294967296 ^ N)).length ≤ N := lc (Nat.div_lt_of_lt_mul bm)
      have c1 := AU n N (by clear bn bm hp; omega)
      have c2 := AU m N (by clear bn bm hp; omega)
      have en := Nat.mod_add_div n (4294967296 ^ N)
      have em := Nat.mod_add_div m (4294967296 ^ N)
      clear bn bm hp
      have up2 : ∀ x, (4294967296 : Nat) ^ (2 * N) * x = 4294967296 ^ N * (4294967296 ^ N * x) := fun x => by rw [Nat.two_mul, Nat.pow_add, Nat.mul_assoc]
      have upN := fun x (h : N + (dg x).length ≤ 1000000) => Dm x N h
      have upN2 := fun x (h : 2 * N + (dg x).length ≤ 1000000) => Dm x (2 * N) h
      have lup : ∀ x, (dg (4294967296 ^ N * x)).length ≤ N + (dg x).length := fun x => by
        refine lc ?_
        rw [Nat.pow_add]
        exact Nat.mul_lt_mul_of_pos_left (qL x) (Nat.pow_pos (by decide))
      simp only [up2] at upN2
      clear up2
      generalize n % 4294967296 ^ N = al at *
      generalize m % 4294967296 ^ N = bl at *
      generalize n / 4294967296 ^ N = ah at *
      generalize m / 4294967296 ^ N = bh at *
      generalize (4294967296 : Nat) ^ N = P at *
      have la := pG al ah N lal lah
      have lb := pG bl bh N lbl lbh
      have l1 := sH al bl
      have l2 := sH ah bh
      have l3 := sH (al + ah) (bl + bh)
      have e1 := ih (N + 1) h4 (by omega) al bl (by omega) (by omega)
      have e2 := ih (N + 1) h4 (by omega) ah bh (by omega) (by omega)
      have e3 := qO al ah (by omega) (by omega)
      have e4 := qO bl bh (by omega) (by omega)
      have e5 := ih (N + 1) h4 (by omega) (al + ah) (bl + bh) la lb
      have eq1 : (al + ah) * (bl + bh) = al * bl + (al * bh + ah * bl) + ah * bh := by
        rw [Nat.add_mul, Nat.mul_add, Nat.mul_add]; omega
      have s1 : (al + ah) * (bl + bh) - al * bl = (al * bh + ah * bl) + ah * bh := by omega
      have s2 : (al * bh + ah * bl) + ah * bh - ah * bh = al * bh + ah * bl := by omega
      have e6 := uQ ((al + ah) * (bl + bh)) (al * bl) (by omega) (by omega) (by omega)
      rw [s1] at e6
      have l4 : (dg (al * bh + ah * bl + ah * bh)).length ≤ 2 * N + 2 := by
        refine Nat.le_trans (jr (show al * bh + ah * bl + ah * bh ≤ (al + ah) * (bl + bh) by omega)) (by omega)
      have l5 : (dg (al * bh + ah * bl)).length ≤ 2 * N + 2 := by
        refine Nat.le_trans (jr (show al * bh + ah * bl ≤ (al + ah) * (bl + bh) by omega)) (by omega)
      have e7 := uQ (al * bh + ah * bl + ah * bh) (ah * bh) (by omega) (by omega) (by omega)
      rw [s2] at e7
      have e8 := upN (al * bh + ah * bl) (by omega)
      have e9 := upN2 (ah * bh) (by omega)
      have l6 := lup (al * bh + ah * bl)
      have l7 := lup (ah * bh)
      have l8 := lup (P * (ah * bh))
      have l9 := pG (al * bl) (P * (al * bh + ah * bl)) (3 * N + 2) (by omega) (by omega)
      have e10 := Cw (al * bl) (P * (al * bh + ah * bl)) (P * (P * (ah * bh))) (by omega) (by omega) (by omega) (by omega)
      have eq2 : al * bl + P * (al * bh + ah * bl) + P * (P * (ah * bh)) = n * m := by
        rw [← en, ← em, Nat.add_mul, Nat.mul_add, Nat.mul_add, Nat.mul_add]
        have t1 : al * (P * bh) = P * (al * bh) := Nat.mul_left_comm _ _ _
        have t2 : P * ah * bl = P * (ah * bl) := Nat.mul_assoc _ _ _
        have t3 : P * ah * (P * bh) = P * (P * (ah * bh)) := by rw [Nat.mul_assoc, Nat.mul_left_comm ah]
        rw [t1, t2, t3]
        omega
      rw [eq2] at e10
      clear eq1 eq2 s1 s2 en em l1 l2 l3 l4 l5 l6 l7 l8 l9 la lb
      refine Ev.step (fun k => ?_) (Ev.bind (f := fun k gV => (iU.f k (dg m) (N : Int)).bind fun ik => ((fq.f k gV.1 ik.1).bind fun t116 => ((fq.f k gV.2 ik.2).bind fun t119 => ((dU.f k gV.1 gV.2).bind fun jN => ((dU.f k ik.1 ik.2).bind fun kI => ((fq.f k jN kI).bind fun lv => ((dx.f k lv t116).bind fun lZ => ((dx.f k lZ.1 t119).bind fun kT => ((iy.f k kT.1 (N : Int)).bind fun t139 => ((iy.f k t119 ((2 * N : Nat) : Int)).bind fun kF => ((gu.f k (([t116, t139, kF] : List (List Int)))).bind fun t148 => (some t148)))))))))))) c1 ?_)
      · clear c1 c2 e1 e2 e3 e4 e5 e6 e7 e8 e9 e10
        rw [fq.f, hw, yw, if_neg (by omega), hw2]
      · exact Ev.bind (f := fun k ik => _) c2 (Ev.bind (f := fun k t116 => _) e1 (Ev.bind (f := fun k t119 => _) e2 (Ev.bind (f := fun k jN => _) e3 (Ev.bind (f := fun k kI => _) e4 (Ev.bind (f := fun k lv => _) e5 (Ev.bind (f := fun k lZ => _) e6 (Ev.bind (f := fun k kT => _) e7 (Ev.bind (f := fun k t139 => _) e8 (Ev.bind (f := fun k kF => _) e9 (Ev.bind (f := fun k t148 => _) e10 (Ev.now _)))))))))))
theorem Ex (n m : Nat) (hn : (dg n).length ≤ 50000) (hm : (dg m).length ≤ 50000) : Ev (fun k => rC.f k (dg n) (dg m)) (dg (n * m)) :=
  Ev.bind (g := fun k => fq.f k (dg n) (dg m)) (f := fun _ t => some t) (AV 50000 (Nat.le_refl _) n m hn hm) (Ev.now _)
end Go.Proofs.YthfphdbebnkdpaaDoor.Pn
end
section
namespace Go.Proofs.YthfphdbebnkdpaaDoor.P
open Go.RowKit Go.Proofs.YthfphdbebnkdpaaDoorW.aZ Go.Proofs.YthfphdbebnkdpaaDoorW.bL Go.Proofs.YthfphdbebnkdpaaDoorW.dC
attribute [local go_sem] dZ d9 fA fB dH dI ed ek
set_option linter.unusedVariables false
set_option linter.unusedSimpArgs false
def o7.f (a0 : Int) (a1 : Int) (a2 : Int) : Option (Int × Int × Int) := if (Go.bits .and .u64 a2 4294967295) = 0 then (some (0, 0, 3)) else (if (Go.bits .and .u64 a0 4294967295) ≥ (Go.bits .and .u64 a2 4294967295) then (some (0, 0, 2)) else (some (IntKind.u64.wrap (Int.tdiv (Go.bits .or .u64 (IntKind.u64.wrap ((Go.bits .and .u64 a0 4294967295) * 4294967296)) (Go.bits .and .u64 a1 4294967295)) (Go.bits .and .u64 a2 4294967295)), Int.tmod (Go.bits .or .u64 (IntKind.u64.wrap ((Go.bits .and .u64 a0 4294967295) * 4294967296)) (Go.bits .and .u64 a1 4294967295)) (Go.bits .and .u64 a2 4294967295), 0)))
set_option maxHeartbeats 8000000 in
set_option maxRecDepth 100000 in
theorem o7.calls (a0 : Int) (a1 : Int) (a2 : Int) (r1 : Int) (r2 : Int) (r3 : Int) (w : World) (h : o7.f a0 a1 a2 = some (r1, r2, r3)) :
  Calls Tryd.prog 86 #[.int .u64 a0, .int .u64 a1, .int .u64 a2] w fun e w' => e = .returned (.tuple #[.int .u64 r1, .int .u64 r2, .int .i64 r3]) ∧ bZ w w' := by
 have H : (if (Go.bits .and .u64 a2 4294967295) = 0 then (some (0, 0, 3)) else (if (Go.bits .and .u64 a0 4294967295) ≥ (Go.bits .and .u64 a2 4294967295) then (some (0, 0, 2)) else (some (IntKind.u64.wrap (Int.tdiv (Go.bits .or .u64 (IntKind.u64.wrap ((Go.bits .and .u64 a0 4294967295) * 4294967296)) (Go.bits .and .u64 a1 4294967295)) (Go.bits .and .u64 a2 4294967295)), Int.tmod (Go.bits .or .u64 (IntKind.u64.wrap ((Go.bits .and .u64 a0 4294967295) * 4294967296)) (Go.bits .and .u64 a1 4294967295)) (Go.bits .and .u64 a2 4294967295), 0)))) = some (r1, r2, r3) := h
 clear h
 by_cases c4 : (Go.bits .and .u64 a2 4294967295) = 0
 ·rw [if_pos c4] at H
  have ll : ((Go.bits .and .u64 a2 4294967295) == 0) = true := beq_iff_eq.mpr c4
  have pQ : ((Go.bits .and .u64 a2 4294967295) != 0) = false := bne_eq_false_iff_eq.mpr c4
  clear c4
  simp only [Option.some.injEq, Prod.mk.injEq] at H
  obtain ⟨rfl, rfl, rfl⟩ := H
  go_enter Tryd.func86, Tryd.ntmps86
  go_wp2
  repeat (go_quiet (fail); try go_wp2)
  go_ret3
  exact ⟨by first | rfl | (simp; done) | (simp [*]; done), by repeat (first | exact bZ.refl _ | apply bZ.step)⟩
 ·rw [if_neg c4] at H
  have ll : ((Go.bits .and .u64 a2 4294967295) == 0) = false := beq_eq_false_iff_ne.mpr c4
  have pQ : ((Go.bits .and .u64 a2 4294967295) != 0) = true := bne_iff_ne.mpr c4
  by_cases c5 : (Go.bits .and .u64 a0 4294967295) ≥ (Go.bits .and .u64 a2 4294967295)
  ·rw [if_pos c5] at H
   have jW : decide ((Go.bits .and .u64 a2 4294967295) ≤ (Go.bits .and .u64 a0 4294967295)) = true := decide_eq_true c5
   clear c5
   simp only [Option.some.injEq, Prod.mk.injEq] at H
   obtain ⟨rfl, rfl, rfl⟩ := H
   go_enter Tryd.func86, Tryd.ntmps86
   go_wp2
   repeat (go_quiet (fail); try go_wp2)
   go_ret3
   exact ⟨by first | rfl | (simp; done) | (simp [*]; done), by repeat (first | exact bZ.refl _ | apply bZ.step)⟩
  ·rw [if_neg c5] at H
   have jW : decide ((Go.bits .and .u64 a2 4294967295) ≤ (Go.bits .and .u64 a0 4294967295)) = false := decide_eq_false c5
   clear c5
   simp only [Option.some.injEq, Prod.mk.injEq] at H
   obtain ⟨rfl, rfl, rfl⟩ := H
   go_enter Tryd.func86, Tryd.ntmps86
   go_wp2
   repeat (go_quiet (fail); try go_wp2)
   go_ret3
   exact ⟨by first | rfl | (simp; done) | (simp [*]; done), by repeat (first | exact bZ.refl _ | apply bZ.step)⟩
end Go.Proofs.YthfphdbebnkdpaaDoor.P
end
section
namespace Go.Proofs.YthfphdbebnkdpaaDoor.P
open Go.RowKit Go.Proofs.YthfphdbebnkdpaaDoorW.aZ Go.Proofs.YthfphdbebnkdpaaDoorW.bL Go.Proofs.YthfphdbebnkdpaaDoorW.dC
attribute [local go_sem] dZ d9 fA fB dH dI ed ek
set_option linter.unusedVariables false
set_option linter.unusedSimpArgs false
def df.l0 : Nat → List Int → Int → List Int → Int → Int → Int → Option (List Int × Int × Int)
 | 0, _, _, _, _, _, _ => none
 | k + 1, x0, x1, x7, x8, x20, x21 => if x21 < x20 then (if 0 ≤ (wrap64 ((wrap64 ((x0.length : Int) - 1)) - x21)) then (if (wrap64 ((wrap64 ((x0.length : Int) - 1)) - x21)) < (x0.length : Int) then ((o7.f x8 (rd x0 (wrap64 ((wrap64 ((x0.length : Int) - 1)) - x21))) x1).bind fun eH => (if (wrap64 ((wrap64 ((x0.length : Int) - 1)) - x21)) < (x7.length : Int) then (df.l0 k x0 x1 (x7.set ((wrap64 ((wrap64 ((x0.length : Int) - 1)) - x21)) : Int).toNat eH.1) eH.2.1 x20 (wrap64 (x21 + 1))) else (none))) else (none)) else (none)) else ((dw.f k x7).bind fun dM => (some (dM.1, x8, 0)))
def df.f (k : Nat) (l0 : List Int) (a1 : Int) : Option (List Int × Int × Int) := if (Int.tmod a1 4294967296) = 0 then (some (([] : List Int), 0, 3)) else (if 0 ≤ (l0.length : Int) then (if ((l0.length : Int) : Int).toNat ≤ 35184372088832 then (df.l0 k l0 a1 (List.replicate ((l0.length : Int) : Int).toNat 0) 0 (l0.length : Int) 0) else (none)) else (none))
theorem df.mr : ∀ k, (∀ y0 y1 y2 y3 y4 y5, LeO (df.l0 k y0 y1 y2 y3 y4 y5) (df.l0 (k + 1) y0 y1 y2 y3 y4 y5))
 | 0 => fun _ _ _ _ _ _ r h => by simp [df.l0] at h
 | k + 1 => by
  have ih0 := df.mr k
  ·intro y0 y1 y2 y3 y4 y5
   unfold df.l0
   repeat' first
   | (with_reducible exact ih0 _ _ _ _ _ _)
   | (with_reducible exact dw.mono _ _)
   | (with_reducible exact LeO.refl _)
   | (with_reducible exact LeO.none _)
   | (with_reducible refine LeO.ite ?_ ?_)
   | (with_reducible refine LeO.bind ?_ (fun _ => ?_))
   | exact ih0 _ _ _ _ _ _
   | exact dw.mono _ _
   | exact LeO.none _
   | refine LeO.ite ?_ ?_
   | refine LeO.bind ?_ (fun _ => ?_)
theorem df.mono : ∀ a0 a1 k, LeO (df.f k a0 a1) (df.f (k + 1) a0 a1) := by
 intro a0 a1 k
 have ih0 := df.mr k
 unfold df.f
 repeat' first
   | (with_reducible exact ih0 _ _ _ _ _ _)
   | (with_reducible exact dw.mono _ _)
   | (with_reducible exact LeO.refl _)
   | (with_reducible exact LeO.none _)
   | (with_reducible refine LeO.ite ?_ ?_)
   | (with_reducible refine LeO.bind ?_ (fun _ => ?_))
   | exact ih0 _ _ _ _ _ _
   | exact dw.mono _ _
   | exact LeO.none _
   | refine LeO.ite ?_ ?_
   | refine LeO.bind ?_ (fun _ => ?_)
set_option maxHeartbeats 8000000 in
set_option maxRecDepth 100000 in
theorem df.calls (k : Nat) (A0 : Option Addr) (c0 : Nat) (l0 : List Int) (a1 : Int) (r1 : List Int) (r2 : Int) (r3 : Int) (w : World) (hr0 : Kd.C (Kd.int .u64) w A0 l0.length l0) (hc0 : l0.length ≤ c0) (h : df.f k l0 a1 = some (r1, r2, r3)) :
  Calls Tryd.prog 59 #[.slice A0 l0.length c0, .int .u64 a1] w fun e w' => ∃ v0_ : Value, e = .returned (.tuple #[v0_, .int .u64 r2, .int .i64 r3]) ∧ Kd.R (Kd.int .u64) 64 w' w.heap.size (fun _ => True) v0_ r1 ∧ Below w.heap.size w w' := by
 have HR0 := ae.mk hr0
 have HC0 := ae.mk hc0
 clear hr0 hc0
 have HB := ae.mk (Below.refl w.heap.size w)
 have H : (if (Int.tmod a1 4294967296) = 0 then (some (([] : List Int), 0, 3)) else (if 0 ≤ (l0.length : Int) then (if ((l0.length : Int) : Int).toNat ≤ 35184372088832 then (df.l0 k l0 a1 (List.replicate ((l0.length : Int) : Int).toNat 0) 0 (l0.length : Int) 0) else (none)) else (none))) = some (r1, r2, r3) := h
 clear h
 by_cases c3 : (Int.tmod a1 4294967296) = 0
 ·rw [if_pos c3] at H
  have nE : ((Int.tmod a1 4294967296) == 0) = true := beq_iff_eq.mpr c3
  have qD : ((Int.tmod a1 4294967296) != 0) = false := bne_eq_false_iff_eq.mpr c3
  clear c3
  simp only [Option.some.injEq, Prod.mk.injEq] at H
  obtain ⟨rfl, rfl, rfl⟩ := H
  go_enter Tryd.func59, Tryd.ntmps59
  go_wp2
  go_ret3
  exact ⟨_, by first | rfl | (simp [errW_none, errW_some] <;> rfl) | (simp [*, errW_none, errW_some] <;> rfl), by first | exact Kd.pu _ _ _ _ _ | exact Kd.N_nil _ _ _ _ _ | exact Kd.V_nil _ _ _ _ _ | exact Kd.Q_nil _ _ _ _ _ | exact Kd.S_nil _ _ _ _ _, by repeat (first | (with_reducible first | exact HB.out | apply aM | apply aD | apply aH) | exact HB.out)⟩
 ·rw [if_neg c3] at H
  have nE : ((Int.tmod a1 4294967296) == 0) = false := beq_eq_false_iff_ne.mpr c3
  have qD : ((Int.tmod a1 4294967296) != 0) = true := bne_iff_ne.mpr c3
  by_cases c4 : 0 ≤ (l0.length : Int)
  ·rw [if_pos c4] at H
   have ll := eq_true c4
   have pQ : decide (0 ≤ (l0.length : Int)) = true := decide_eq_true c4
   clear c4
   by_cases c5 : ((l0.length : Int) : Int).toNat ≤ 35184372088832
   ·rw [if_pos c5] at H
    have jW := eq_true c5
    have pR : decide (((l0.length : Int) : Int).toNat ≤ 35184372088832) = true := decide_eq_true c5
    clear c5
    obtain ⟨y101, hy101⟩ : ∃ y_ : List Int, y_ = (List.replicate ((l0.length : Int) : Int).toNat 0) := ⟨_, rfl⟩
    replace H : (df.l0 k l0 a1 y101 0 (l0.length : Int) 0) = some (r1, r2, r3) := by first | (rw [hy101]; with_reducible exact H) | (have H2_ := (Option.bind_some _ _).symm.trans H; rw [hy101]; with_reducible exact H2_) | (have H2_ := (Option.bind_some _ _).symm.trans H; with_reducible exact H2_) | with_reducible exact H | (rw [hy101]; exact H) | exact H
    have Ny101 := ae.mk hy101
    clear hy101
    have H' := ae.mk H
    clear H
    go_enter Tryd.func59, Tryd.ntmps59
    go_wp2_with (first | ((with_reducible refine bR (N := 18) rfl ?_); refine Kd.pM (Kd.int .u64) _ 64 rfl (N := 18) rfl 22 _ _ rfl (l0.length : Int) rfl rfl Tryd.underlying22 (.int .u64 0) 8 lX rfl (by decide) (by omega) 0 (ok := fun _ => True) (okp := fun _ => True) rfl (fun _ hk => hk) trivial (of_decide_eq_true qa) (Nat.le_trans (Nat.mul_le_mul_right _ (of_decide_eq_true qa : (l0.length : Int).toNat ≤ 35184372088832)) (by omega)) (Below.refl _ _) (Nat.le_refl _) ?_; intro v102 w6 ho7 hb hg_ hnew_; clear hg_ hnew_; (first | rw [← Ny101.out] at ho7 | (simp only [Int.reduceToNat] at ho7; rw [← Ny101.out] at ho7)); have nI := ae.mk (Kd.bz ho7 (aN (qw HB))); replace HB := ae.mk (av (qw HB) hb); clear hb ho7))
    go_loopg [8, 21] k (fun kq v8 v21 w' => ∃ (iK : List Int) (oz : Int) (qC : Int), v8 = .int .u64 oz ∧ v21 = .int .i64 qC ∧ ae (df.l0 kq l0 a1 iK oz (l0.length : Int) qC = some (r1, r2, r3)) ∧ ae (kq ≤ k) ∧ ae (Kd.R (Kd.int .u64) 64 w' w.heap.size (fun _ => True) v102 iK) ∧ ae (Below w.heap.size w w'))
    case atStart => exact ⟨(y101), (0), (0), (by first | rfl | (simp; done) | (simp [*]; done)), (by first | rfl | (simp; done) | (simp [*]; done)), H', ⟨Nat.le_refl _⟩, ⟨by (with_reducible repeat (first | apply Kd.bu | apply Kd.bv | apply Kd.bg)); exact nI.out⟩, ⟨by repeat (first | (with_reducible first | exact HB.out | apply aM | apply aD | apply aH) | exact HB.out)⟩⟩
    case round =>
     clear H'
     try clear p2
     try clear c3
     try clear nE
     try clear qD
     try clear c4
     try clear ll
     try clear pQ
     try clear c5
     try clear jW
     try clear pR
     obtain ⟨iK, oz, qC, rfl, rfl, HA, HK1, fJ, HB⟩ := hrel
     cases gk with
     | zero => exact absurd HA.out (by simp [df.l0])
     | succ k1 =>
      have H := HA.out
      clear HA
      simp only [df.l0] at H
      by_cases c8 : qC < (l0.length : Int)
      ·rw [if_pos c8] at H
       have oZ : decide (qC < (l0.length : Int)) = true := decide_eq_true c8
       clear c8
       obtain ⟨ji9, hji9⟩ : ∃ j_ : Int, (wrap64 ((wrap64 ((l0.length : Int) - 1)) - qC)) = j_ := ⟨_, rfl⟩
       replace H : (if 0 ≤ (ji9) then (if (ji9) < (l0.length : Int) then ((o7.f oz (rd l0 (ji9)) a1).bind fun eH => (if (ji9) < (iK.length : Int) then (df.l0 k1 l0 a1 (iK.set ((ji9) : Int).toNat eH.1) eH.2.1 (l0.length : Int) (wrap64 (qC + 1))) else (none))) else (none)) else (none)) = some (r1, r2, r3) := by first | (rw [hji9] at H; exact H) | (simp only [hji9] at H ⊢; exact H)
       have hji9w : (IntKind.i64.wrap ((wrap64 ((l0.length : Int) - 1)) - qC)) = ji9 := (gT _).trans hji9
       by_cases c10 : 0 ≤ (ji9)
       ·rw [if_pos c10] at H
        have qf : decide (0 ≤ (ji9)) = true := decide_eq_true c10
        clear c10
        by_cases c11 : (ji9) < (l0.length : Int)
        ·rw [if_pos c11] at H
         have qB : decide ((ji9) < (l0.length : Int)) = true := decide_eq_true c11
         clear c11
         replace H := Option.bind_eq_some_iff.mp H
         obtain ⟨⟨t105, bA, t107⟩, A120, H⟩ := H
         replace H : (if (ji9) < (iK.length : Int) then (df.l0 k1 l0 a1 (iK.set ((ji9) : Int).toNat t105) bA (l0.length : Int) (wrap64 (qC + 1))) else (none)) = some (r1, r2, r3) := H
         have A12 := ae.mk A120
         clear A120
         by_cases c13 : (ji9) < (iK.length : Int)
         ·rw [if_pos c13] at H
          have qg : decide ((ji9) < (iK.length : Int)) = true := decide_eq_true c13
          clear c13
          obtain ⟨y108, hy108⟩ : ∃ y_ : List Int, y_ = (iK.set ((ji9) : Int).toNat t105) := ⟨_, rfl⟩
          replace H : (df.l0 k1 l0 a1 y108 bA (l0.length : Int) (wrap64 (qC + 1))) = some (r1, r2, r3) := by first | (rw [hy108]; with_reducible exact H) | (have H2_ := (Option.bind_some _ _).symm.trans H; rw [hy108]; with_reducible exact H2_) | (have H2_ := (Option.bind_some _ _).symm.trans H; with_reducible exact H2_) | with_reducible exact H | (rw [hy108]; exact H) | exact H
          have Ny108 := ae.mk hy108
          clear hy108
          have H' := ae.mk H
          clear H
          have p104 : 0 ≤ ((ji9) : Int) := of_decide_eq_true qa
          have q104 : (ji9) < (l0.length : Int) := of_decide_eq_true qa
          obtain ⟨ad104, e104, hx104_0⟩ := Kd.gH HR0.out (ji9) p104 q104
          cases e104
          replace hx104_0 := (HB.out.cell (World.block_lt_of_cell? w _ hx104_0)).trans hx104_0
          replace p104 := eq_true p104
          replace q104 := eq_true q104
          go_wp2_with (first | ((with_reducible refine aW (f := 86) rfl ?_); refine cO (some 38) rfl rfl Tryd.func86 (by kernel_rfl) rfl #[.int .u64 oz, .int .u64 (rd l0 (ji9)), .int .u64 a1] rfl (by (try simp only [List.map_toArray, List.map_cons, List.map_nil]); first | done | (simp only [hji9]; rfl) | rfl | (simp only [List.length_drop, List.length_take]; rfl)) ?_; (with_reducible refine (o7.calls oz (rd l0 (ji9)) a1 t105 bA t107 _ A12.out).mono ?_); rintro e w' ⟨rfl, ⟨nd, rfl⟩⟩; refine ⟨_, rfl, ?_⟩; (try (rw [kD wr]; generalize hq_ : World.drewN wr _ = wr; replace fJ : ae (Kd.R (Kd.int .u64) 64 wr w.heap.size (fun _ => True) v102 iK) := ⟨by rw [← hq_]; exact (qr fJ)⟩; replace HB : ae (Below w.heap.size w wr) := ⟨by rw [← hq_]; exact (qw HB)⟩; clear hq_)); have p14 : 0 ≤ ((ji9) : Int) := of_decide_eq_true qa; have q14 : ((ji9) : Int) < ((iK.length : Int) : Int) := of_decide_eq_true qa; obtain ⟨go14, Jn, FX, FY, gl14, cl14, HG14⟩ := Kd.nP fJ.out (by omega); (first | cases FX | (injection FX with ea_ en_ ec_; (first | subst ea_ | (injection ea_ with ea_; subst ea_)); subst ec_; clear en_)); have Jo := ae.mk FY; have GG14 := ae.mk HG14; clear FY gl14 HG14; obtain ⟨hx14_0, hf14_0⟩ := Kd.jk 0 fJ.out ((ji9) : Int) p14 q14; replace p14 := eq_true p14; replace q14 := eq_true q14; obtain ⟨hy15_, hz15_⟩ := Kd.jk 0 fJ.out ((ji9) : Int) (of_decide_eq_true qa) (of_decide_eq_true qa); have HP15 := Kd.oq fJ.out ((ji9) : Int) t105) | ((with_reducible refine jL (t := 64) (p := 42) rfl ?_); refine jq (t := 64) (p := 42) (v := ?vo_w16) (w1 := (wr.setCell ⟨go14, ((ji9) : Int).toNat, none⟩ (.int .u64 t105))) ?hg ?ho ?hn ?hr ?_; (case ho => rfl); (case hg => rfl); (case hn => rfl); (case hr => first | (go_simp; done) | (go_simp; rfl)); intro w16 hw; have hg : wr.grownBy w16 (some go14) := (by rw [hw]; exact HP15.2); have hp_ : Kd.R (Kd.int .u64) 64 w16 w.heap.size (fun _ => True) (.slice (some ⟨go14, 0, none⟩) iK.length Jn) y108 := (by rw [hw, Ny108.out]; exact HP15.1); clear HP15; replace fJ := ae.mk (hp_); replace HB := ae.mk ((by rw [hw]; exact aQ (HB.out) Jo.out : Below w.heap.size w w16)); clear hg hw hp_))
          go_roundg k1
          case measure => have := HK1.out; omega
          case rel => exact ⟨(y108), (bA), (wrap64 (qC + 1)), (by first | rfl | (simp; done) | (simp [*]; done)), (by first | rfl | (simp; done) | (simp [*]; done)), H', ⟨by have := HK1.out; omega⟩, ⟨by (with_reducible repeat (first | apply Kd.bu | apply Kd.bv | apply Kd.bg)); exact fJ.out⟩, ⟨by repeat (first | (with_reducible first | exact HB.out | apply aM | apply aD | apply aH) | exact HB.out)⟩⟩
         ·rw [if_neg c13] at H
          exact absurd H (by simp)
        ·rw [if_neg c11] at H
         exact absurd H (by simp)
       ·rw [if_neg c10] at H
        exact absurd H (by simp)
      ·rw [if_neg c8] at H
       have oZ : decide (qC < (l0.length : Int)) = false := decide_eq_false c8
       clear c8
       replace H := Option.bind_eq_some_iff.mp H
       obtain ⟨⟨t109, bi⟩, A170, H⟩ := H
       replace H : (some (t109, oz, 0)) = some (r1, r2, r3) := H
       have A17 := ae.mk A170
       clear A170
       simp only [Option.some.injEq, Prod.mk.injEq] at H
       obtain ⟨rfl, rfl, rfl⟩ := H
       obtain ⟨Jp, FP, Co⟩ := Kd.bD fJ.out
       subst Co
       go_wp2_with (first | ((with_reducible refine aW (f := 36) rfl ?_); refine cO (some 46) rfl rfl Tryd.func36 (by kernel_rfl) rfl #[.slice Jp iK.length FP] rfl qt ?_; (with_reducible refine (dw.calls k1 _ _ iK t109 bi _ ?aU ?aV A17.out).mono ?_); (case aU => exact qs ((Kd.ak fJ.out).2.2)); (case aV => exact (Kd.ak fJ.out).2.1); rintro e w19 ⟨v111, rfl, ho0, hb⟩; refine ⟨_, rfl, ?_⟩; have dQ := ae.mk (Kd.bz (Kd.aA ho0 (Kd.aY (qr fJ))) (aN (qw HB))); replace fJ := ae.mk (Kd.aj (qr fJ) (Kd.az ho0) hb); replace HB := ae.mk (av (qw HB) hb); (try clear hb); (try clear hb2); (try clear hk); (try clear hi); (try clear ho0)))
       go_ret3
       exact ⟨_, by first | rfl | (simp [errW_none, errW_some] <;> rfl) | (simp [*, errW_none, errW_some] <;> rfl), by (with_reducible repeat (first | apply Kd.bu | apply Kd.bv | apply Kd.bg)); exact Kd.bG dQ.out (fun _ hk => trivial), by repeat (first | (with_reducible first | exact HB.out | apply aM | apply aD | apply aH) | exact HB.out)⟩
   ·rw [if_neg c5] at H
    exact absurd H (by simp)
  ·rw [if_neg c4] at H
   exact absurd H (by simp)
end Go.Proofs.YthfphdbebnkdpaaDoor.P
end
section
namespace Go.Proofs.YthfphdbebnkdpaaDoor.P
open Go.RowKit Go.Proofs.YthfphdbebnkdpaaDoorW.aZ Go.Proofs.YthfphdbebnkdpaaDoorW.bL Go.Proofs.YthfphdbebnkdpaaDoorW.dC
attribute [local go_sem] dZ d9 fA fB dH dI ed ek
set_option linter.unusedVariables false
set_option linter.unusedSimpArgs false
def lV.f (a0 : Int) : Option (Int) := if a0 < 0 then (some 2) else (if a0 > 100000 then (some 2) else (some 0))
set_option maxHeartbeats 8000000 in
set_option maxRecDepth 100000 in
theorem lV.calls (a0 : Int) (r : Int) (w : World) (h : lV.f a0 = some r) :
  Calls Tryd.prog 120 #[.int .i64 a0] w fun e w' => e = .returned (.int .i64 r) ∧ bZ w w' := by
 have H : (if a0 < 0 then (some 2) else (if a0 > 100000 then (some 2) else (some 0))) = some r := h
 clear h
 by_cases c2 : a0 < 0
 ·rw [if_pos c2] at H
  have qM : decide (a0 < 0) = true := decide_eq_true c2
  clear c2
  obtain rfl := Option.some.inj H
  go_enter Tryd.func120, Tryd.ntmps120
  go_wp2
  go_ret
  exact ⟨by first | rfl | (simp; done) | (simp [*]; done), by repeat (first | exact bZ.refl _ | apply bZ.step)⟩
 ·rw [if_neg c2] at H
  have qM : decide (a0 < 0) = false := decide_eq_false c2
  clear c2
  by_cases c3 : a0 > 100000
  ·rw [if_pos c3] at H
   have nE : decide (100000 < a0) = true := decide_eq_true c3
   clear c3
   obtain rfl := Option.some.inj H
   go_enter Tryd.func120, Tryd.ntmps120
   go_wp2
   go_ret
   exact ⟨by first | rfl | (simp; done) | (simp [*]; done), by repeat (first | exact bZ.refl _ | apply bZ.step)⟩
  ·rw [if_neg c3] at H
   have nE : decide (100000 < a0) = false := decide_eq_false c3
   clear c3
   obtain rfl := Option.some.inj H
   go_enter Tryd.func120, Tryd.ntmps120
   go_wp2
   go_ret
   exact ⟨by first | rfl | (simp; done) | (simp [*]; done), by repeat (first | exact bZ.refl _ | apply bZ.step)⟩
end Go.Proofs.YthfphdbebnkdpaaDoor.P
end
section
namespace Go.Proofs.YthfphdbebnkdpaaDoor.P
open Go.RowKit Go.Proofs.YthfphdbebnkdpaaDoorW.aZ Go.Proofs.YthfphdbebnkdpaaDoorW.bL Go.Proofs.YthfphdbebnkdpaaDoorW.dC
attribute [local go_sem] dZ d9 fA fB dH dI ed ek
set_option linter.unusedVariables false
set_option linter.unusedSimpArgs false
mutual
def fu.j0 : Nat → List Int → Int → Int → Bool → Option (List Int × Int)
 | 0, _, _, _, _ => none
 | k + 1, x0, x1, x6, x19 => if x19 = true then (some (([] : List Int), x6)) else (if 0 ≤ (wrap64 ((wrap64 ((x0.length : Int) + (wrap64 (Int.tdiv x1 32)))) + 1)) then (if (wrap64 ((wrap64 ((x0.length : Int) + (wrap64 (Int.tdiv x1 32)))) + 1) : Int).toNat ≤ 35184372088832 then (fu.l0 k x1 (List.replicate (wrap64 ((wrap64 ((x0.length : Int) + (wrap64 (Int.tdiv x1 32)))) + 1) : Int).toNat 0) x0 (x0.length : Int) 0) else (none)) else (none))
def fu.l0 : Nat → Int → List Int → List Int → Int → Int → Option (List Int × Int)
 | 0, _, _, _, _, _ => none
 | k + 1, x1, x7, x28, x29, x30 => if x30 < x29 then (if 0 ≤ x30 then (if x30 < (x28.length : Int) then (if 0 ≤ (Int.tmod x1 32) then (if 0 ≤ (wrap64 (x30 + (wrap64 (Int.tdiv x1 32)))) then (if (wrap64 (x30 + (wrap64 (Int.tdiv x1 32)))) < (x7.length : Int) then (if 0 ≤ (wrap64 ((wrap64 (x30 + (wrap64 (Int.tdiv x1 32)))) + 1)) then (if (wrap64 ((wrap64 (x30 + (wrap64 (Int.tdiv x1 32)))) + 1)) < (x7.length : Int) then (fu.l0 k x1 ((x7.set ((wrap64 (x30 + (wrap64 (Int.tdiv x1 32)))) : Int).toNat (Go.bits .or .u64 (rd x7 (wrap64 (x30 + (wrap64 (Int.tdiv x1 32))))) (Int.tmod (shl .u64 (rd x28 x30) (Int.tmod x1 32)) 4294967296))).set ((wrap64 ((wrap64 (x30 + (wrap64 (Int.tdiv x1 32)))) + 1)) : Int).toNat ((shl .u64 (rd x28 x30) (Int.tmod x1 32)) / 4294967296)) x28 x29 (wrap64 (x30 + 1))) else (none)) else (none)) else (none)) else (none)) else (none)) else (none)) else (none)) else ((eu.f k x7).bind fun t109 => (some (t109, 0)))
end
def fu.f (k : Nat) (l0 : List Int) (a1 : Int) : Option (List Int × Int) := (lV.f a1).bind fun fM => (if fM = 0 then (fu.j0 k l0 a1 fM ((l0.length : Int) == 0)) else (fu.j0 k l0 a1 fM true))
set_option maxHeartbeats 8000000 in
set_option maxRecDepth 100000 in
theorem fu.calls (k : Nat) (A0 : Option Addr) (c0 : Nat) (l0 : List Int) (a1 : Int) (r1 : List Int) (r2 : Int) (w : World) (hr0 : Kd.C (Kd.int .u64) w A0 l0.length l0) (hc0 : l0.length ≤ c0) (h : fu.f k l0 a1 = some (r1, r2)) :
  Calls Tryd.prog 88 #[.slice A0 l0.length c0, .int .i64 a1] w fun e w' => ∃ v0_ : Value, e = .returned (.tuple #[v0_, .int .i64 r2]) ∧ Kd.R (Kd.int .u64) 64 w' w.heap.size (fun _ => True) v0_ r1 ∧ Below w.heap.size w w' := by
 have HR0 := ae.mk hr0
 have HC0 := ae.mk hc0
 clear hr0 hc0
 have HB := ae.mk (Below.refl w.heap.size w)
 have H : ((lV.f a1).bind fun fM => (if fM = 0 then (fu.j0 k l0 a1 fM ((l0.length : Int) == 0)) else (fu.j0 k l0 a1 fM true))) = some (r1, r2) := h
 clear h
 replace H := Option.bind_eq_some_iff.mp H
 obtain ⟨fM, A30, H⟩ := H
 replace H : (if fM = 0 then (fu.j0 k l0 a1 fM ((l0.length : Int) == 0)) else (fu.j0 k l0 a1 fM true)) = some (r1, r2) := H
 have A3 := ae.mk A30
 clear A30
 have HC4 := ae.mk H
 clear H
 go_enter Tryd.func88, Tryd.ntmps88
 go_upto_region 2 with (first | ((with_reducible refine aW (f := 120) rfl ?_); refine cO (some 12) rfl rfl Tryd.func120 (by kernel_rfl) rfl #[.int .i64 a1] rfl qt ?_; (with_reducible refine (lV.calls a1 fM _ A3.out).mono ?_); rintro e w' ⟨rfl, ⟨nd, rfl⟩⟩; refine ⟨_, rfl, ?_⟩))
 (try simp only [Act.put, List.setIfInBounds_toArray, List.set_cons_zero, List.set_cons_succ])
 go_cut [19] (fun v19 wc => ∃ (kq : Nat) (zf : Bool), v19 = .bool zf ∧ ae (fu.j0 kq l0 a1 fM zf = some (r1, r2)) ∧ ae (kq ≤ k) ∧ ae (Below w.heap.size w wc))
 case first =>
  have H := HC4.out
  clear HC4
  by_cases c5 : fM = 0
  ·rw [if_pos c5] at H
   have jW : (fM == 0) = true := beq_iff_eq.mpr c5
   have pR : (fM != 0) = false := bne_eq_false_iff_eq.mpr c5
   clear c5
   (first | rw [jW] | (simp only [gT, oW]; rw [jW]) | skip)
   have H' := ae.mk H
   clear H
   go_wp2
   go_meet
   case rel => exact ⟨_, (((l0.length : Int) == 0)), (by first | rfl | (simp; done) | (simp [*]; done)), H', ⟨by first | omega | exact Nat.le_refl _⟩, ⟨by repeat (first | (with_reducible first | exact HB.out | apply aM | apply aD | apply aH) | exact HB.out)⟩⟩
  ·rw [if_neg c5] at H
   have jW : (fM == 0) = false := beq_eq_false_iff_ne.mpr c5
   have pR : (fM != 0) = true := bne_iff_ne.mpr c5
   (first | rw [jW] | (simp only [gT, oW]; rw [jW]) | skip)
   have H' := ae.mk H
   clear H
   go_wp2
   go_meet
   case rel => exact ⟨_, (true), (by first | rfl | (simp; done) | (simp [*]; done)), H', ⟨by first | omega | exact Nat.le_refl _⟩, ⟨by repeat (first | (with_reducible first | exact HB.out | apply aM | apply aD | apply aH) | exact HB.out)⟩⟩
 case rest =>
  clear HC4
  try clear c1
  try clear p2
  try clear c5
  try clear jW
  try clear pR
  obtain ⟨kq, zf, rfl, HA, HJ3, HB⟩ := hcut
  cases kq with
  | zero => exact absurd HA.out (by simp [fu.j0])
  | succ kj3 =>
   have H := HA.out
   clear HA
   simp only [fu.j0] at H
   by_cases c6 : zf = true
   ·subst c6
    have H1 : (some (([] : List Int), fM)) = some (r1, r2) := by rw [if_pos rfl] at H; exact H
    clear H
    have H := H1
    clear H1
    simp only [Option.some.injEq, Prod.mk.injEq] at H
    obtain ⟨rfl, rfl⟩ := H
    go_wp2
    go_ret2
    exact ⟨_, by first | rfl | (simp [errW_none, errW_some] <;> rfl) | (simp [*, errW_none, errW_some] <;> rfl), by first | exact Kd.pu _ _ _ _ _ | exact Kd.N_nil _ _ _ _ _ | exact Kd.V_nil _ _ _ _ _ | exact Kd.Q_nil _ _ _ _ _ | exact Kd.S_nil _ _ _ _ _, by repeat (first | (with_reducible first | exact HB.out | apply aM | apply aD | apply aH) | exact HB.out)⟩
   ·replace c6 := Bool.eq_false_iff.mpr c6
    subst c6
    have H1 : (if 0 ≤ (wrap64 ((wrap64 ((l0.length : Int) + (wrap64 (Int.tdiv a1 32)))) + 1)) then (if (wrap64 ((wrap64 ((l0.length : Int) + (wrap64 (Int.tdiv a1 32)))) + 1) : Int).toNat ≤ 35184372088832 then (fu.l0 kj3 a1 (List.replicate (wrap64 ((wrap64 ((l0.length : Int) + (wrap64 (Int.tdiv a1 32)))) + 1) : Int).toNat 0) l0 (l0.length : Int) 0) else (none)) else (none)) = some (r1, r2) := by rw [if_neg (show ¬ (false = true) by decide)] at H; exact H
    clear H
    have H := H1
    clear H1
    obtain ⟨ji7, hji7⟩ : ∃ j_ : Int, (wrap64 ((wrap64 ((l0.length : Int) + (wrap64 (Int.tdiv a1 32)))) + 1)) = j_ := ⟨_, rfl⟩
    replace H : (if 0 ≤ (ji7) then (if (ji7 : Int).toNat ≤ 35184372088832 then (fu.l0 kj3 a1 (List.replicate (ji7 : Int).toNat 0) l0 (l0.length : Int) 0) else (none)) else (none)) = some (r1, r2) := by first | (rw [hji7] at H; exact H) | (simp only [hji7] at H ⊢; exact H)
    have hji7w : (IntKind.i64.wrap ((wrap64 ((l0.length : Int) + (wrap64 (Int.tdiv a1 32)))) + 1)) = ji7 := (gT _).trans hji7
    by_cases c8 : 0 ≤ (ji7)
    ·rw [if_pos c8] at H
     have oZ := eq_true c8
     have zM : decide (0 ≤ (ji7)) = true := decide_eq_true c8
     clear c8
     by_cases c9 : (ji7 : Int).toNat ≤ 35184372088832
     ·rw [if_pos c9] at H
      have qc := eq_true c9
      have yh : decide ((ji7 : Int).toNat ≤ 35184372088832) = true := decide_eq_true c9
      clear c9
      obtain ⟨y102, hy102⟩ : ∃ y_ : List Int, y_ = (List.replicate (ji7 : Int).toNat 0) := ⟨_, rfl⟩
      replace H : (fu.l0 kj3 a1 y102 l0 (l0.length : Int) 0) = some (r1, r2) := by first | (rw [hy102]; with_reducible exact H) | (have H2_ := (Option.bind_some _ _).symm.trans H; rw [hy102]; with_reducible exact H2_) | (have H2_ := (Option.bind_some _ _).symm.trans H; with_reducible exact H2_) | with_reducible exact H | (rw [hy102]; exact H) | exact H
      have Ny102 := ae.mk hy102
      clear hy102
      have H' := ae.mk H
      clear H
      go_wp2_with (first | ((with_reducible refine bR (N := 27) rfl ?_); (try (refine iw (by rfl) ?_; dsimp only)); refine Kd.pM (Kd.int .u64) _ 64 rfl (N := 27) rfl 23 _ _ rfl ji7 rfl rfl Tryd.underlying23 (.int .u64 0) 8 lX rfl (by decide) (by omega) 0 (ok := fun _ => True) (okp := fun _ => True) rfl (fun _ hk => hk) trivial (of_decide_eq_true qa) (Nat.le_trans (Nat.mul_le_mul_right _ (of_decide_eq_true qa : ji7.toNat ≤ 35184372088832)) (by omega)) (Below.refl _ _) (Nat.le_refl _) ?_; intro v103 w10 uS hb hg_ hnew_; clear hg_ hnew_; (first | rw [← Ny102.out] at uS | (simp only [Int.reduceToNat] at uS; rw [← Ny102.out] at uS)); have fG := ae.mk (Kd.bz uS (aN (qw HB))); replace HB := ae.mk (av (qw HB) hb); clear hb uS))
      go_loopg [30] kj3 (fun kq v30 w' => ∃ (jE : List Int) (fT : Int), v30 = .int .i64 fT ∧ ae (fu.l0 kq a1 jE l0 (l0.length : Int) fT = some (r1, r2)) ∧ ae (kq ≤ kj3) ∧ ae (Kd.R (Kd.int .u64) 64 w' w.heap.size (fun _ => True) v103 jE) ∧ ae (Below w.heap.size w w'))
      case atStart => exact ⟨(y102), (0), (by first | rfl | (simp; done) | (simp [*]; done)), H', ⟨Nat.le_refl _⟩, ⟨by (with_reducible repeat (first | apply Kd.bu | apply Kd.bv | apply Kd.bg)); exact fG.out⟩, ⟨by repeat (first | (with_reducible first | exact HB.out | apply aM | apply aD | apply aH) | exact HB.out)⟩⟩
      case round =>
       clear H'
       try clear c1
       try clear p2
       try clear c5
       try clear jW
       try clear pR
       try clear c6
       try clear p6
       try clear c8
       try clear oZ
       try clear zM
       try clear c9
       try clear qc
       try clear yh
       try clear p2
       obtain ⟨jE, fT, rfl, HA, HK2, fJ, HB⟩ := hrel
       cases gk with
       | zero => exact absurd HA.out (by simp [fu.l0])
       | succ k2 =>
        have H := HA.out
        clear HA
        simp only [fu.l0] at H
        by_cases c12 : fT < (l0.length : Int)
        ·rw [if_pos c12] at H
         have su : decide (fT < (l0.length : Int)) = true := decide_eq_true c12
         clear c12
         by_cases c13 : 0 ≤ fT
         ·rw [if_pos c13] at H
          have qg : decide (0 ≤ fT) = true := decide_eq_true c13
          clear c13
          by_cases c14 : fT < (l0.length : Int)
          ·rw [if_pos c14] at H
           have xk : decide (fT < (l0.length : Int)) = true := decide_eq_true c14
           clear c14
           obtain ⟨ji15, hji15⟩ : ∃ j_ : Int, (Int.tmod a1 32) = j_ := ⟨_, rfl⟩
           (try (have hji15r := hji15; simp only [hji7] at hji15r))
           (try (have hji15wr := (gT _).trans hji15r))
           replace H : (if 0 ≤ (ji15) then (if 0 ≤ (wrap64 (fT + (wrap64 (Int.tdiv a1 32)))) then (if (wrap64 (fT + (wrap64 (Int.tdiv a1 32)))) < (jE.length : Int) then (if 0 ≤ (wrap64 ((wrap64 (fT + (wrap64 (Int.tdiv a1 32)))) + 1)) then (if (wrap64 ((wrap64 (fT + (wrap64 (Int.tdiv a1 32)))) + 1)) < (jE.length : Int) then (fu.l0 k2 a1 ((jE.set ((wrap64 (fT + (wrap64 (Int.tdiv a1 32)))) : Int).toNat (Go.bits .or .u64 (rd jE (wrap64 (fT + (wrap64 (Int.tdiv a1 32))))) (Int.tmod (shl .u64 (rd l0 fT) (ji15)) 4294967296))).set ((wrap64 ((wrap64 (fT + (wrap64 (Int.tdiv a1 32)))) + 1)) : Int).toNat ((shl .u64 (rd l0 fT) (ji15)) / 4294967296)) l0 (l0.length : Int) (wrap64 (fT + 1))) else (none)) else (none)) else (none)) else (none)) else (none)) = some (r1, r2) := by first | (rw [hji15] at H; exact H) | (simp only [hji15] at H ⊢; exact H)
           by_cases c16 : 0 ≤ (ji15)
           ·rw [if_pos c16] at H
            have xn := eq_true c16
            have FZ : decide (0 ≤ (ji15)) = true := decide_eq_true c16
            clear c16
            obtain ⟨ji17, hji17⟩ : ∃ j_ : Int, (shl .u64 (rd l0 fT) (ji15)) = j_ := ⟨_, rfl⟩
            (try (have hji17r := hji17; simp only [hji7, hji15] at hji17r))
            (try (have hji17wr := (gT _).trans hji17r))
            replace H : (if 0 ≤ (wrap64 (fT + (wrap64 (Int.tdiv a1 32)))) then (if (wrap64 (fT + (wrap64 (Int.tdiv a1 32)))) < (jE.length : Int) then (if 0 ≤ (wrap64 ((wrap64 (fT + (wrap64 (Int.tdiv a1 32)))) + 1)) then (if (wrap64 ((wrap64 (fT + (wrap64 (Int.tdiv a1 32)))) + 1)) < (jE.length : Int) then (fu.l0 k2 a1 ((jE.set ((wrap64 (fT + (wrap64 (Int.tdiv a1 32)))) : Int).toNat (Go.bits .or .u64 (rd jE (wrap64 (fT + (wrap64 (Int.tdiv a1 32))))) (Int.tmod (ji17) 4294967296))).set ((wrap64 ((wrap64 (fT + (wrap64 (Int.tdiv a1 32)))) + 1)) : Int).toNat ((ji17) / 4294967296)) l0 (l0.length : Int) (wrap64 (fT + 1))) else (none)) else (none)) else (none)) else (none)) = some (r1, r2) := by first | (rw [hji17] at H; exact H) | (simp only [hji17] at H ⊢; exact H)
            have hji17_ : (IntKind.u64.wrap ((rd l0 fT) * 2 ^ min (ji15).toNat 64)) = ji17 := hji17
            have hji17z : (ji15) ≤ 64 → (IntKind.u64.wrap ((rd l0 fT) * 2 ^ (ji15).toNat)) = ji17 := zI hji17
            obtain ⟨ji18, hji18⟩ : ∃ j_ : Int, (wrap64 (fT + (wrap64 (Int.tdiv a1 32)))) = j_ := ⟨_, rfl⟩
            (try (have hji18r := hji18; simp only [hji7, hji15, hji17] at hji18r))
            (try (have hji18wr := (gT _).trans hji18r))
            replace H : (if 0 ≤ (ji18) then (if (ji18) < (jE.length : Int) then (if 0 ≤ (wrap64 ((ji18) + 1)) then (if (wrap64 ((ji18) + 1)) < (jE.length : Int) then (fu.l0 k2 a1 ((jE.set ((ji18) : Int).toNat (Go.bits .or .u64 (rd jE (ji18)) (Int.tmod (ji17) 4294967296))).set ((wrap64 ((ji18) + 1)) : Int).toNat ((ji17) / 4294967296)) l0 (l0.length : Int) (wrap64 (fT + 1))) else (none)) else (none)) else (none)) else (none)) = some (r1, r2) := by first | (rw [hji18] at H; exact H) | (simp only [hji18] at H ⊢; exact H)
            have hji18w : (IntKind.i64.wrap (fT + (wrap64 (Int.tdiv a1 32)))) = ji18 := (gT _).trans hji18
            by_cases c19 : 0 ≤ (ji18)
            ·rw [if_pos c19] at H
             have Dk : decide (0 ≤ (ji18)) = true := decide_eq_true c19
             clear c19
             by_cases c20 : (ji18) < (jE.length : Int)
             ·rw [if_pos c20] at H
              have Dn : decide ((ji18) < (jE.length : Int)) = true := decide_eq_true c20
              clear c20
              obtain ⟨y107, hy107⟩ : ∃ y_ : List Int, y_ = (jE.set ((ji18) : Int).toNat (Go.bits .or .u64 (rd jE (ji18)) (Int.tmod (ji17) 4294967296))) := ⟨_, rfl⟩
              replace H : (if 0 ≤ (wrap64 ((ji18) + 1)) then (if (wrap64 ((ji18) + 1)) < (jE.length : Int) then (fu.l0 k2 a1 (y107.set ((wrap64 ((ji18) + 1)) : Int).toNat ((ji17) / 4294967296)) l0 (l0.length : Int) (wrap64 (fT + 1))) else (none)) else (none)) = some (r1, r2) := by first | (rw [hy107]; with_reducible exact H) | (have H2_ := (Option.bind_some _ _).symm.trans H; rw [hy107]; with_reducible exact H2_) | (have H2_ := (Option.bind_some _ _).symm.trans H; with_reducible exact H2_) | with_reducible exact H | (rw [hy107]; exact H) | exact H
              have Ny107 := ae.mk hy107
              clear hy107
              obtain ⟨ji22, hji22⟩ : ∃ j_ : Int, (wrap64 ((ji18) + 1)) = j_ := ⟨_, rfl⟩
              (try (have hji22r := hji22; simp only [hji7, hji15, hji17, hji18] at hji22r))
              (try (have hji22wr := (gT _).trans hji22r))
              replace H : (if 0 ≤ (ji22) then (if (ji22) < (jE.length : Int) then (fu.l0 k2 a1 (y107.set ((ji22) : Int).toNat ((ji17) / 4294967296)) l0 (l0.length : Int) (wrap64 (fT + 1))) else (none)) else (none)) = some (r1, r2) := by first | (rw [hji22] at H; exact H) | (simp only [hji22] at H ⊢; exact H)
              have hji22w : (IntKind.i64.wrap ((ji18) + 1)) = ji22 := (gT _).trans hji22
              by_cases c23 : 0 ≤ (ji22)
              ·rw [if_pos c23] at H
               have FR : decide (0 ≤ (ji22)) = true := decide_eq_true c23
               clear c23
               by_cases c24 : (ji22) < (jE.length : Int)
               ·rw [if_pos c24] at H
                have Dl : decide ((ji22) < (jE.length : Int)) = true := decide_eq_true c24
                clear c24
                obtain ⟨y108, hy108⟩ : ∃ y_ : List Int, y_ = (y107.set ((ji22) : Int).toNat ((ji17) / 4294967296)) := ⟨_, rfl⟩
                replace H : (fu.l0 k2 a1 y108 l0 (l0.length : Int) (wrap64 (fT + 1))) = some (r1, r2) := by first | (rw [hy108]; with_reducible exact H) | (have H2_ := (Option.bind_some _ _).symm.trans H; rw [hy108]; with_reducible exact H2_) | (have H2_ := (Option.bind_some _ _).symm.trans H; with_reducible exact H2_) | with_reducible exact H | (rw [hy108]; exact H) | exact H
                have Ny108 := ae.mk hy108
                clear hy108
                have H' := ae.mk H
                clear H
                have p105 : 0 ≤ (fT : Int) := of_decide_eq_true qa
                have q105 : fT < (l0.length : Int) := of_decide_eq_true qa
                obtain ⟨ad105, e105, hx105_0⟩ := Kd.gH HR0.out fT p105 q105
                cases e105
                replace hx105_0 := (HB.out.cell (World.block_lt_of_cell? w _ hx105_0)).trans hx105_0
                replace p105 := eq_true p105
                replace q105 := eq_true q105
                obtain ⟨rF, qF, yn⟩ := Kd.bD fJ.out
                subst yn
                have p106 : 0 ≤ ((ji18) : Int) := of_decide_eq_true qa
                have q106 : (ji18) < (jE.length : Int) := of_decide_eq_true qa
                obtain ⟨ad106, e106, hx106_0⟩ := Kd.gH (Kd.ak fJ.out).2.2 (ji18) p106 q106
                cases e106
                replace p106 := eq_true p106
                replace q106 := eq_true q106
                have p21 : 0 ≤ ((ji18) : Int) := of_decide_eq_true qa
                have q21 : ((ji18) : Int) < ((jE.length : Int) : Int) := of_decide_eq_true qa
                obtain ⟨go21, AX, zS, F3, gl21, cl21, HG21⟩ := Kd.nP fJ.out (by omega)
                (first | cases zS | (injection zS with ea_ en_ ec_; (first | subst ea_ | (injection ea_ with ea_; subst ea_)); subst ec_; clear en_))
                have F4 := ae.mk F3
                have GG21 := ae.mk HG21
                clear F3 gl21 HG21
                (first | simp only [add_plain] at hx106_0 | skip)
                obtain ⟨hx21_0, hf21_0⟩ := Kd.jk 0 fJ.out ((ji18) : Int) p21 q21
                replace p21 := eq_true p21
                replace q21 := eq_true q21
                have HP27 := Kd.oq fJ.out ((ji18) : Int) (Go.bits .or .u64 (rd jE (ji18)) (Int.tmod (ji17) 4294967296))
                go_wp2_with (first | ((with_reducible refine jL (t := 64) (p := 50) rfl ?_); refine jq (t := 64) (p := 50) (v := ?vo_w28) (w1 := (wr.setCell ⟨go21, ((ji18) : Int).toNat, none⟩ (.int .u64 (Go.bits .or .u64 (rd jE (ji18)) (Int.tmod (ji17) 4294967296))))) ?hg ?ho ?hn ?hr ?_; (case ho => rfl); (case hg => rfl); (case hn => rfl); (case hr => first | (go_simp; done) | (go_simp; rfl)); intro w28 hw; have hg : wr.grownBy w28 (some go21) := (by rw [hw]; exact HP27.2); have hp_ : Kd.R (Kd.int .u64) 64 w28 w.heap.size (fun _ => True) (.slice (some ⟨go21, 0, none⟩) jE.length qF) y107 := (by rw [hw, Ny107.out]; exact HP27.1); clear HP27; replace fJ := ae.mk (hp_); replace HB := ae.mk ((by rw [hw]; exact aQ (HB.out) F4.out : Below w.heap.size w w28)); clear hg hw hp_; have p25 : 0 ≤ ((ji22) : Int) := of_decide_eq_true qa; have q25 : ((ji22) : Int) < ((jE.length : Int) : Int) := of_decide_eq_true qa; obtain ⟨hx25_0, hf25_0⟩ := Kd.jk 0 fJ.out ((ji22) : Int) p25 q25; replace p25 := eq_true p25; replace q25 := eq_true q25; obtain ⟨hy29_, hz29_⟩ := Kd.jk 0 fJ.out ((ji22) : Int) (of_decide_eq_true qa) (of_decide_eq_true qa); have HP29 := Kd.oq fJ.out ((ji22) : Int) ((ji17) / 4294967296)) | ((with_reducible refine jL (t := 64) (p := 56) rfl ?_); refine jq (t := 64) (p := 56) (v := ?vo_w30) (w1 := (w28.setCell ⟨go21, ((ji22) : Int).toNat, none⟩ (.int .u64 ((ji17) / 4294967296)))) ?hg ?ho ?hn ?hr ?_; (case ho => rfl); (case hg => rfl); (case hn => rfl); (case hr => first | (go_simp; done) | (go_simp; rfl)); intro w30 hw; have hg : w28.grownBy w30 (some go21) := (by rw [hw]; exact HP29.2); have hp_ : Kd.R (Kd.int .u64) 64 w30 w.heap.size (fun _ => True) (.slice (some ⟨go21, 0, none⟩) jE.length qF) y108 := (by rw [hw, Ny108.out]; exact HP29.1); clear HP29; replace fJ := ae.mk (hp_); replace HB := ae.mk ((by rw [hw]; exact aQ (HB.out) F4.out : Below w.heap.size w w30)); clear hg hw hp_))
                go_roundg k2
                case measure => have := HJ3.out; have := HK2.out; omega
                case rel => exact ⟨(y108), (wrap64 (fT + 1)), (by first | rfl | (simp; done) | (simp [*]; done)), H', ⟨by have := HJ3.out; have := HK2.out; omega⟩, ⟨by (with_reducible repeat (first | apply Kd.bu | apply Kd.bv | apply Kd.bg)); exact fJ.out⟩, ⟨by repeat (first | (with_reducible first | exact HB.out | apply aM | apply aD | apply aH) | exact HB.out)⟩⟩
               ·rw [if_neg c24] at H
                exact absurd H (by simp)
              ·rw [if_neg c23] at H
               exact absurd H (by simp)
             ·rw [if_neg c20] at H
              exact absurd H (by simp)
            ·rw [if_neg c19] at H
             exact absurd H (by simp)
           ·rw [if_neg c16] at H
            exact absurd H (by simp)
          ·rw [if_neg c14] at H
           exact absurd H (by simp)
         ·rw [if_neg c13] at H
          exact absurd H (by simp)
        ·rw [if_neg c12] at H
         have su : decide (fT < (l0.length : Int)) = false := decide_eq_false c12
         clear c12
         replace H := Option.bind_eq_some_iff.mp H
         obtain ⟨t109, A310, H⟩ := H
         replace H : (some (t109, 0)) = some (r1, r2) := H
         have A31 := ae.mk A310
         clear A310
         simp only [Option.some.injEq, Prod.mk.injEq] at H
         obtain ⟨rfl, rfl⟩ := H
         obtain ⟨vR, uT, Ey⟩ := Kd.bD fJ.out
         subst Ey
         go_wp2_with (first | ((with_reducible refine aW (f := 55) rfl ?_); refine cO (some 59) rfl rfl Tryd.func55 (by kernel_rfl) rfl #[.slice vR jE.length uT] rfl qt ?_; (with_reducible refine (eu.calls k2 (fun k_ => some k_ = (.slice vR jE.length uT : Value).ownBlock) (.slice vR jE.length uT) jE t109 w _ ?aU ?aV A31.out).mono ?_); (case aU => repeat (first | (with_reducible first | exact HB.out | apply aM | apply aD | apply aH) | exact HB.out)); (case aV => exact Kd.nD rfl fJ.out); rintro e w33 ⟨v110, rfl, ho0, hb, hkp⟩; refine ⟨_, rfl, ?_⟩; have qQ := ae.mk (Kd.bG (ok' := fun k_ => True) ho0 (fun k_ hk_ => trivial)); replace HB := ae.mk (hb); clear fJ; (try clear hb); (try clear hkp); (try clear ho0)))
         go_ret2
         exact ⟨_, by first | rfl | (simp [errW_none, errW_some] <;> rfl) | (simp only [← hji7]; first | rfl | (simp [errW_none, errW_some] <;> rfl)) | (simp [*, errW_none, errW_some] <;> rfl), by (with_reducible repeat (first | apply Kd.bu | apply Kd.bv | apply Kd.bg)); exact qQ.out, by repeat (first | (with_reducible first | exact HB.out | apply aM | apply aD | apply aH) | exact HB.out)⟩
     ·rw [if_neg c9] at H
      exact absurd H (by simp)
    ·rw [if_neg c8] at H
     exact absurd H (by simp)
end Go.Proofs.YthfphdbebnkdpaaDoor.P
end
section
namespace Go.Proofs.YthfphdbebnkdpaaDoor.P
open Go.RowKit Go.Proofs.YthfphdbebnkdpaaDoorW.aZ Go.Proofs.YthfphdbebnkdpaaDoorW.bL Go.Proofs.YthfphdbebnkdpaaDoorW.dC
attribute [local go_sem] dZ d9 fA fB dH dI ed ek
set_option linter.unusedVariables false
set_option linter.unusedSimpArgs false
mutual
def fw.j0 : Nat → List Int → Int → Int → Bool → Option (List Int × Int)
 | 0, _, _, _, _ => none
 | k + 1, x0, x1, x6, x20 => if x20 = true then (some (([] : List Int), x6)) else (if 0 ≤ (wrap64 ((x0.length : Int) - (wrap64 (Int.tdiv x1 32)))) then (if (wrap64 ((x0.length : Int) - (wrap64 (Int.tdiv x1 32))) : Int).toNat ≤ 35184372088832 then ((some (List.replicate (wrap64 ((x0.length : Int) - (wrap64 (Int.tdiv x1 32))) : Int).toNat 0 : List Int)).bind fun y102 => (fw.l0 k x0 x1 y102 (y102.length : Int) 0)) else (none)) else (none))
def fw.l0 : Nat → List Int → Int → List Int → Int → Int → Option (List Int × Int)
 | 0, _, _, _, _, _ => none
 | k + 1, x0, x1, x7, x29, x30 => if x30 < x29 then (if 0 ≤ (wrap64 (x30 + (wrap64 (Int.tdiv x1 32)))) then (if (wrap64 (x30 + (wrap64 (Int.tdiv x1 32)))) < (x0.length : Int) then ((nJ.f x0 (wrap64 ((wrap64 (x30 + (wrap64 (Int.tdiv x1 32)))) + 1))).bind fun bA => (if 0 ≤ (Int.tmod x1 32) then (if 0 ≤ x30 then (if x30 < (x7.length : Int) then (fw.l0 k x0 x1 (x7.set (x30 : Int).toNat (Int.tmod (shr .u64 (Go.bits .or .u64 (rd x0 (wrap64 (x30 + (wrap64 (Int.tdiv x1 32))))) (IntKind.u64.wrap (bA * 4294967296))) (Int.tmod x1 32)) 4294967296)) x29 (wrap64 (x30 + 1))) else (none)) else (none)) else (none))) else (none)) else (none)) else ((eu.f k x7).bind fun jM => (some (jM, 0)))
end
def fw.f (k : Nat) (l0 : List Int) (a1 : Int) : Option (List Int × Int) := (lV.f a1).bind fun fM => (if fM = 0 then (fw.j0 k l0 a1 fM (decide ((l0.length : Int) ≤ (wrap64 (Int.tdiv a1 32))))) else (fw.j0 k l0 a1 fM true))
def fw.T9 : Bool × List (List Nat × List Nat) := (true, [([], []), ([], []), ([], []), ([], []), ([2, 3], [2, 3]), ([4], [4]), ([], []), ([], []), ([7], [7]), ([6, 8], [6, 8]), ([9], [9]), ([5, 10], [5, 10]), ([], []), ([12], [12]), ([11, 13], [11, 13]), ([14], [14]), ([0, 1, 0, 1, 2, 3, 4, 5, 6, 7, 8, 9, 10, 11, 12, 13, 14, 15], [0, 1]), ([16, 15, 9, 0, 1, 2, 3, 4, 5, 6, 7, 8, 9, 10, 11, 12, 13, 14, 15], [15, 16])])
def fw.B9 : List Nat := [0, 0, 0, 0, 12, 28, 0, 0, 128, 448, 960, 2044, 0, 4096, 16380, 32764, 65535, 131071]
theorem fw.Jq : mi .any (opsOf Tryd.f92 9) = fw.T9 := by kernel_rfl
theorem fw.F5 : kJ fw.T9.2 fw.B9 = true := by kernel_rfl
set_option maxHeartbeats 8000000 in
set_option maxRecDepth 100000 in
theorem fw.calls (k : Nat) (A0 : Option Addr) (c0 : Nat) (l0 : List Int) (a1 : Int) (r1 : List Int) (r2 : Int) (w : World) (hr0 : Kd.C (Kd.int .u64) w A0 l0.length l0) (hc0 : l0.length ≤ c0) (h : fw.f k l0 a1 = some (r1, r2)) :
  Calls Tryd.prog 92 #[.slice A0 l0.length c0, .int .i64 a1] w fun e w' => ∃ v0_ : Value, e = .returned (.tuple #[v0_, .int .i64 r2]) ∧ Kd.R (Kd.int .u64) 64 w' w.heap.size (fun _ => True) v0_ r1 ∧ Below w.heap.size w w' := by
 have HR0 := ae.mk hr0
 have HC0 := ae.mk hc0
 clear hr0 hc0
 have HB := ae.mk (Below.refl w.heap.size w)
 have H : ((lV.f a1).bind fun fM => (if fM = 0 then (fw.j0 k l0 a1 fM (decide ((l0.length : Int) ≤ (wrap64 (Int.tdiv a1 32))))) else (fw.j0 k l0 a1 fM true))) = some (r1, r2) := h
 clear h
 replace H := Option.bind_eq_some_iff.mp H
 obtain ⟨fM, A30, H⟩ := H
 replace H : (if fM = 0 then (fw.j0 k l0 a1 fM (decide ((l0.length : Int) ≤ (wrap64 (Int.tdiv a1 32))))) else (fw.j0 k l0 a1 fM true)) = some (r1, r2) := H
 have A3 := ae.mk A30
 clear A30
 have HC4 := ae.mk H
 clear H
 go_enter Tryd.func92, Tryd.ntmps92
 go_upto_region 2 with (first | ((with_reducible refine aW (f := 120) rfl ?_); refine cO (some 11) rfl rfl Tryd.func120 (by kernel_rfl) rfl #[.int .i64 a1] rfl qt ?_; (with_reducible refine (lV.calls a1 fM _ A3.out).mono ?_); rintro e w' ⟨rfl, ⟨nd, rfl⟩⟩; refine ⟨_, rfl, ?_⟩))
 (try simp only [Act.put, List.setIfInBounds_toArray, List.set_cons_zero, List.set_cons_succ])
 go_cut [20] (fun v20 wc => ∃ (kq : Nat) (zg : Bool), v20 = .bool zg ∧ ae (fw.j0 kq l0 a1 fM zg = some (r1, r2)) ∧ ae (kq ≤ k) ∧ ae (Below w.heap.size w wc))
 case first =>
  have H := HC4.out
  clear HC4
  by_cases c5 : fM = 0
  ·rw [if_pos c5] at H
   have jW : (fM == 0) = true := beq_iff_eq.mpr c5
   have pR : (fM != 0) = false := bne_eq_false_iff_eq.mpr c5
   clear c5
   (first | rw [jW] | (simp only [gT, oW]; rw [jW]) | skip)
   have H' := ae.mk H
   clear H
   go_wp2
   go_meet
   case rel => exact ⟨_, (decide ((l0.length : Int) ≤ (wrap64 (Int.tdiv a1 32)))), (by first | rfl | (simp; done) | (simp [*]; done)), H', ⟨by first | omega | exact Nat.le_refl _⟩, ⟨by repeat (first | (with_reducible first | exact HB.out | apply aM | apply aD | apply aH) | exact HB.out)⟩⟩
  ·rw [if_neg c5] at H
   have jW : (fM == 0) = false := beq_eq_false_iff_ne.mpr c5
   have pR : (fM != 0) = true := bne_iff_ne.mpr c5
   (first | rw [jW] | (simp only [gT, oW]; rw [jW]) | skip)
   have H' := ae.mk H
   clear H
   go_wp2
   go_meet
   case rel => exact ⟨_, (true), (by first | rfl | (simp; done) | (simp [*]; done)), H', ⟨by first | omega | exact Nat.le_refl _⟩, ⟨by repeat (first | (with_reducible first | exact HB.out | apply aM | apply aD | apply aH) | exact HB.out)⟩⟩
 case rest =>
  clear HC4
  try clear c1
  try clear p2
  try clear c5
  try clear jW
  try clear pR
  obtain ⟨kq, zg, rfl, HA, HJ3, HB⟩ := hcut
  cases kq with
  | zero => exact absurd HA.out (by simp [fw.j0])
  | succ kj3 =>
   have H := HA.out
   clear HA
   simp only [fw.j0] at H
   by_cases c6 : zg = true
   ·subst c6
    have H1 : (some (([] : List Int), fM)) = some (r1, r2) := by rw [if_pos rfl] at H; exact H
    clear H
    have H := H1
    clear H1
    simp only [Option.some.injEq, Prod.mk.injEq] at H
    obtain ⟨rfl, rfl⟩ := H
    go_wp2
    go_ret2
    exact ⟨_, by first | rfl | (simp [errW_none, errW_some] <;> rfl) | (simp [*, errW_none, errW_some] <;> rfl), by first | exact Kd.pu _ _ _ _ _ | exact Kd.N_nil _ _ _ _ _ | exact Kd.V_nil _ _ _ _ _ | exact Kd.Q_nil _ _ _ _ _ | exact Kd.S_nil _ _ _ _ _, by repeat (first | (with_reducible first | exact HB.out | apply aM | apply aD | apply aH) | exact HB.out)⟩
   ·replace c6 := Bool.eq_false_iff.mpr c6
    subst c6
    have H1 : (if 0 ≤ (wrap64 ((l0.length : Int) - (wrap64 (Int.tdiv a1 32)))) then (if (wrap64 ((l0.length : Int) - (wrap64 (Int.tdiv a1 32))) : Int).toNat ≤ 35184372088832 then ((some (List.replicate (wrap64 ((l0.length : Int) - (wrap64 (Int.tdiv a1 32))) : Int).toNat 0 : List Int)).bind fun y102 => (fw.l0 kj3 l0 a1 y102 (y102.length : Int) 0)) else (none)) else (none)) = some (r1, r2) := by rw [if_neg (show ¬ (false = true) by decide)] at H; exact H
    clear H
    have H := H1
    clear H1
    obtain ⟨ji7, hji7⟩ : ∃ j_ : Int, (wrap64 ((l0.length : Int) - (wrap64 (Int.tdiv a1 32)))) = j_ := ⟨_, rfl⟩
    replace H : (if 0 ≤ (ji7) then (if (ji7 : Int).toNat ≤ 35184372088832 then ((some (List.replicate (ji7 : Int).toNat 0 : List Int)).bind fun y102 => (fw.l0 kj3 l0 a1 y102 (y102.length : Int) 0)) else (none)) else (none)) = some (r1, r2) := by first | (rw [hji7] at H; exact H) | (simp only [hji7] at H ⊢; exact H)
    have hji7w : (IntKind.i64.wrap ((l0.length : Int) - (wrap64 (Int.tdiv a1 32)))) = ji7 := (gT _).trans hji7
    by_cases c8 : 0 ≤ (ji7)
    ·rw [if_pos c8] at H
     have oZ := eq_true c8
     have zM : decide (0 ≤ (ji7)) = true := decide_eq_true c8
     clear c8
     by_cases c9 : (ji7 : Int).toNat ≤ 35184372088832
     ·rw [if_pos c9] at H
      have qc := eq_true c9
      have yh : decide ((ji7 : Int).toNat ≤ 35184372088832) = true := decide_eq_true c9
      clear c9
      obtain ⟨y102, hy102⟩ : ∃ y_ : List Int, y_ = (List.replicate (ji7 : Int).toNat 0) := ⟨_, rfl⟩
      replace H : (fw.l0 kj3 l0 a1 y102 (y102.length : Int) 0) = some (r1, r2) := by first | (rw [hy102]; with_reducible exact H) | (have H2_ := (Option.bind_some _ _).symm.trans H; rw [hy102]; with_reducible exact H2_) | (have H2_ := (Option.bind_some _ _).symm.trans H; with_reducible exact H2_) | with_reducible exact H | (rw [hy102]; exact H) | exact H
      have Ny102 := ae.mk hy102
      clear hy102
      have H' := ae.mk H
      clear H
      go_wp2_with (first | ((with_reducible refine bR (N := 27) rfl ?_); (try (refine iw (by rfl) ?_; dsimp only)); refine Kd.pM (Kd.int .u64) _ 64 rfl (N := 27) rfl 23 _ _ rfl ji7 rfl rfl Tryd.underlying23 (.int .u64 0) 8 lX rfl (by decide) (by omega) 0 (ok := fun _ => True) (okp := fun _ => True) rfl (fun _ hk => hk) trivial (of_decide_eq_true qa) (Nat.le_trans (Nat.mul_le_mul_right _ (of_decide_eq_true qa : ji7.toNat ≤ 35184372088832)) (by omega)) (Below.refl _ _) (Nat.le_refl _) ?_; intro v103 w10 uS hb hg_ hnew_; clear hg_ hnew_; (first | rw [← Ny102.out] at uS | (simp only [Int.reduceToNat] at uS; rw [← Ny102.out] at uS)); have fG := ae.mk (Kd.bz uS (aN (qw HB))); replace HB := ae.mk (av (qw HB) hb); clear hb uS; obtain ⟨yz, xu, wL⟩ := Kd.bD fG.out; subst wL))
      go_loopg [30] kj3 (fun kq v30 w' => ∃ (jE : List Int) (fT : Int), v30 = .int .i64 fT ∧ ae (fw.l0 kq l0 a1 jE (y102.length : Int) fT = some (r1, r2)) ∧ ae (kq ≤ kj3) ∧ ae (Kd.R (Kd.int .u64) 64 w' w.heap.size (fun _ => True) (.slice yz y102.length xu) jE) ∧ ae (Below w.heap.size w w'))
      case atStart => exact ⟨(y102), (0), (by first | rfl | (simp; done) | (simp [*]; done)), H', ⟨Nat.le_refl _⟩, ⟨by (with_reducible repeat (first | apply Kd.bu | apply Kd.bv | apply Kd.bg)); exact fG.out⟩, ⟨by repeat (first | (with_reducible first | exact HB.out | apply aM | apply aD | apply aH) | exact HB.out)⟩⟩
      case round =>
       clear H'
       try clear c1
       try clear p2
       try clear c5
       try clear jW
       try clear pR
       try clear c6
       try clear p6
       try clear c8
       try clear oZ
       try clear zM
       try clear c9
       try clear qc
       try clear yh
       try clear c12
       try clear p2
       obtain ⟨jE, fT, rfl, HA, HK2, fJ, HB⟩ := hrel
       have hl7_2 := (Kd.ak fJ.out).1
       rw [hl7_2] at fJ
       (try simp only [hl7_2])
       cases gk with
       | zero => exact absurd HA.out (by simp [fw.l0])
       | succ k2 =>
        have H := HA.out
        clear HA
        simp only [fw.l0] at H
        by_cases c13 : fT < (y102.length : Int)
        ·rw [if_pos c13] at H
         have qg : decide (fT < (y102.length : Int)) = true := decide_eq_true c13
         (try (have c13b0hl7_2 := qg; rw [hl7_2] at c13b0hl7_2))
         clear c13
         obtain ⟨ji14, hji14⟩ : ∃ j_ : Int, (wrap64 (fT + (wrap64 (Int.tdiv a1 32)))) = j_ := ⟨_, rfl⟩
         (try (have hji14r := hji14; simp only [hji7] at hji14r))
         (try (have hji14wr := (gT _).trans hji14r))
         replace H : (if 0 ≤ (ji14) then (if (ji14) < (l0.length : Int) then ((nJ.f l0 (wrap64 ((ji14) + 1))).bind fun bA => (if 0 ≤ (Int.tmod a1 32) then (if 0 ≤ fT then (if fT < (jE.length : Int) then (fw.l0 k2 l0 a1 (jE.set (fT : Int).toNat (Int.tmod (shr .u64 (Go.bits .or .u64 (rd l0 (ji14)) (IntKind.u64.wrap (bA * 4294967296))) (Int.tmod a1 32)) 4294967296)) (y102.length : Int) (wrap64 (fT + 1))) else (none)) else (none)) else (none))) else (none)) else (none)) = some (r1, r2) := by first | (rw [hji14] at H; exact H) | (simp only [hji14] at H ⊢; exact H)
         have hji14w : (IntKind.i64.wrap (fT + (wrap64 (Int.tdiv a1 32)))) = ji14 := (gT _).trans hji14
         by_cases c15 : 0 ≤ (ji14)
         ·rw [if_pos c15] at H
          have o5 : decide (0 ≤ (ji14)) = true := decide_eq_true c15
          clear c15
          by_cases c16 : (ji14) < (l0.length : Int)
          ·rw [if_pos c16] at H
           have xn : decide ((ji14) < (l0.length : Int)) = true := decide_eq_true c16
           (try (have c16b0hl7_2 := xn; rw [hl7_2] at c16b0hl7_2))
           clear c16
           replace H := Option.bind_eq_some_iff.mp H
           obtain ⟨bA, A170, H⟩ := H
           replace H : (if 0 ≤ (Int.tmod a1 32) then (if 0 ≤ fT then (if fT < (jE.length : Int) then (fw.l0 k2 l0 a1 (jE.set (fT : Int).toNat (Int.tmod (shr .u64 (Go.bits .or .u64 (rd l0 (ji14)) (IntKind.u64.wrap (bA * 4294967296))) (Int.tmod a1 32)) 4294967296)) (y102.length : Int) (wrap64 (fT + 1))) else (none)) else (none)) else (none)) = some (r1, r2) := H
           have A17 := ae.mk A170
           clear A170
           obtain ⟨ji18, hji18⟩ : ∃ j_ : Int, (Int.tmod a1 32) = j_ := ⟨_, rfl⟩
           (try (have hji18r := hji18; simp only [hji7, hji14] at hji18r))
           (try (have hji18wr := (gT _).trans hji18r))
           replace H : (if 0 ≤ (ji18) then (if 0 ≤ fT then (if fT < (jE.length : Int) then (fw.l0 k2 l0 a1 (jE.set (fT : Int).toNat (Int.tmod (shr .u64 (Go.bits .or .u64 (rd l0 (ji14)) (IntKind.u64.wrap (bA * 4294967296))) (ji18)) 4294967296)) (y102.length : Int) (wrap64 (fT + 1))) else (none)) else (none)) else (none)) = some (r1, r2) := by first | (rw [hji18] at H; exact H) | (simp only [hji18] at H ⊢; exact H)
           (try rw [hji18] at A17)
           by_cases c19 : 0 ≤ (ji18)
           ·rw [if_pos c19] at H
            have Dk := eq_true c19
            have Ki : decide (0 ≤ (ji18)) = true := decide_eq_true c19
            clear c19
            obtain ⟨ji20, hji20⟩ : ∃ j_ : Int, (shr .u64 (Go.bits .or .u64 (rd l0 (ji14)) (IntKind.u64.wrap (bA * 4294967296))) (ji18)) = j_ := ⟨_, rfl⟩
            (try (have hji20r := hji20; simp only [hji7, hji14, hji18] at hji20r))
            (try (have hji20wr := (gT _).trans hji20r))
            replace H : (if 0 ≤ fT then (if fT < (jE.length : Int) then (fw.l0 k2 l0 a1 (jE.set (fT : Int).toNat (Int.tmod (ji20) 4294967296)) (y102.length : Int) (wrap64 (fT + 1))) else (none)) else (none)) = some (r1, r2) := by first | (rw [hji20] at H; exact H) | (simp only [hji20] at H ⊢; exact H)
            (try rw [hji20] at A17)
            have hji20_ : ((Go.bits .or .u64 (rd l0 (ji14)) (IntKind.u64.wrap (bA * 4294967296))) / 2 ^ min (ji18).toNat 64) = ji20 := hji20
            have hji20z : (ji18) ≤ 64 → ((Go.bits .or .u64 (rd l0 (ji14)) (IntKind.u64.wrap (bA * 4294967296))) / 2 ^ (ji18).toNat) = ji20 := vX hji20
            by_cases c21 : 0 ≤ fT
            ·rw [if_pos c21] at H
             have Dp : decide (0 ≤ fT) = true := decide_eq_true c21
             clear c21
             by_cases c22 : fT < (jE.length : Int)
             ·rw [if_pos c22] at H
              have AY : decide (fT < (jE.length : Int)) = true := decide_eq_true c22
              (try (have c22b0hl7_2 := AY; rw [hl7_2] at c22b0hl7_2))
              clear c22
              obtain ⟨y107, hy107⟩ : ∃ y_ : List Int, y_ = (jE.set (fT : Int).toNat (Int.tmod (ji20) 4294967296)) := ⟨_, rfl⟩
              replace H : (fw.l0 k2 l0 a1 y107 (y102.length : Int) (wrap64 (fT + 1))) = some (r1, r2) := by first | (rw [hy107]; with_reducible exact H) | (have H2_ := (Option.bind_some _ _).symm.trans H; rw [hy107]; with_reducible exact H2_) | (have H2_ := (Option.bind_some _ _).symm.trans H; with_reducible exact H2_) | with_reducible exact H | (rw [hy107]; exact H) | exact H
              have Ny107 := ae.mk hy107
              clear hy107
              have H' := ae.mk H
              clear H
              try go_wp2
              replace fJ := ae.mk (Kd.bg fJ.out)
              replace HB := ae.mk (aH HB.out)
              have p105 : 0 ≤ ((ji14) : Int) := of_decide_eq_true qa
              have q105 : (ji14) < (l0.length : Int) := of_decide_eq_true qa
              obtain ⟨ad105, e105, hx105_0⟩ := Kd.gH HR0.out (ji14) p105 q105
              have hw105_0 := hx105_0
              cases e105
              replace hx105_0 := (HB.out.cell (World.block_lt_of_cell? w _ hx105_0)).trans hx105_0
              replace p105 := eq_true p105
              replace q105 := eq_true q105
              refine j6 (n := 18) (S := fun w' => w'.cell? (ad105.add ((ji14)).toNat) = some (.int .u64 (rd l0 (ji14)))) (ds := [17]) #[bF,bF,bF,bF,bF,bF,bF,bF,bF,bF,bF,bF,bF,bF,bF,bF,bF,bF] (by kernel_rfl) rfl rfl (((HB.out.cell (World.block_lt_of_cell? w _ hw105_0)).trans hw105_0)) (fun hHeld => ?_); refine iQ fw.Jq fw.F5 (fun HT_ HW_ => ?_)
              generalize wr.drew = w24 at fJ HB hx105_0 hHeld ⊢
              refine cZ 0 (some 37) HT_ ?_
              refine cZ 1 (some 38) HT_ ?_
              refine cZ 2 (some 39) HT_ ?_
              refine cZ 3 (some 40) HT_ ?_
              refine cZ 4 (some 41) HT_ ?_
              refine cZ 6 (some 43) HT_ ?_
              refine cZ 7 (some 44) HT_ ?_
              refine cZ 8 (some 45) HT_ ?_
              refine cZ 12 (some 49) HT_ ?_
              refine cZ 13 (some 50) HT_ ?_
              refine oV (i := 5) (N := some 42) (v := ?_) (a' := ?_) #[bT,bT,bT,bT,bT,bT,bT,bT,bT,bF,bF,bF,bT,bT,bF,bF,bF,bF] rfl rfl (r9 HT_.out HW_.out (by kernel_rfl)) (fun _ _ _ h => h) (Or.inl ⟨by rfl, ?_⟩) hHeld ?_ ?_
              rotate_left
              ·intro w' s0
               go_simp
               with_reducible rfl
              rotate_left
              ·exact qJ
              refine gU 9 (some 46) HT_ (fun K hK => ?_)
              refine wY Tryd.func54 (by kernel_rfl) rfl #[.slice (some ad105) l0.length c0, .int .i64 (wrap64 ((ji14) + 1))] (by rfl) rfl rfl (by (try simp only [List.map_toArray, List.map_cons, List.map_nil]); first | done | (simp only [hji14]; rfl) | rfl | (simp only [List.length_drop, List.length_take]; rfl)) ?_
              with_reducible refine (nJ.calls _ _ l0 (wrap64 ((ji14) + 1)) bA _ ?aU ?aV A17.out).mono ?_
              (case aU => exact qs ((Kd.dS HR0.out HB.out)))
              (case aV => exact HC0.out)
              rintro e w' ⟨rfl, ⟨nd, rfl⟩⟩
              refine ⟨_, rfl, ?_⟩
              have p23 : 0 ≤ (fT : Int) := of_decide_eq_true qa
              have q23 : (fT : Int) < ((jE.length : Int) : Int) := of_decide_eq_true qa
              obtain ⟨go23, uq, Cr, F6, gl23, cl23, HG23⟩ := Kd.nP fJ.out (by omega)
              (first | cases Cr | (injection Cr with ea_ en_ ec_; (first | subst ea_ | (injection ea_ with ea_; subst ea_)); subst ec_; clear en_))
              have Jr := ae.mk F6
              have GG23 := ae.mk HG23
              clear F6 gl23 HG23
              obtain ⟨hx23_0, hf23_0⟩ := Kd.jk 0 fJ.out (fT : Int) p23 q23
              replace p23 := eq_true p23
              replace q23 := eq_true q23
              have HP25 := Kd.xY fJ.out (fT : Int) (Int.tmod (ji20) 4294967296)
              rw [← Ny107.out] at HP25
              have HQ25 := ae.mk HP25
              clear HP25
              refine hK.out _ _ (((HB.out.cell (World.block_lt_of_cell? w _ hw105_0)).trans hw105_0)) (fun hHeld => ?_)
              clear hK K
              refine eY (some 46) ?_
              refine cZ 10 (some 47) HT_ ?_
              refine cZ 11 (some 48) HT_ ?_
              refine cZ 14 (some 51) HT_ ?_
              refine cZ 15 (some 52) HT_ ?_
              refine cZ 16 (some 53) HT_ ?_
              refine vW (i := 17) (N := none) #[bT,bT,bT,bT,bT,bT,bT,bT,bT,bT,bT,bT,bT,bT,bT,bT,bT,bT] rfl rfl (rT HT_.out (by kernel_rfl)) (by decide) (fun K hK => ?_)
              refine pX (w1 := ?_) (by rfl) rfl ?_ ?_
              rotate_left
              ·go_simp
               rfl
              refine hK.out _ _ ?_
              clear hK K
              refine nM HT_ ?_
              try go_wp2
              (try simp only [← hl7_2])
              go_roundg k2
              case measure => have := HJ3.out; have := HK2.out; omega
              case rel => exact ⟨(y107), (wrap64 (fT + 1)), (by first | rfl | (simp; done) | (simp [*]; done)), H', ⟨by have := HJ3.out; have := HK2.out; omega⟩, ⟨by (try simp only [hl7_2]); (with_reducible repeat (first | apply Kd.bu | apply Kd.bv | apply Kd.bg)); exact HQ25.out⟩, ⟨by repeat (first | (with_reducible first | exact HB.out | apply aM | apply aD | apply aH | refine aQ ?_ Jr.out) | exact HB.out)⟩⟩
             ·rw [if_neg c22] at H
              exact absurd H (by simp)
            ·rw [if_neg c21] at H
             exact absurd H (by simp)
           ·rw [if_neg c19] at H
            exact absurd H (by simp)
          ·rw [if_neg c16] at H
           exact absurd H (by simp)
         ·rw [if_neg c15] at H
          exact absurd H (by simp)
        ·rw [if_neg c13] at H
         have qg : decide (fT < (y102.length : Int)) = false := decide_eq_false c13
         (try (have c13b0hl7_2 := qg; rw [hl7_2] at c13b0hl7_2))
         clear c13
         replace H := Option.bind_eq_some_iff.mp H
         obtain ⟨jM, A260, H⟩ := H
         replace H : (some (jM, 0)) = some (r1, r2) := H
         have A26 := ae.mk A260
         clear A260
         simp only [Option.some.injEq, Prod.mk.injEq] at H
         obtain ⟨rfl, rfl⟩ := H
         go_wp2_with (first | ((with_reducible refine aW (f := 55) rfl ?_); refine cO (some 56) rfl rfl Tryd.func55 (by kernel_rfl) rfl #[.slice yz jE.length xu] rfl qt ?_; (with_reducible refine (eu.calls k2 (fun k_ => some k_ = (.slice yz jE.length xu : Value).ownBlock) (.slice yz jE.length xu) jE jM w _ ?aU ?aV A26.out).mono ?_); (case aU => repeat (first | (with_reducible first | exact HB.out | apply aM | apply aD | apply aH) | exact HB.out)); (case aV => exact Kd.nD rfl fJ.out); rintro e w27 ⟨v109, rfl, ho0, hb, hkp⟩; refine ⟨_, rfl, ?_⟩; have oD := ae.mk (Kd.bG (ok' := fun k_ => True) ho0 (fun k_ hk_ => trivial)); replace HB := ae.mk (hb); clear fJ; (try clear hb); (try clear hkp); (try clear ho0)))
         go_ret2
         exact ⟨_, by first | rfl | (simp [errW_none, errW_some] <;> rfl) | (simp only [← hji7]; first | rfl | (simp [errW_none, errW_some] <;> rfl)) | (simp [*, errW_none, errW_some] <;> rfl), by (with_reducible repeat (first | apply Kd.bu | apply Kd.bv | apply Kd.bg)); exact oD.out, by repeat (first | (with_reducible first | exact HB.out | apply aM | apply aD | apply aH) | exact HB.out)⟩
     ·rw [if_neg c9] at H
      exact absurd H (by simp)
    ·rw [if_neg c8] at H
     exact absurd H (by simp)
end Go.Proofs.YthfphdbebnkdpaaDoor.P
end
section
namespace Go.Proofs.YthfphdbebnkdpaaDoor.P
open Go.RowKit Go.Proofs.YthfphdbebnkdpaaDoorW.aZ Go.Proofs.YthfphdbebnkdpaaDoorW.bL Go.Proofs.YthfphdbebnkdpaaDoorW.dC
attribute [local go_sem] dZ d9 fA fB dH dI ed ek
set_option linter.unusedVariables false
set_option linter.unusedSimpArgs false
def ig.l0 : Nat → Int → Int → Int → Option (Int)
 | 0, _, _, _ => none
 | k + 1, x0, x3, x5 => if x5 < 32 then (if 0 ≤ x5 then (if (Go.bits .and .u64 (shr .u64 x0 x5) 1) = 1 then (ig.l0 k x0 (wrap64 (x5 + 1)) (wrap64 (x5 + 1))) else (ig.l0 k x0 x3 (wrap64 (x5 + 1)))) else (none)) else (some x3)
def ig.f (k : Nat) (a0 : Int) : Option (Int) := ig.l0 k a0 0 0
set_option maxHeartbeats 8000000 in
set_option maxRecDepth 100000 in
theorem ig.calls (k : Nat) (a0 : Int) (r : Int) (w : World) (h : ig.f k a0 = some r) :
  Calls Tryd.prog 87 #[.int .u64 a0] w fun e w' => e = .returned (.int .i64 r) ∧ bZ w w' := by
 have H : (ig.l0 k a0 0 0) = some r := h
 clear h
 have H' := ae.mk H
 clear H
 go_enter Tryd.func87, Tryd.ntmps87
 go_wp2
 go_loopg [3, 5] k (fun kq v3 v5 w' => ∃ (kL : Int) (fC : Int), v3 = .int .i64 kL ∧ v5 = .int .i64 fC ∧ ae (ig.l0 kq a0 kL fC = some r) ∧ ae (kq ≤ k) ∧ bZ w w')
 case atStart => exact ⟨(0), (0), (by first | rfl | (simp; done) | (simp [*]; done)), (by first | rfl | (simp; done) | (simp [*]; done)), H', ⟨Nat.le_refl _⟩, by repeat (first | exact bZ.refl _ | apply bZ.step)⟩
 case round =>
  clear H'
  obtain ⟨kL, fC, rfl, rfl, HA, HK1, ⟨m1, rfl⟩⟩ := hrel
  cases gk with
  | zero => exact absurd HA.out (by simp [ig.l0])
  | succ k1 =>
   have H := HA.out
   clear HA
   simp only [ig.l0] at H
   by_cases c2 : fC < 32
   ·rw [if_pos c2] at H
    have qM : decide (fC < 32) = true := decide_eq_true c2
    clear c2
    by_cases c3 : 0 ≤ fC
    ·rw [if_pos c3] at H
     have nE := eq_true c3
     have qD : decide (0 ≤ fC) = true := decide_eq_true c3
     clear c3
     obtain ⟨ji4, hji4⟩ : ∃ j_ : Int, (shr .u64 a0 fC) = j_ := ⟨_, rfl⟩
     replace H : (if (Go.bits .and .u64 (ji4) 1) = 1 then (ig.l0 k1 a0 (wrap64 (fC + 1)) (wrap64 (fC + 1))) else (ig.l0 k1 a0 kL (wrap64 (fC + 1)))) = some r := by first | (rw [hji4] at H; exact H) | (simp only [hji4] at H ⊢; exact H)
     have hji4_ : (a0 / 2 ^ min fC.toNat 64) = ji4 := hji4
     have hji4z : fC ≤ 64 → (a0 / 2 ^ fC.toNat) = ji4 := vX hji4
     by_cases c5 : (Go.bits .and .u64 (ji4) 1) = 1
     ·rw [if_pos c5] at H
      have jW : ((Go.bits .and .u64 (ji4) 1) == 1) = true := beq_iff_eq.mpr c5
      have pR : ((Go.bits .and .u64 (ji4) 1) != 1) = false := bne_eq_false_iff_eq.mpr c5
      clear c5
      have H' := ae.mk H
      clear H
      go_wp2
      go_roundg k1
      case measure => have := HK1.out; omega
      case rel => exact ⟨(wrap64 (fC + 1)), (wrap64 (fC + 1)), (by first | rfl | (simp; done) | (simp [*]; done)), (by first | rfl | (simp; done) | (simp [*]; done)), H', ⟨by have := HK1.out; omega⟩, by repeat (first | exact bZ.refl _ | apply bZ.step)⟩
     ·rw [if_neg c5] at H
      have jW : ((Go.bits .and .u64 (ji4) 1) == 1) = false := beq_eq_false_iff_ne.mpr c5
      have pR : ((Go.bits .and .u64 (ji4) 1) != 1) = true := bne_iff_ne.mpr c5
      have H' := ae.mk H
      clear H
      go_wp2
      go_roundg k1
      case measure => have := HK1.out; omega
      case rel => exact ⟨(kL), (wrap64 (fC + 1)), (by first | rfl | (simp; done) | (simp [*]; done)), (by first | rfl | (simp; done) | (simp [*]; done)), H', ⟨by have := HK1.out; omega⟩, by repeat (first | exact bZ.refl _ | apply bZ.step)⟩
    ·rw [if_neg c3] at H
     exact absurd H (by simp)
   ·rw [if_neg c2] at H
    have qM : decide (fC < 32) = false := decide_eq_false c2
    clear c2
    obtain rfl := Option.some.inj H
    go_wp2
    go_ret
    exact ⟨by first | rfl | (simp; done) | (simp [*]; done), by repeat (first | exact bZ.refl _ | apply bZ.step)⟩
end Go.Proofs.YthfphdbebnkdpaaDoor.P
end
section
set_option linter.unusedVariables false
set_option linter.unusedSimpArgs false
namespace Go.Proofs.YthfphdbebnkdpaaDoor.Pn
open Go.Proofs.YthfphdbebnkdpaaDoor.P Go.Proofs.YthfphdbebnkdpaaDoorW.aZ Go.Proofs.YthfphdbebnkdpaaDoorW.bL Go.RowKit
theorem oK {Q : Nat} (h : Q < 4294967296) : (Q : Int) < 4294967296 := by omega
theorem Cx (x y : Nat) (hx : x < 4294967296) (hy : y < 4294967296) : Go.bits .or .u64 (IntKind.u64.wrap ((x : Int) * 4294967296)) (y : Int) = ((x * 4294967296 + y : Nat) : Int) := by
  rw [mD, show ((x : Int) * 4294967296) % 18446744073709551616 = (x : Int) * 4294967296 by omega]
  rw [bits_join .u64 64 (by decide) wraps_u64 32 ((x : Int) * 4294967296) (y : Int) (by omega) (by omega) (by omega) (by omega) (by omega) (by omega)]
  omega
theorem Cy (hi lo d : Nat) (h1 : hi < d) (h2 : lo < 4294967296) (h3 : d < 4294967296) :
    o7.f (hi : Int) (lo : Int) (d : Int) = some ((((hi * 4294967296 + lo) / d : Nat) : Int), (((hi * 4294967296 + lo) % d : Nat) : Int), 0) := by
  unfold o7.f
  rw [nQ (x := (hi : Int)) (by omega) (by omega), nQ (x := (lo : Int)) (by omega) (by omega), nQ (x := (d : Int)) (by omega) (by omega), if_neg (by omega), if_neg (by omega), Cx hi lo (by omega) h2]
  rw [Int.tdiv_eq_ediv_of_nonneg (by omega), Int.tmod_eq_emod_of_nonneg (by omega), mD]
  have hq : (hi * 4294967296 + lo) / d < 4294967296 := Nat.div_lt_of_lt_mul (by
    have : (hi + 1) * 4294967296 ≤ d * 4294967296 := Nat.mul_le_mul_right _ h1
    omega)
  rw [← Int.natCast_ediv, ← Int.natCast_emod]
  generalize (hi * 4294967296 + lo) / d = Q at *
  rw [show (Q : Int) % 18446744073709551616 = (Q : Int) by omega]
theorem wh (l : List Int) (t : Nat) (h : t < l.length) : l.drop t = l.getD t 0 :: l.drop (t + 1) := by
  rw [List.drop_eq_getElem_cons h, List.getD_eq_getElem?_getD, List.getElem?_eq_getElem h]; rfl
theorem yA (l : List Int) (hl : OKL l) (hlen : l.length ≤ 1000000) (d : Nat) (hd0 : 0 < d) (hd : d < 4294967296) (t : Nat) :
    ∀ (q : List Int) (r : Nat), t ≤ l.length → q.length = l.length → OKL q → r < d → r + d * vl (q.drop t) = vl (l.drop t) → (∀ j, j < t → q.getD j 0 = 0) →
      Ev (fun k => df.l0 k l (d : Int) q (r : Int) (l.length : Int) ((l.length - t : Nat) : Int)) (dg (vl l / d), ((vl l % d : Nat) : Int), 0) := by
  induction t with
  | zero =>
    intro q r ht hq hok hr hv hz
    rw [List.drop_zero, List.drop_zero] at hv
    have hm := rA q hok (by clear hv; omega)
    have e1 : vl l / d = vl q := by rw [← hv, Nat.add_mul_div_left _ _ hd0, Nat.div_eq_of_lt hr, Nat.zero_add]
    have e2 : vl l % d = r := by rw [← hv, Nat.add_mul_mod_self_left, Nat.mod_eq_of_lt hr]
    rw [e1, e2]
    refine Ev.step (f := fun k => (dw.f k q).bind fun dM => some (dM.1, (r : Int), (0 : Int))) (fun k => ?_) (Ev.bind (f := fun _ dM => some (dM.1, (r : Int), (0 : Int))) hm (Ev.now _))
    clear hv hm e1 e2
    rw [df.l0, if_neg (by omega)]
  | succ t ih =>
    intro q r ht hq hok hr hv hz
    have hw : wrap64 (wrap64 ((l.length : Int) - 1) - ((l.length - (t + 1) : Nat) : Int)) = (t : Int) := by clear hv ih hz; unfold wrap64; omega
    have hw2 : wrap64 (((l.length - (t + 1) : Nat) : Int) + 1) = ((l.length - t : Nat) : Int) := by clear hv ih hz; unfold wrap64; omega
    obtain ⟨ey, by_⟩ := lU hl t
    have hdiv := Cy r (l.getD t 0).toNat d hr by_ hd
    rw [← ey] at hdiv
    have hdl := wh l t (by clear hv ih hz; omega)
    have hlt : t < q.length := by clear hv ih hz; omega
    have e1 := Nat.div_add_mod (r * 4294967296 + (l.getD t 0).toNat) d
    have hq2 : (r * 4294967296 + (l.getD t 0).toNat) / d < 4294967296 := Nat.div_lt_of_lt_mul (by
      have : (r + 1) * 4294967296 ≤ d * 4294967296 := Nat.mul_le_mul_right _ hr
      clear hv ih hz e1; omega)
    have hr2 : (r * 4294967296 + (l.getD t 0).toNat) % d < d := Nat.mod_lt _ hd0
    refine Ev.step (fun k => ?_) (ih (q.set t (((r * 4294967296 + (l.getD t 0).toNat) / d : Nat) : Int)) ((r * 4294967296 + (l.getD t 0).toNat) % d) (by clear hv ih hz e1; omega) (by rw [List.length_set]; exact hq) (mJ hok _ (Int.natCast_nonneg _) (oK hq2)) hr2 ?_ (fun j hj => ?_))
    · clear hv ih hz e1
      rw [df.l0, if_pos (by omega), hw, if_pos (by omega), if_pos (by omega), gZ, hdiv]
      simp only [Option.bind_some]
      rw [if_pos (by omega), hw2, Int.toNat_natCast]
    · rw [hdl, vl, wh _ _ (by rw [List.length_set]; exact hlt), vl, vH, ← hv]
      have e3 : ((q.set t (((r * 4294967296 + (l.getD t 0).toNat) / d : Nat) : Int)).getD t 0).toNat = (r * 4294967296 + (l.getD t 0).toNat) / d := by
        rw [List.getD_eq_getElem?_getD, List.getElem?_set_self hlt]; exact Int.toNat_natCast _
      rw [e3]
      generalize (l.getD t 0).toNat = y at *
      generalize vl (q.drop (t + 1)) = z at *
      generalize (r * 4294967296 + y) / d = qq at *
      generalize (r * 4294967296 + y) % d = rr at *
      rw [Nat.mul_add, Nat.mul_add, Nat.mul_left_comm d]
      generalize d * z = dz at *
      generalize d * qq = dq at *
      clear ih hz hv hdiv hw hw2 hdl e3
      omega
    · rw [getD_set_ne _ _ _ _ (by clear hv ih hz e1; omega)]; exact hz j (by clear hv ih hz e1; omega)
theorem AZ (n d : Nat) (hn : (dg n).length ≤ 1000000) (hd0 : 0 < d) (hd : d < 4294967296) : Ev (fun k => df.f k (dg n) (d : Int)) (dg (n / d), ((n % d : Nat) : Int), 0) := by
  have h := yA (dg n) (kZ n) hn d hd0 hd (dg n).length (List.replicate (dg n).length 0) 0 (Nat.le_refl _) (by simp) (oI _) hd0 (by simp [vl]) (fun j _ => qP _ j)
  rw [mq, Nat.sub_self] at h
  refine Ev.congr (fun k => ?_) h
  rw [df.f, Int.tmod_eq_emod_of_nonneg (by omega), if_neg (by omega), if_pos (by omega), if_pos (by omega)]
  rfl
theorem zh (a j : Nat) (h : j ≤ 64) : shr .u64 (a : Int) (j : Int) = ((a / 2 ^ j : Nat) : Int) := by
  unfold shr
  rw [Int.toNat_natCast, show IntKind.u64.bits = 64 from rfl, Nat.min_eq_left h]
  simp
theorem and1 (a : Nat) (h : a < 18446744073709551616) : Go.bits .and .u64 (a : Int) 1 = ((a % 2 : Nat) : Int) := by
  have := bits_mask .u64 64 (by decide) wraps_u64 1 (by decide) (a : Int) (by omega) (by omega)
  simpa using this
theorem zT (a : Nat) (ha : a < 4294967296) (d : Nat) : ∀ (j m : Nat), j + d = 32 → m ≤ j → a % 2 ^ j < 2 ^ m → (m = 0 ∨ 2 ^ (m - 1) ≤ a % 2 ^ j) →
    ∃ r : Nat, Ev (fun k => ig.l0 k (a : Int) (m : Int) (j : Int)) (r : Int) ∧ r ≤ 32 ∧ a < 2 ^ r ∧ (r = 0 ∨ 2 ^ (r - 1) ≤ a) := by
  induction d with
  | zero =>
    intro j m hj hm h1 h2
    obtain rfl : j = 32 := by clear h1 h2; omega
    rw [Nat.mod_eq_of_lt (show a < 2 ^ 32 from ha)] at h1 h2
    refine ⟨m, Ev.step (f := fun _ => some (m : Int)) (fun k => ?_) (Ev.now _), hm, h1, h2⟩
    rw [ig.l0, if_neg (by decide)]
  | succ d ih =>
    intro j m hj hm h1 h2
    have hj32 : j < 32 := by clear h1 h2 ih; omega
    have hw : wrap64 ((j : Int) + 1) = ((j + 1 : Nat) : Int) := by clear h1 h2 ih; unfold wrap64; omega
    have hs : Go.bits .and .u64 (shr .u64 (a : Int) (j : Int)) 1 = ((a / 2 ^ j % 2 : Nat) : Int) := by
      rw [zh a j (by clear h1 h2 ih; omega), and1 _ (Nat.lt_of_le_of_lt (Nat.div_le_self _ _) (by clear h1 h2 ih; omega))]
    have hmod : a % 2 ^ (j + 1) = a % 2 ^ j + 2 ^ j * (a / 2 ^ j % 2) := by rw [Nat.pow_succ, Nat.mod_mul]
    have hlt : a % 2 ^ j < 2 ^ j := Nat.mod_lt _ (Nat.pow_pos (by decide))
    have hb : a / 2 ^ j % 2 < 2 := Nat.mod_lt _ (by decide)
    by_cases hbit : a / 2 ^ j % 2 = 1
    · obtain ⟨r, hr, h3⟩ := ih (j + 1) (j + 1) (by clear h1 h2 ih hmod hlt; omega) (Nat.le_refl _) (Nat.mod_lt _ (Nat.pow_pos (by decide))) (.inr (by rw [hmod, hbit, Nat.add_sub_cancel, Nat.mul_one]; exact Nat.le_add_left _ _))
      refine ⟨r, Ev.step (fun k => ?_) hr, h3⟩
      rw [ig.l0, if_pos (by clear h1 h2 ih hmod hlt; omega), if_pos (by clear h1 h2 ih hmod hlt; omega), hs, hbit, if_pos (by decide), hw]
    · have h0 : a / 2 ^ j % 2 = 0 := by clear h1 h2 ih hmod hlt; omega
      rw [h0, Nat.mul_zero, Nat.add_zero] at hmod
      obtain ⟨r, hr, h3⟩ := ih (j + 1) m (by clear h1 h2 ih hmod hlt; omega) (by clear h1 h2 ih hmod hlt; omega) (by rw [hmod]; exact h1) (by rw [hmod]; exact h2)
      refine ⟨r, Ev.step (fun k => ?_) hr, h3⟩
      rw [ig.l0, if_pos (by clear h1 h2 ih hmod hlt; omega), if_pos (by clear h1 h2 ih hmod hlt; omega), hs, h0, if_neg (by decide), hw]
theorem Cz (a : Nat) (ha : a < 4294967296) (h0 : a ≠ 0) : ∃ r : Nat, Ev (fun k => ig.f k (a : Int)) (r : Int) ∧ 1 ≤ r ∧ r ≤ 32 ∧ a < 2 ^ r ∧ 2 ^ (r - 1) ≤ a := by
  obtain ⟨r, h1, h2, h3, h4⟩ := zT a ha 32 0 0 (by decide) (Nat.le_refl _) (by simp [Nat.mod_one]) (.inl rfl)
  refine ⟨r, h1, ?_, h2, h3, ?_⟩
  · cases r with
    | zero => simp at h3; exact absurd h3 h0
    | succ r => omega
  · rcases h4 with rfl | h4
    · simp at h3; exact absurd h3 h0
    · exact h4
end Go.Proofs.YthfphdbebnkdpaaDoor.Pn
end
section
set_option linter.unusedVariables false
set_option linter.unusedSimpArgs false
namespace Go.Proofs.YthfphdbebnkdpaaDoor.Pn
open Go.Proofs.YthfphdbebnkdpaaDoor.P Go.Proofs.YthfphdbebnkdpaaDoorW.aZ Go.Proofs.YthfphdbebnkdpaaDoorW.bL Go.RowKit
theorem CB (a j : Nat) (ha : a < 4294967296) (h : j ≤ 32) : shl .u64 (a : Int) (j : Int) = ((a * 2 ^ j : Nat) : Int) := by
  unfold shl
  rw [Int.toNat_natCast, show IntKind.u64.bits = 64 from rfl, Nat.min_eq_left (by omega), mD]
  have h1 : 2 ^ j ≤ 2 ^ 32 := Nat.pow_le_pow_right (by decide) h
  have h2 : a * 2 ^ j ≤ 4294967295 * 4294967296 := Nat.mul_le_mul (by omega) h1
  have h3 : (a : Int) * 2 ^ j = ((a * 2 ^ j : Nat) : Int) := by simp
  rw [h3]
  generalize a * 2 ^ j = p at *
  omega
theorem xw (X : Nat) : (X : Int) / 4294967296 = ((X / 4294967296 : Nat) : Int) := by omega
theorem uU (X : Nat) : (X : Int) % 4294967296 = ((X % 4294967296 : Nat) : Int) := by omega
theorem Ba (i : Nat) (h : i ≤ 1000000) : wrap64 ((i : Int) + 1) = ((i + 1 : Nat) : Int) := by unfold wrap64; omega
theorem Bb (i : Nat) (h : i ≤ 1000000) : wrap64 ((i : Int) + 0) = (i : Int) := by unfold wrap64; omega
theorem yB (s : Nat) (hs : s < 32) : wrap64 (Int.tdiv (s : Int) 32) = 0 := by
  rw [Int.tdiv_eq_ediv_of_nonneg (by omega)]; unfold wrap64; omega
theorem Bc (s : Nat) (hs : s < 32) : Int.tmod (s : Int) 32 = (s : Int) := by
  rw [Int.tmod_eq_emod_of_nonneg (by omega)]; omega
theorem Bd (s x y : Nat) (hs : s ≤ 32) (hx : x < 2 ^ s) (hy : y % 2 ^ s = 0) (hy2 : y < 4294967296) : Go.bits .or .u64 (x : Int) (y : Int) = ((x + y : Nat) : Int) := by
  have h1 : 2 ^ s ≤ 2 ^ 32 := Nat.pow_le_pow_right (by decide) hs
  have hx2 : x < 2 ^ 64 := by omega
  have hy3 : y < 2 ^ 64 := by omega
  rw [(bits_nat .u64 64 (by decide) wraps_u64 x y hx2 hy3).2]
  have hq : y = 2 ^ s * (y / 2 ^ s) := by have := Nat.div_add_mod y (2 ^ s); rw [hy, Nat.add_zero] at this; exact this.symm
  have : x ||| y = x + y := by
    rw [Nat.or_comm, Nat.add_comm]
    conv => lhs; rw [hq]
    conv => rhs; rw [hq]
    exact (Nat.two_pow_add_eq_or_of_lt hx (y / 2 ^ s)).symm
  rw [this]
theorem zU (vA vB vC P Q q R D X : Nat) (h1 : vB + P * q = vC + P * (q + R)) (h2 : vA = vB + Q * D) (hQ : Q = P * 4294967296) (e1 : 4294967296 * D + R = X) : vA = vC + P * X := by
  subst hQ
  subst e1
  rw [Nat.mul_add] at h1
  rw [h2, Nat.mul_add, ← Nat.mul_assoc]
  omega
theorem Be (l : List Int) (hl : OKL l) (hlen : l.length ≤ 1000000) (s : Nat) (hs : s < 32) (d : Nat) :
    ∀ (i : Nat) (p : List Int), i + d = l.length → p.length = l.length + 1 → OKL p → (∀ j, i < j → p.getD j 0 = 0) → (p.getD i 0).toNat < 2 ^ s → vl p = vl (l.take i) * 2 ^ s →
      Ev (fun k => fu.l0 k (s : Int) p l (l.length : Int) (i : Int)) (dg (vl l * 2 ^ s), 0) := by
  induction d with
  | zero =>
    intro i p hi hp hok hz hc hv
    obtain rfl : i = l.length := by clear hv hc; omega
    rw [List.take_length] at hv
    have ht := rz p (by clear hv hc; omega)
    rw [nS hok, hv] at ht
    refine Ev.step (f := fun k => (eu.f k p).bind fun t109 => some (t109, (0 : Int))) (fun k => ?_) (Ev.bind (f := fun _ t109 => some (t109, (0 : Int))) ht (Ev.now _))
    clear hv hc ht
    rw [fu.l0, if_neg (by omega)]
  | succ d ih =>
    intro i p hi hp hok hz hc hv
    have hil : i < l.length := by clear hv hc ih hz; omega
    have hip : i < p.length := by clear hv hc ih hz; omega
    have hip1 : i + 1 < p.length := by clear hv hc ih hz; omega
    have hd1 : i + 1 + d = l.length := by clear hv hc ih hz; omega
    have hib : i ≤ 1000000 := by clear hv hc ih hz; omega
    have hs32 : s ≤ 32 := Nat.le_of_lt hs
    have z0 : (0 : Int) ≤ (i : Int) := Int.natCast_nonneg _
    have z1 : (i : Int) < (l.length : Int) := Int.ofNat_lt.2 hil
    have z2 : (i : Int) < (p.length : Int) := Int.ofNat_lt.2 hip
    have z3 : ((i + 1 : Nat) : Int) < (p.length : Int) := Int.ofNat_lt.2 hip1
    have z4 : (0 : Int) ≤ ((i + 1 : Nat) : Int) := Int.natCast_nonneg _
    have z5 : (0 : Int) ≤ (s : Int) := Int.natCast_nonneg _
    have n1 : i ≠ i + 1 := Nat.ne_of_lt (Nat.lt_succ_self i)
    obtain ⟨ex, bx⟩ := lU hl i
    obtain ⟨ep, bp⟩ := lU hok i
    have htd := yB s hs
    have htm := Bc s hs
    have hw0 := Bb i hib
    have hw1 := Ba i hib
    have hsh := CB _ s bx hs32
    rw [← ex] at hsh
    have hs2 : 2 ^ s * 2 ^ (32 - s) = 4294967296 := by rw [← Nat.pow_add, Nat.add_sub_cancel' hs32]
    have hp0 : 0 < 2 ^ s := Nat.pow_pos (by decide)
    have hlo : (l.getD i 0).toNat * 2 ^ s % 4294967296 % 2 ^ s = 0 := by
      rw [← hs2, Nat.mod_mul_right_mod]; exact Nat.mul_mod_left _ _
    have hhi : (l.getD i 0).toNat * 2 ^ s / 4294967296 < 2 ^ s := Nat.div_lt_of_lt_mul (Nat.mul_lt_mul_of_pos_right bx hp0)
    have hlt2 : (l.getD i 0).toNat * 2 ^ s % 4294967296 < 4294967296 := Nat.mod_lt _ (by decide)
    have hor := Bd s (p.getD i 0).toNat ((l.getD i 0).toNat * 2 ^ s % 4294967296) hs32 hc hlo hlt2
    rw [← ep] at hor
    have htm2 : Int.tmod (((l.getD i 0).toNat * 2 ^ s : Nat) : Int) 4294967296 = (((l.getD i 0).toNat * 2 ^ s % 4294967296 : Nat) : Int) := by
      rw [Int.tmod_eq_emod_of_nonneg (Int.natCast_nonneg _)]
      exact uU _
    have hdv : (((l.getD i 0).toNat * 2 ^ s : Nat) : Int) / 4294967296 = (((l.getD i 0).toNat * 2 ^ s / 4294967296 : Nat) : Int) := xw _
    have hsum : (p.getD i 0).toNat + (l.getD i 0).toNat * 2 ^ s % 4294967296 < 4294967296 := by
      have h1 := Nat.div_add_mod ((l.getD i 0).toNat * 2 ^ s % 4294967296) (2 ^ s)
      rw [hlo, Nat.add_zero] at h1
      have h2 : (l.getD i 0).toNat * 2 ^ s % 4294967296 / 2 ^ s < 2 ^ (32 - s) := Nat.div_lt_of_lt_mul (by rw [hs2]; exact hlt2)
      have h3 : 2 ^ s * ((l.getD i 0).toNat * 2 ^ s % 4294967296 / 2 ^ s + 1) ≤ 2 ^ s * 2 ^ (32 - s) := Nat.mul_le_mul_left _ h2
      rw [hs2, Nat.mul_add, h1, Nat.mul_one] at h3
      clear hv ih hz h1 h2 hor hsh htm2 hdv hlo hhi hs2 z0 z1 z2 z3 z4 z5 n1 hib hd1 hip hip1 hil hi hp hlen hs hs32 htd htm hw0 hw1 ex bx ep bp hlt2
      omega
    have hset1 := rD p i ((((p.getD i 0).toNat + (l.getD i 0).toNat * 2 ^ s % 4294967296 : Nat) : Int)) hip
    have hset2 := rD (p.set i ((((p.getD i 0).toNat + (l.getD i 0).toNat * 2 ^ s % 4294967296 : Nat) : Int))) (i + 1) ((((l.getD i 0).toNat * 2 ^ s / 4294967296 : Nat) : Int)) (by rw [List.length_set]; exact hip1)
    rw [getD_set_ne _ _ _ _ n1, hz (i + 1) (Nat.lt_succ_self i)] at hset2
    have htl := jR l hl i
    refine Ev.step (fun k => ?_) (ih (i + 1) ((p.set i ((((p.getD i 0).toNat + (l.getD i 0).toNat * 2 ^ s % 4294967296 : Nat) : Int))).set (i + 1) ((((l.getD i 0).toNat * 2 ^ s / 4294967296 : Nat) : Int))) hd1 (by rw [List.length_set, List.length_set]; exact hp) (mJ (mJ hok _ (Int.natCast_nonneg _) (oK hsum)) _ (Int.natCast_nonneg _) (oK (Nat.lt_of_lt_of_le hhi (by have := Nat.pow_le_pow_right (show 0 < 2 by decide) hs32; exact this)))) (fun j hj => ?_) ?_ ?_)
    · clear hv hc ih hz htl hset1 hset2 hlo hhi hs2
      rw [fu.l0, if_pos z1, if_pos z0, if_pos z1, htm, if_pos z5, htd, hw0, if_pos z0, if_pos z2, hw1, if_pos z4, if_pos z3, gZ, gZ, hsh, htm2, hor, hdv, Int.toNat_natCast, Int.toNat_natCast]
    · rw [getD_set_ne _ _ _ _ (Nat.ne_of_lt hj), getD_set_ne _ _ _ _ (Nat.ne_of_lt (Nat.lt_of_succ_lt hj))]; exact hz j (Nat.lt_of_succ_lt hj)
    · rw [List.getD_eq_getElem?_getD, List.getElem?_set_self (by rw [List.length_set]; exact hip1)]
      exact Nat.lt_of_le_of_lt (Nat.le_of_eq (Int.toNat_natCast _)) hhi
    · rw [htl, Nat.add_mul, ← hv, Nat.mul_assoc]
      rw [Int.toNat_natCast] at hset1
      rw [Int.toNat_zero, Nat.mul_zero, Nat.add_zero, Int.toNat_natCast] at hset2
      exact zU _ _ _ _ _ _ _ _ _ hset1 hset2 (Nat.pow_succ ..) (Nat.div_add_mod _ _)
theorem sI (s : Nat) (hs : s < 32) : lV.f (s : Int) = some 0 := by
  unfold lV.f
  rw [if_neg (by omega), if_neg (by omega)]
theorem Bf (n s : Nat) (hn : (dg n).length ≤ 1000000) (hs : s < 32) : ∃ e : Int, Ev (fun k => fu.f k (dg n) (s : Int)) (dg (n * 2 ^ s), e) := by
  have htd : wrap64 (Int.tdiv (s : Int) 32) = 0 := by
    rw [Int.tdiv_eq_ediv_of_nonneg (by omega)]; unfold wrap64; omega
  by_cases h0 : n = 0
  · subst h0
    refine ⟨0, ?_⟩
    have hz : ((([] : List Int).length : Int) == 0) = true := rfl
    rw [iL, Nat.zero_mul, iL]
    refine Ev.congr (fun k => ?_) (Ev.step (g := fun k => fu.j0 k [] (s : Int) 0 true) (f := fun _ => some ([], 0)) (fun k => ?_) (Ev.now _))
    · rw [fu.f, sI s hs, Option.bind_some, if_pos rfl, hz]
    · rw [fu.j0, if_pos rfl]
  · have hlen : (dg n).length ≠ 0 := by intro h5; exact h0 (pO.1 (List.eq_nil_of_length_eq_zero h5))
    refine ⟨0, ?_⟩
    have hz : (((dg n).length : Int) == 0) = false := by rw [beq_eq_false_iff_ne]; omega
    have hw : wrap64 (wrap64 (((dg n).length : Int) + 0) + 1) = (((dg n).length + 1 : Nat) : Int) := by unfold wrap64; omega
    have h := Be (dg n) (kZ n) hn s hs (dg n).length 0 (List.replicate ((dg n).length + 1) 0) (Nat.zero_add _) (by simp) (oI _) (fun j _ => qP _ j) (by rw [qP]; exact Nat.pow_pos (by decide)) (by simp [vl, uM])
    rw [mq] at h
    refine Ev.congr (fun k => ?_) (Ev.step (g := fun k => fu.j0 k (dg n) (s : Int) 0 false) (fun k => ?_) h)
    · rw [fu.f, sI s hs, Option.bind_some, if_pos rfl, hz]
    · rw [fu.j0, if_neg (by decide), htd, hw, if_pos (by omega), if_pos (by omega), Int.toNat_natCast]
      rfl
theorem CE (m s : Nat) (hs : s ≤ 32) : ((m % 4294967296 + m / 4294967296 % 4294967296 * 4294967296) / 2 ^ s) % 4294967296 = m / 2 ^ s % 4294967296 := by
  have h1 : m % 4294967296 + m / 4294967296 % 4294967296 * 4294967296 = m % (4294967296 * 4294967296) := by rw [Nat.mod_mul, Nat.mul_comm (m / 4294967296 % 4294967296)]
  rw [h1]
  have h2 : (4294967296 : Nat) * 4294967296 = 2 ^ s * (2 ^ (32 - s) * 4294967296) := by
    rw [← Nat.mul_assoc, ← Nat.pow_add, Nat.add_sub_cancel' hs]
  rw [h2, Nat.mod_mul_right_div_self, Nat.mod_mul_left_mod]
theorem yC (q : Nat) : ∀ (L : Nat) (p : List Int), p.length = L → OKL p → (∀ j, j < L → p.getD j 0 = ((q / 4294967296 ^ j % 4294967296 : Nat) : Int)) → vl p = q % 4294967296 ^ L := by
  intro L
  induction L generalizing q with
  | zero => intro p hp _ _; rw [List.eq_nil_of_length_eq_zero hp, Nat.pow_zero, Nat.mod_one]; rfl
  | succ L ih =>
    intro p hp hok h
    cases p with
    | nil => simp at hp
    | cons x p =>
      rw [p8] at hok
      have h0 := h 0 (Nat.succ_pos _)
      rw [List.getD_cons_zero, Nat.pow_zero, Nat.div_one] at h0
      have h1 := ih (q / 4294967296) p (by simpa using hp) hok.2 (fun j hj => by
        have h2 := h (j + 1) (Nat.succ_lt_succ hj)
        rw [List.getD_cons_succ, Nat.pow_succ, Nat.mul_comm, ← Nat.div_div_eq_div_mul] at h2
        exact h2)
      rw [vl, h0, Int.toNat_natCast, h1, Nat.pow_succ, Nat.mul_comm (4294967296 ^ L), Nat.mod_mul]
theorem Bg (n s : Nat) (hs : s < 32) (hn : (dg n).length ≤ 1000000) (d : Nat) :
    ∀ (i : Nat) (p : List Int), i + d = (dg n).length → p.length = (dg n).length → OKL p → (∀ j, j < i → p.getD j 0 = ((n / 2 ^ s / 4294967296 ^ j % 4294967296 : Nat) : Int)) →
      Ev (fun k => fw.l0 k (dg n) (s : Int) p ((dg n).length : Int) (i : Int)) (dg (n / 2 ^ s), 0) := by
  induction d with
  | zero =>
    intro i p hi hp hok hd
    obtain rfl : i = (dg n).length := hi
    have hv := yC (n / 2 ^ s) (dg n).length p hp hok hd
    rw [Nat.mod_eq_of_lt (Nat.lt_of_le_of_lt (Nat.div_le_self _ _) (qL n))] at hv
    have ht := rz p (by rw [hp]; exact Nat.le_trans hn (by decide))
    rw [nS hok, hv] at ht
    refine Ev.step (f := fun k => (eu.f k p).bind fun t109 => some (t109, (0 : Int))) (fun k => ?_) (Ev.bind (f := fun _ t109 => some (t109, (0 : Int))) ht (Ev.now _))
    rw [fw.l0, if_neg (Int.lt_irrefl _)]
  | succ d ih =>
    intro i p hi hp hok hd
    have hil : i < (dg n).length := by clear ih hd; omega
    have hip : i < p.length := by rw [hp]; exact hil
    have hib : i ≤ 1000000 := Nat.le_trans (Nat.le_of_lt hil) hn
    have hd1 : i + 1 + d = (dg n).length := by clear ih hd; omega
    have z0 : (0 : Int) ≤ (i : Int) := Int.natCast_nonneg _
    have z1 : (i : Int) < ((dg n).length : Int) := Int.ofNat_lt.2 hil
    have z2 : (i : Int) < (p.length : Int) := Int.ofNat_lt.2 hip
    have z5 : (0 : Int) ≤ (s : Int) := Int.natCast_nonneg _
    have htd := yB s hs
    have htm := Bc s hs
    have hw0 := Bb i hib
    have hw1 := Ba i hib
    have hx : n / 4294967296 ^ i % 4294967296 < 4294967296 := Nat.mod_lt _ (by decide)
    have hy : n / 4294967296 ^ (i + 1) % 4294967296 < 4294967296 := Nat.mod_lt _ (by decide)
    have hor := Cx _ _ hy hx
    have e2 : n / 4294967296 ^ (i + 1) = n / 4294967296 ^ i / 4294967296 := by rw [Nat.pow_succ, Nat.div_div_eq_div_mul]
    have e3 : n / 2 ^ s / 4294967296 ^ i = n / 4294967296 ^ i / 2 ^ s := by rw [Nat.div_div_eq_div_mul, Nat.div_div_eq_div_mul, Nat.mul_comm]
    have hcomm : Go.bits .or .u64 (((n / 4294967296 ^ i % 4294967296 : Nat)) : Int) (IntKind.u64.wrap (((n / 4294967296 ^ (i + 1) % 4294967296 : Nat) : Int) * 4294967296)) = ((n / 4294967296 ^ i % 4294967296 + n / 4294967296 ^ (i + 1) % 4294967296 * 4294967296 : Nat) : Int) := by
      rw [mD, show (((n / 4294967296 ^ (i + 1) % 4294967296 : Nat) : Int) * 4294967296) % 18446744073709551616 = ((n / 4294967296 ^ (i + 1) % 4294967296 * 4294967296 : Nat) : Int) from by
        generalize n / 4294967296 ^ (i + 1) % 4294967296 = y at hy
        clear hor e2 ih hd; omega]
      rw [(bits_nat .u64 64 (by decide) wraps_u64 _ _ (Nat.lt_trans hx (by decide)) (by
        generalize n / 4294967296 ^ (i + 1) % 4294967296 = y at hy
        clear hor e2 ih hd; omega)).2]
      have := Nat.two_pow_add_eq_or_of_lt (i := 32) hx (n / 4294967296 ^ (i + 1) % 4294967296)
      generalize n / 4294967296 ^ (i + 1) % 4294967296 = y at this ⊢
      generalize n / 4294967296 ^ i % 4294967296 = x at this ⊢
      rw [Nat.or_comm, Nat.mul_comm y, Nat.add_comm x]
      exact congrArg (fun z : Nat => (z : Int)) this.symm
    have hsh : ∀ z : Nat, shr .u64 (z : Int) (s : Int) = ((z / 2 ^ s : Nat) : Int) := fun z => zh z s (Nat.le_of_lt (Nat.lt_trans hs (by decide)))
    have hdig := CE (n / 4294967296 ^ i) s (Nat.le_of_lt hs)
    rw [← e2, ← e3] at hdig
    have hval : n / 2 ^ s / 4294967296 ^ i % 4294967296 < 4294967296 := Nat.mod_lt _ (by decide)
    have ht : ∀ z : Nat, Int.tmod (z : Int) 4294967296 = ((z % 4294967296 : Nat) : Int) := fun z => by rw [Int.tmod_eq_emod_of_nonneg (Int.natCast_nonneg _)]; exact uU _
    refine Ev.step (fun k => ?_) (ih (i + 1) (p.set i ((n / 2 ^ s / 4294967296 ^ i % 4294967296 : Nat) : Int)) hd1 (by rw [List.length_set]; exact hp) (mJ hok _ (Int.natCast_nonneg _) (oK hval)) (fun j hj => ?_))
    · clear ih hd
      rw [fw.l0, if_pos z1, htd, hw0, if_pos z0, if_pos z1, hw1, y7, si]
      simp only [Option.bind_some]
      rw [htm, if_pos z5, if_pos z0, if_pos z2, gZ, si, hcomm, hsh, ht, hdig, Int.toNat_natCast]
    · by_cases hji : j = i
      · subst hji
        rw [List.getD_eq_getElem?_getD, List.getElem?_set_self hip]; rfl
      · rw [getD_set_ne _ _ _ _ (Ne.symm hji)]
        exact hd j (Nat.lt_of_le_of_ne (Nat.le_of_lt_succ hj) hji)
theorem Ez (n s : Nat) (hn : (dg n).length ≤ 1000000) (hs : s < 32) : ∃ e : Int, Ev (fun k => fw.f k (dg n) (s : Int)) (dg (n / 2 ^ s), e) := by
  have htd := yB s hs
  by_cases h0 : n = 0
  · subst h0
    refine ⟨0, ?_⟩
    rw [iL, Nat.zero_div, iL]
    refine Ev.congr (fun k => ?_) (Ev.step (g := fun k => fw.j0 k [] (s : Int) 0 true) (f := fun _ => some ([], 0)) (fun k => ?_) (Ev.now _))
    · rw [fw.f, sI s hs, Option.bind_some, if_pos rfl, htd]; rfl
    · rw [fw.j0, if_pos rfl]
  · have hlen : (dg n).length ≠ 0 := by intro h5; exact h0 (pO.1 (List.eq_nil_of_length_eq_zero h5))
    refine ⟨0, ?_⟩
    have hz : decide (((dg n).length : Int) ≤ 0) = false := decide_eq_false (by omega)
    have hw : wrap64 (((dg n).length : Int) - 0) = ((dg n).length : Int) := by unfold wrap64; omega
    have h := Bg n s hs hn (dg n).length 0 (List.replicate (dg n).length 0) (Nat.zero_add _) (by simp) (oI _) (fun j hj => absurd hj (Nat.not_lt_zero j))
    refine Ev.congr (fun k => ?_) (Ev.step (g := fun k => fw.j0 k (dg n) (s : Int) 0 false) (fun k => ?_) h)
    · rw [fw.f, sI s hs, Option.bind_some, if_pos rfl, htd, hz]
    · rw [fw.j0, if_neg (by decide), htd, hw, if_pos (by omega), if_pos (by omega), Option.bind_some, Int.toNat_natCast, List.length_replicate]
      rfl
end Go.Proofs.YthfphdbebnkdpaaDoor.Pn
end
section
namespace Go.Proofs.YthfphdbebnkdpaaDoor.P
open Go.RowKit Go.Proofs.YthfphdbebnkdpaaDoorW.aZ Go.Proofs.YthfphdbebnkdpaaDoorW.bL Go.Proofs.YthfphdbebnkdpaaDoorW.dC
attribute [local go_sem] dZ d9 fA fB dH dI ed ek
set_option linter.unusedVariables false
set_option linter.unusedSimpArgs false
def mM.f (l0 : List Int) (a1 : Int) : Option (Int) := if a1 ≥ (l0.length : Int) then (some 0) else (if 0 ≤ a1 then (if a1 < (l0.length : Int) then (some (rd l0 a1)) else (none)) else (none))
set_option maxHeartbeats 8000000 in
set_option maxRecDepth 100000 in
theorem mM.calls (A0 : Option Addr) (c0 : Nat) (l0 : List Int) (a1 : Int) (r : Int) (w : World) (hr0 : Kd.C (Kd.int .u64) w A0 l0.length l0) (hc0 : l0.length ≤ c0) (h : mM.f l0 a1 = some r) :
  Calls Tryd.prog 121 #[.slice A0 l0.length c0, .int .i64 a1] w fun e w' => e = .returned (.int .u64 r) ∧ bZ w w' := by
 have HR0 := ae.mk hr0
 have HC0 := ae.mk hc0
 clear hr0 hc0
 have H : (if a1 ≥ (l0.length : Int) then (some 0) else (if 0 ≤ a1 then (if a1 < (l0.length : Int) then (some (rd l0 a1)) else (none)) else (none))) = some r := h
 clear h
 by_cases c3 : a1 ≥ (l0.length : Int)
 ·rw [if_pos c3] at H
  have nE : decide ((l0.length : Int) ≤ a1) = true := decide_eq_true c3
  clear c3
  obtain rfl := Option.some.inj H
  go_enter Tryd.func121, Tryd.ntmps121
  go_wp2
  go_ret
  exact ⟨by first | rfl | (simp; done) | (simp [*]; done), by repeat (first | exact bZ.refl _ | apply bZ.step)⟩
 ·rw [if_neg c3] at H
  have nE : decide ((l0.length : Int) ≤ a1) = false := decide_eq_false c3
  clear c3
  by_cases c4 : 0 ≤ a1
  ·rw [if_pos c4] at H
   have ll : decide (0 ≤ a1) = true := decide_eq_true c4
   clear c4
   by_cases c5 : a1 < (l0.length : Int)
   ·rw [if_pos c5] at H
    have jW : decide (a1 < (l0.length : Int)) = true := decide_eq_true c5
    clear c5
    obtain rfl := Option.some.inj H
    have p101 : 0 ≤ (a1 : Int) := of_decide_eq_true qa
    have q101 : a1 < (l0.length : Int) := of_decide_eq_true qa
    obtain ⟨ad101, e101, hx101_0⟩ := Kd.gH HR0.out a1 p101 q101
    cases e101
    replace p101 := eq_true p101
    replace q101 := eq_true q101
    go_enter Tryd.func121, Tryd.ntmps121
    go_wp2
    go_ret
    exact ⟨by first | rfl | (simp; done) | (simp [*]; done), by repeat (first | exact bZ.refl _ | apply bZ.step)⟩
   ·rw [if_neg c5] at H
    exact absurd H (by simp)
  ·rw [if_neg c4] at H
   exact absurd H (by simp)
end Go.Proofs.YthfphdbebnkdpaaDoor.P
end
section
namespace Go.Proofs.YthfphdbebnkdpaaDoor.P
open Go.RowKit Go.Proofs.YthfphdbebnkdpaaDoorW.aZ Go.Proofs.YthfphdbebnkdpaaDoorW.bL Go.Proofs.YthfphdbebnkdpaaDoorW.dC
attribute [local go_sem] dZ d9 fA fB dH dI ed ek
set_option linter.unusedVariables false
set_option linter.unusedSimpArgs false
def dP.l0 : Nat → List Int → Int → List Int → Int → Int → Int → Option (List Int)
 | 0, _, _, _, _, _, _ => none
 | k + 1, x0, x1, x2, x6, x10, x11 => if x11 < x10 then (if 0 ≤ (wrap64 (x1 + x11)) then (if (wrap64 (x1 + x11)) < (x0.length : Int) then ((mM.f x2 x11).bind fun dK => ((lm.f (rd x0 (wrap64 (x1 + x11))) dK x6).bind fun kN => (dP.l0 k (x0.set ((wrap64 (x1 + x11)) : Int).toNat kN.1) x1 x2 kN.2 x10 (wrap64 (x11 + 1))))) else (none)) else (none)) else (some x0)
def dP.f (k : Nat) (l0 : List Int) (a1 : Int) (l2 : List Int) : Option (List Int) := dP.l0 k l0 a1 l2 0 (wrap64 ((l2.length : Int) + 1)) 0
def dP.T4 : Bool × List (List Nat × List Nat) := (true, [([], []), ([], []), ([], []), ([1, 2], [1, 2]), ([], []), ([], []), ([], []), ([5, 6], [5, 6]), ([4, 7], [4, 7]), ([8], [8]), ([], []), ([], []), ([10, 11], [10, 11]), ([], []), ([9, 12, 13, 12], [9, 12, 13]), ([14], [14]), ([15], [15]), ([15], [15]), ([0, 3, 0, 1, 2, 3, 4, 5, 6, 7, 8, 9, 10, 11, 12, 13, 14, 15, 16], [0, 3]), ([18, 16, 14, 0, 1, 2, 3, 4, 5, 6, 7, 8, 9, 10, 11, 12, 13, 14, 15, 16], [16, 18]), ([17, 19, 0, 1, 2, 3, 4, 5, 6, 7, 8, 9, 10, 11, 12, 13, 14, 15, 16, 17, 18, 19], [13, 17])])
def dP.B4 : List Nat := [0, 0, 0, 6, 0, 0, 0, 96, 240, 496, 0, 0, 3072, 0, 16368, 32752, 65520, 65520, 131071, 393215, 1048575]
theorem dP.CF : mi .any (opsOf Tryd.f91 4) = dP.T4 := by kernel_rfl
theorem dP.zi : kJ dP.T4.2 dP.B4 = true := by kernel_rfl
set_option maxHeartbeats 8000000 in
set_option maxRecDepth 100000 in
theorem dP.calls (k : Nat) (P0_ : Nat → Prop) (u9000_ : Value) (l0 : List Int) (a1 : Int) (A2 : Option Addr) (c2 : Nat) (l2 : List Int) (r : List Int) (w0 w : World) (hB : Below w0.heap.size w0 w) (ho0 : Kd.R (Kd.int .u64) 64 w w0.heap.size P0_ u9000_ l0) (hr2 : ∀ W_, Kept w W_ (fun k_ => P0_ k_) → Kd.C (Kd.int .u64) W_ A2 l2.length l2) (hc2 : l2.length ≤ c2) (h : dP.f k l0 a1 l2 = some r) :
  Calls Tryd.prog 91 #[u9000_, .int .i64 a1, .slice A2 l2.length c2] w fun e w' => e = .returned (.tuple #[]) ∧ Kd.R (Kd.int .u64) 64 w' w0.heap.size (fun k_ => (P0_ k_ ∨ w.heap.size ≤ k_)) u9000_ r ∧ Below w0.heap.size w0 w' ∧ Kept w w' (fun k_ => P0_ k_) := by
 have HO0 := ae.mk (show Kd.R (Kd.int .u64) 64 w w0.heap.size (fun k_ => (P0_ k_ ∨ w.heap.size ≤ k_)) u9000_ l0 from Kd.bG ho0 (fun k_ hk => (.inl hk)))
 have HR2 := ae.mk hr2
 have HC2 := ae.mk hc2
 clear hr2 hc2
 have HK := ae.mk (Kept.refl w (fun k_ => P0_ k_))
 have HW0 := ae.mk hB.size
 have HB := ae.mk hB
 clear hB
 have H : (dP.l0 k l0 a1 l2 0 (wrap64 ((l2.length : Int) + 1)) 0) = some r := h
 clear h
 have H' := ae.mk H
 clear H
 go_enter Tryd.func91, Tryd.ntmps91
 go_wp2
 go_loopg [6, 11] k (fun kq v6 v11 w' => ∃ (jJ : List Int) (iH : Int) (oG : Int), v6 = .int .u64 iH ∧ v11 = .int .i64 oG ∧ ae (dP.l0 kq jJ a1 l2 iH (wrap64 ((l2.length : Int) + 1)) oG = some r) ∧ ae (kq ≤ k) ∧ ae (Kd.R (Kd.int .u64) 64 w' w0.heap.size (fun k_ => (P0_ k_ ∨ w.heap.size ≤ k_)) u9000_ jJ) ∧ ae (Kept w w' (fun k_ => P0_ k_)) ∧ ae (Below w0.heap.size w0 w'))
 case atStart => exact ⟨(l0), (0), (0), (by first | rfl | (simp; done) | (simp [*]; done)), (by first | rfl | (simp; done) | (simp [*]; done)), H', ⟨Nat.le_refl _⟩, ⟨by (with_reducible repeat (first | apply Kd.bu | apply Kd.bv | apply Kd.bg)); exact HO0.out⟩, ⟨by repeat (first | (with_reducible first | exact HK.out | apply Kept.alloc | apply Kept.drewN | apply Kept.drew) | exact HK.out)⟩, ⟨by repeat (first | (with_reducible first | exact HB.out | apply aM | apply aD | apply aH) | exact HB.out)⟩⟩
 case round =>
  clear H'
  try clear c2
  try clear p2
  obtain ⟨jJ, iH, oG, rfl, rfl, HA, HK1, lh, HK, HB⟩ := hrel
  cases gk with
  | zero => exact absurd HA.out (by simp [dP.l0])
  | succ k1 =>
   have H := HA.out
   clear HA
   simp only [dP.l0] at H
   by_cases c4 : oG < (wrap64 ((l2.length : Int) + 1))
   ·rw [if_pos c4] at H
    have ll : decide (oG < (wrap64 ((l2.length : Int) + 1))) = true := decide_eq_true c4
    clear c4
    obtain ⟨ji5, hji5⟩ : ∃ j_ : Int, (wrap64 (a1 + oG)) = j_ := ⟨_, rfl⟩
    replace H : (if 0 ≤ (ji5) then (if (ji5) < (jJ.length : Int) then ((mM.f l2 oG).bind fun dK => ((lm.f (rd jJ (ji5)) dK iH).bind fun kN => (dP.l0 k1 (jJ.set ((ji5) : Int).toNat kN.1) a1 l2 kN.2 (wrap64 ((l2.length : Int) + 1)) (wrap64 (oG + 1))))) else (none)) else (none)) = some r := by first | (rw [hji5] at H; exact H) | (simp only [hji5] at H ⊢; exact H)
    have hji5w : (IntKind.i64.wrap (a1 + oG)) = ji5 := (gT _).trans hji5
    by_cases c6 : 0 ≤ (ji5)
    ·rw [if_pos c6] at H
     have oJ : decide (0 ≤ (ji5)) = true := decide_eq_true c6
     clear c6
     by_cases c7 : (ji5) < (jJ.length : Int)
     ·rw [if_pos c7] at H
      have uN : decide ((ji5) < (jJ.length : Int)) = true := decide_eq_true c7
      clear c7
      replace H := Option.bind_eq_some_iff.mp H
      obtain ⟨dK, A80, H⟩ := H
      replace H : ((lm.f (rd jJ (ji5)) dK iH).bind fun kN => (dP.l0 k1 (jJ.set ((ji5) : Int).toNat kN.1) a1 l2 kN.2 (wrap64 ((l2.length : Int) + 1)) (wrap64 (oG + 1)))) = some r := H
      have A8 := ae.mk A80
      clear A80
      replace H := Option.bind_eq_some_iff.mp H
      obtain ⟨⟨dR, fQ⟩, A90, H⟩ := H
      replace H : (dP.l0 k1 (jJ.set ((ji5) : Int).toNat dR) a1 l2 fQ (wrap64 ((l2.length : Int) + 1)) (wrap64 (oG + 1))) = some r := H
      have A9 := ae.mk A90
      clear A90
      obtain ⟨y105, hy105⟩ : ∃ y_ : List Int, y_ = (jJ.set ((ji5) : Int).toNat dR) := ⟨_, rfl⟩
      replace H : (dP.l0 k1 y105 a1 l2 fQ (wrap64 ((l2.length : Int) + 1)) (wrap64 (oG + 1))) = some r := by first | (rw [hy105]; with_reducible exact H) | (have H2_ := (Option.bind_some _ _).symm.trans H; rw [hy105]; with_reducible exact H2_) | (have H2_ := (Option.bind_some _ _).symm.trans H; with_reducible exact H2_) | with_reducible exact H | (rw [hy105]; exact H) | exact H
      have Ny105 := ae.mk hy105
      clear hy105
      have H' := ae.mk H
      clear H
      try go_wp2
      replace lh := ae.mk (Kd.bg lh.out)
      replace HK := ae.mk (Kept.drew HK.out)
      replace HB := ae.mk (aH HB.out)
      obtain ⟨yz, xu, wL⟩ := Kd.bD lh.out
      (first | subst wL | (injection wL with f1_ f2_ f3_; have f4_ := f1_.symm; have f5_ := f3_.symm; clear f1_ f2_ f3_; subst f4_; subst f5_))
      have p101 : 0 ≤ ((ji5) : Int) := of_decide_eq_true qa
      have q101 : (ji5) < (jJ.length : Int) := of_decide_eq_true qa
      obtain ⟨ad101, e101, hx101_0⟩ := Kd.gH (Kd.ak lh.out).2.2 (ji5) p101 q101
      cases e101
      replace p101 := eq_true p101
      replace q101 := eq_true q101
      refine j6 (n := 21) (S := fun w' => w'.cell? (ad101.add ((ji5)).toNat) = some (.int .u64 (rd jJ (ji5)))) (ds := [19]) #[bF,bF,bF,bF,bF,bF,bF,bF,bF,bF,bF,bF,bF,bF,bF,bF,bF,bF,bF,bF,bF] (by kernel_rfl) rfl rfl (hx101_0) (fun hHeld => ?_); refine iQ dP.CF dP.zi (fun HT_ HW_ => ?_)
      generalize wr.drew = w11 at lh HK HB hx101_0 hHeld ⊢
      refine cZ 0 (some 15) HT_ ?_
      refine cZ 1 (some 16) HT_ ?_
      refine cZ 2 (some 17) HT_ ?_
      refine cZ 3 (some 18) HT_ ?_
      refine cZ 4 (some 19) HT_ ?_
      refine cZ 5 (some 20) HT_ ?_
      refine cZ 6 (some 21) HT_ ?_
      refine cZ 7 (some 22) HT_ ?_
      refine cZ 8 (some 23) HT_ ?_
      refine cZ 10 (some 25) HT_ ?_
      refine cZ 11 (some 26) HT_ ?_
      refine cZ 13 (some 28) HT_ ?_
      refine oV (i := 9) (N := some 24) (v := ?_) (a' := ?_) #[bT,bT,bT,bT,bT,bT,bT,bT,bT,bT,bT,bT,bF,bT,bF,bF,bF,bF,bF,bF,bF] rfl rfl (r9 HT_.out HW_.out (by kernel_rfl)) (fun _ _ _ h => h) (Or.inl ⟨by rfl, ?_⟩) hHeld ?_ ?_
      rotate_left
      ·intro w' s0
       go_simp
       with_reducible rfl
      rotate_left
      ·exact qJ
      refine gU 12 (some 27) HT_ (fun K hK => ?_)
      refine fo Tryd.func121 #[.slice A2 l2.length c2, .int .i64 oG] ?_
      with_reducible refine (mM.calls _ _ l2 oG dK _ ?aU ?aV A8.out).mono ?_
      (case aU => exact Kd.uK HR2.out (by repeat (first | (with_reducible first | exact HK.out | apply Kept.alloc | apply Kept.drewN | apply Kept.drew) | exact HK.out)))
      (case aV => exact HC2.out)
      rintro e w' ⟨rfl, ⟨nd, rfl⟩⟩
      refine ⟨_, rfl, ?_⟩
      refine hK.out _ _ (hHeld) (fun hHeld => ?_)
      clear hK K
      refine eY (some 27) ?_
      refine gU 14 (some 29) HT_ (fun K hK => ?_)
      refine wY Tryd.func53 (by kernel_rfl) rfl #[.int .u64 (rd jJ (ji5)), .int .u64 dK, .int .u64 iH] (by rfl) rfl rfl (by (try simp only [List.map_toArray, List.map_cons, List.map_nil]); first | done | (simp only [hji5]; rfl) | rfl | (simp only [List.length_drop, List.length_take]; rfl)) ?_
      with_reducible refine (lm.calls (rd jJ (ji5)) dK iH dR fQ _ A9.out).mono ?_
      rintro e w' ⟨rfl, ⟨nd, rfl⟩⟩
      refine ⟨_, rfl, ?_⟩
      have p10 : 0 ≤ ((ji5) : Int) := of_decide_eq_true qa
      have q10 : ((ji5) : Int) < ((jJ.length : Int) : Int) := of_decide_eq_true qa
      obtain ⟨go10, wM, uw, F7, gl10, cl10, HG10⟩ := Kd.nP lh.out (by omega)
      (first | cases uw | (injection uw with ea_ en_ ec_; (first | subst ea_ | (injection ea_ with ea_; subst ea_)); subst ec_; clear en_))
      have Js := ae.mk F7
      have GG10 := ae.mk HG10
      clear F7 gl10 HG10
      have HMgo10 := ae.mk (show (P0_ go10 ∨ w.heap.size ≤ go10) from (lh.out.1 _ rfl))
      (first | simp only [add_plain] at hx101_0 | skip)
      obtain ⟨hx10_0, hf10_0⟩ := Kd.jk 0 lh.out ((ji5) : Int) p10 q10
      replace p10 := eq_true p10
      replace q10 := eq_true q10
      have HP13 := Kd.xY lh.out ((ji5) : Int) dR
      rw [← Ny105.out] at HP13
      have HQ13 := ae.mk HP13
      clear HP13
      refine hK.out _ _ (hHeld) (fun hHeld => ?_)
      clear hK K
      refine eY (some 29) ?_
      refine cZ 15 (some 14) HT_ ?_
      refine cZ 16 (some 30) HT_ ?_
      refine cZ 17 (some 31) HT_ ?_
      refine cZ 18 (some 32) HT_ ?_
      refine vW (i := 19) (N := none) #[bT,bT,bT,bT,bT,bT,bT,bT,bT,bT,bT,bT,bT,bT,bT,bT,bT,bT,bT,bT,bF] rfl rfl (rT HT_.out (by kernel_rfl)) (by decide) (fun K hK => ?_)
      refine pX (w1 := ?_) (by rfl) rfl ?_ ?_
      rotate_left
      ·go_simp
       rfl
      refine hK.out _ _ ?_
      clear hK K
      refine cZ 20 (some 6) HT_ ?_
      refine nM HT_ ?_
      try go_wp2
      go_roundg k1
      case measure => have := HK1.out; omega
      case rel => exact ⟨(y105), (fQ), (wrap64 (oG + 1)), (by first | rfl | (simp; done) | (simp [*]; done)), (by first | rfl | (simp; done) | (simp [*]; done)), H', ⟨by have := HK1.out; omega⟩, ⟨by (with_reducible repeat (first | apply Kd.bu | apply Kd.bv | apply Kd.bg)); exact HQ13.out⟩, ⟨by repeat (first | (with_reducible first | exact HK.out | apply Kept.alloc | apply Kept.drewN | apply Kept.drew | refine Kept.setCell ?_ HMgo10.out _) | exact HK.out)⟩, ⟨by repeat (first | (with_reducible first | exact HB.out | apply aM | apply aD | apply aH | refine aQ ?_ Js.out) | exact HB.out)⟩⟩
     ·rw [if_neg c7] at H
      exact absurd H (by simp)
    ·rw [if_neg c6] at H
     exact absurd H (by simp)
   ·rw [if_neg c4] at H
    have ll : decide (oG < (wrap64 ((l2.length : Int) + 1))) = false := decide_eq_false c4
    clear c4
    obtain rfl := Option.some.inj H
    go_wp2
    first | go_end0 | ((try simp only [Exit.inBlock, Exit.then]); refine bodyPost_ret (results_none rfl _ _ _) rfl ?_)
    exact ⟨by first | rfl | (simp [errW_none, errW_some] <;> rfl) | (simp [*, errW_none, errW_some] <;> rfl), by (with_reducible repeat (first | apply Kd.bu | apply Kd.bv | apply Kd.bg)); exact lh.out, by repeat (first | (with_reducible first | exact HB.out | apply aM | apply aD | apply aH) | exact HB.out), by repeat (first | (with_reducible first | exact HK.out | apply Kept.alloc | apply Kept.drewN | apply Kept.drew) | exact HK.out)⟩
end Go.Proofs.YthfphdbebnkdpaaDoor.P
end
section
namespace Go.Proofs.YthfphdbebnkdpaaDoor.P
open Go.RowKit Go.Proofs.YthfphdbebnkdpaaDoorW.aZ Go.Proofs.YthfphdbebnkdpaaDoorW.bL Go.Proofs.YthfphdbebnkdpaaDoorW.dC
attribute [local go_sem] dZ d9 fA fB dH dI ed ek
set_option linter.unusedVariables false
set_option linter.unusedSimpArgs false
mutual
def dA.l0 : Nat → List Int → Int → List Int → Int → Int → Int → Option (Int)
 | 0, _, _, _, _, _, _ => none
 | k + 1, x0, x1, x2, x7, x9, x10 => if x9 ≥ 4294967296 then (dA.j1 k x0 x1 x2 x7 x9 x10 true) else (if 0 ≤ (wrap64 (x7 - 2)) then (if (wrap64 (x7 - 2)) < (x2.length : Int) then (if 0 ≤ (wrap64 ((wrap64 (x1 + x7)) - 2)) then (if (wrap64 ((wrap64 (x1 + x7)) - 2)) < (x0.length : Int) then (dA.j1 k x0 x1 x2 x7 x9 x10 (decide ((Go.bits .or .u64 (IntKind.u64.wrap (x10 * 4294967296)) (rd x0 (wrap64 ((wrap64 (x1 + x7)) - 2)))) < (IntKind.u64.wrap (x9 * (rd x2 (wrap64 (x7 - 2)))))))) else (none)) else (none)) else (none)) else (none))
def dA.j1 : Nat → List Int → Int → List Int → Int → Int → Int → Bool → Option (Int)
 | 0, _, _, _, _, _, _, _ => none
 | k + 1, x0, x1, x2, x7, x9, x10, x63 => if x63 = true then (if 0 ≤ (wrap64 (x7 - 1)) then (if (wrap64 (x7 - 1)) < (x2.length : Int) then (if (IntKind.u64.wrap (x10 + (rd x2 (wrap64 (x7 - 1))))) ≥ 4294967296 then (some (IntKind.u64.wrap (x9 - 1))) else (dA.l0 k x0 x1 x2 x7 (IntKind.u64.wrap (x9 - 1)) (IntKind.u64.wrap (x10 + (rd x2 (wrap64 (x7 - 1))))))) else (none)) else (none)) else (some x9)
end
def dA.f (k : Nat) (l0 : List Int) (a1 : Int) (l2 : List Int) : Option (Int) := if 0 ≤ (wrap64 (a1 + (l2.length : Int))) then (if (wrap64 (a1 + (l2.length : Int))) < (l0.length : Int) then (if 0 ≤ (wrap64 ((wrap64 (a1 + (l2.length : Int))) - 1)) then (if (wrap64 ((wrap64 (a1 + (l2.length : Int))) - 1)) < (l0.length : Int) then (if 0 ≤ (wrap64 ((l2.length : Int) - 1)) then (if (wrap64 ((l2.length : Int) - 1)) < (l2.length : Int) then (if (rd l2 (wrap64 ((l2.length : Int) - 1))) = 0 then (none) else (dA.l0 k l0 a1 l2 (l2.length : Int) (IntKind.u64.wrap (Int.tdiv (Go.bits .or .u64 (IntKind.u64.wrap ((rd l0 (wrap64 (a1 + (l2.length : Int)))) * 4294967296)) (rd l0 (wrap64 ((wrap64 (a1 + (l2.length : Int))) - 1)))) (rd l2 (wrap64 ((l2.length : Int) - 1))))) (Int.tmod (Go.bits .or .u64 (IntKind.u64.wrap ((rd l0 (wrap64 (a1 + (l2.length : Int)))) * 4294967296)) (rd l0 (wrap64 ((wrap64 (a1 + (l2.length : Int))) - 1)))) (rd l2 (wrap64 ((l2.length : Int) - 1)))))) else (none)) else (none)) else (none)) else (none)) else (none)) else (none)
set_option maxHeartbeats 8000000 in
set_option maxRecDepth 100000 in
theorem dA.calls (k : Nat) (A0 : Option Addr) (c0 : Nat) (l0 : List Int) (a1 : Int) (A2 : Option Addr) (c2 : Nat) (l2 : List Int) (r : Int) (w : World) (hr0 : Kd.C (Kd.int .u64) w A0 l0.length l0) (hc0 : l0.length ≤ c0) (hr2 : Kd.C (Kd.int .u64) w A2 l2.length l2) (hc2 : l2.length ≤ c2) (h : dA.f k l0 a1 l2 = some r) :
  Calls Tryd.prog 89 #[.slice A0 l0.length c0, .int .i64 a1, .slice A2 l2.length c2] w fun e w' => e = .returned (.int .u64 r) ∧ bZ w w' := by
 have HR0 := ae.mk hr0
 have HC0 := ae.mk hc0
 clear hr0 hc0
 have HR2 := ae.mk hr2
 have HC2 := ae.mk hc2
 clear hr2 hc2
 have H : (if 0 ≤ (wrap64 (a1 + (l2.length : Int))) then (if (wrap64 (a1 + (l2.length : Int))) < (l0.length : Int) then (if 0 ≤ (wrap64 ((wrap64 (a1 + (l2.length : Int))) - 1)) then (if (wrap64 ((wrap64 (a1 + (l2.length : Int))) - 1)) < (l0.length : Int) then (if 0 ≤ (wrap64 ((l2.length : Int) - 1)) then (if (wrap64 ((l2.length : Int) - 1)) < (l2.length : Int) then (if (rd l2 (wrap64 ((l2.length : Int) - 1))) = 0 then (none) else (dA.l0 k l0 a1 l2 (l2.length : Int) (IntKind.u64.wrap (Int.tdiv (Go.bits .or .u64 (IntKind.u64.wrap ((rd l0 (wrap64 (a1 + (l2.length : Int)))) * 4294967296)) (rd l0 (wrap64 ((wrap64 (a1 + (l2.length : Int))) - 1)))) (rd l2 (wrap64 ((l2.length : Int) - 1))))) (Int.tmod (Go.bits .or .u64 (IntKind.u64.wrap ((rd l0 (wrap64 (a1 + (l2.length : Int)))) * 4294967296)) (rd l0 (wrap64 ((wrap64 (a1 + (l2.length : Int))) - 1)))) (rd l2 (wrap64 ((l2.length : Int) - 1)))))) else (none)) else (none)) else (none)) else (none)) else (none)) else (none)) = some r := h
 clear h
 obtain ⟨ji4, hji4⟩ : ∃ j_ : Int, (wrap64 (a1 + (l2.length : Int))) = j_ := ⟨_, rfl⟩
 replace H : (if 0 ≤ (ji4) then (if (ji4) < (l0.length : Int) then (if 0 ≤ (wrap64 ((ji4) - 1)) then (if (wrap64 ((ji4) - 1)) < (l0.length : Int) then (if 0 ≤ (wrap64 ((l2.length : Int) - 1)) then (if (wrap64 ((l2.length : Int) - 1)) < (l2.length : Int) then (if (rd l2 (wrap64 ((l2.length : Int) - 1))) = 0 then (none) else (dA.l0 k l0 a1 l2 (l2.length : Int) (IntKind.u64.wrap (Int.tdiv (Go.bits .or .u64 (IntKind.u64.wrap ((rd l0 (ji4)) * 4294967296)) (rd l0 (wrap64 ((ji4) - 1)))) (rd l2 (wrap64 ((l2.length : Int) - 1))))) (Int.tmod (Go.bits .or .u64 (IntKind.u64.wrap ((rd l0 (ji4)) * 4294967296)) (rd l0 (wrap64 ((ji4) - 1)))) (rd l2 (wrap64 ((l2.length : Int) - 1)))))) else (none)) else (none)) else (none)) else (none)) else (none)) else (none)) = some r := by first | (rw [hji4] at H; exact H) | (simp only [hji4] at H ⊢; exact H)
 have hji4w : (IntKind.i64.wrap (a1 + (l2.length : Int))) = ji4 := (gT _).trans hji4
 by_cases c5 : 0 ≤ (ji4)
 ·rw [if_pos c5] at H
  have jW : decide (0 ≤ (ji4)) = true := decide_eq_true c5
  clear c5
  by_cases c6 : (ji4) < (l0.length : Int)
  ·rw [if_pos c6] at H
   have oJ : decide ((ji4) < (l0.length : Int)) = true := decide_eq_true c6
   clear c6
   obtain ⟨ji7, hji7⟩ : ∃ j_ : Int, (wrap64 ((ji4) - 1)) = j_ := ⟨_, rfl⟩
   (try (have hji7r := hji7; simp only [hji4] at hji7r))
   (try (have hji7wr := (gT _).trans hji7r))
   replace H : (if 0 ≤ (ji7) then (if (ji7) < (l0.length : Int) then (if 0 ≤ (wrap64 ((l2.length : Int) - 1)) then (if (wrap64 ((l2.length : Int) - 1)) < (l2.length : Int) then (if (rd l2 (wrap64 ((l2.length : Int) - 1))) = 0 then (none) else (dA.l0 k l0 a1 l2 (l2.length : Int) (IntKind.u64.wrap (Int.tdiv (Go.bits .or .u64 (IntKind.u64.wrap ((rd l0 (ji4)) * 4294967296)) (rd l0 (ji7))) (rd l2 (wrap64 ((l2.length : Int) - 1))))) (Int.tmod (Go.bits .or .u64 (IntKind.u64.wrap ((rd l0 (ji4)) * 4294967296)) (rd l0 (ji7))) (rd l2 (wrap64 ((l2.length : Int) - 1)))))) else (none)) else (none)) else (none)) else (none)) = some r := by first | (rw [hji7] at H; exact H) | (simp only [hji7] at H ⊢; exact H)
   have hji7w : (IntKind.i64.wrap ((ji4) - 1)) = ji7 := (gT _).trans hji7
   by_cases c8 : 0 ≤ (ji7)
   ·rw [if_pos c8] at H
    have oZ : decide (0 ≤ (ji7)) = true := decide_eq_true c8
    clear c8
    by_cases c9 : (ji7) < (l0.length : Int)
    ·rw [if_pos c9] at H
     have qc : decide ((ji7) < (l0.length : Int)) = true := decide_eq_true c9
     clear c9
     obtain ⟨ji10, hji10⟩ : ∃ j_ : Int, (wrap64 ((l2.length : Int) - 1)) = j_ := ⟨_, rfl⟩
     (try (have hji10r := hji10; simp only [hji4, hji7] at hji10r))
     (try (have hji10wr := (gT _).trans hji10r))
     replace H : (if 0 ≤ (ji10) then (if (ji10) < (l2.length : Int) then (if (rd l2 (ji10)) = 0 then (none) else (dA.l0 k l0 a1 l2 (l2.length : Int) (IntKind.u64.wrap (Int.tdiv (Go.bits .or .u64 (IntKind.u64.wrap ((rd l0 (ji4)) * 4294967296)) (rd l0 (ji7))) (rd l2 (ji10)))) (Int.tmod (Go.bits .or .u64 (IntKind.u64.wrap ((rd l0 (ji4)) * 4294967296)) (rd l0 (ji7))) (rd l2 (ji10))))) else (none)) else (none)) = some r := by first | (rw [hji10] at H; exact H) | (simp only [hji10] at H ⊢; exact H)
     have hji10w : (IntKind.i64.wrap ((l2.length : Int) - 1)) = ji10 := (gT _).trans hji10
     by_cases c11 : 0 ≤ (ji10)
     ·rw [if_pos c11] at H
      have qB : decide (0 ≤ (ji10)) = true := decide_eq_true c11
      clear c11
      by_cases c12 : (ji10) < (l2.length : Int)
      ·rw [if_pos c12] at H
       have su : decide ((ji10) < (l2.length : Int)) = true := decide_eq_true c12
       clear c12
       by_cases c13 : (rd l2 (ji10)) = 0
       ·rw [if_pos c13] at H
        exact absurd H (by simp)
       ·rw [if_neg c13] at H
        have qg : ((rd l2 (ji10)) == 0) = false := beq_eq_false_iff_ne.mpr c13
        have zk : ((rd l2 (ji10)) != 0) = true := bne_iff_ne.mpr c13
        have H' := ae.mk H
        clear H
        have p101 : 0 ≤ ((ji4) : Int) := of_decide_eq_true qa
        have q101 : (ji4) < (l0.length : Int) := of_decide_eq_true qa
        obtain ⟨ad101, e101, hx101_0⟩ := Kd.gH HR0.out (ji4) p101 q101
        cases e101
        replace p101 := eq_true p101
        replace q101 := eq_true q101
        have p102 : 0 ≤ ((ji7) : Int) := of_decide_eq_true qa
        have q102 : (ji7) < (l0.length : Int) := of_decide_eq_true qa
        obtain ⟨ad102, e102, hx102_0⟩ := Kd.gH HR0.out (ji7) p102 q102
        obtain rfl : ad101 = ad102 := (by injection e102)
        replace p102 := eq_true p102
        replace q102 := eq_true q102
        have p103 : 0 ≤ ((ji10) : Int) := of_decide_eq_true qa
        have q103 : (ji10) < (l2.length : Int) := of_decide_eq_true qa
        obtain ⟨ad103, e103, hx103_0⟩ := Kd.gH HR2.out (ji10) p103 q103
        cases e103
        replace p103 := eq_true p103
        replace q103 := eq_true q103
        have p104 : 0 ≤ ((ji10) : Int) := of_decide_eq_true qa
        have q104 : (ji10) < (l2.length : Int) := of_decide_eq_true qa
        obtain ⟨ad104, e104, hx104_0⟩ := Kd.gH HR2.out (ji10) p104 q104
        obtain rfl : ad103 = ad104 := (by injection e104)
        replace p104 := eq_true p104
        replace q104 := eq_true q104
        go_enter Tryd.func89, Tryd.ntmps89
        go_wp2
        repeat (go_quiet (fail); try go_wp2)
        go_loopg [9, 10] k (fun kq v9 v10 w' => ∃ (fZ : Int) (jA : Int), v9 = .int .u64 fZ ∧ v10 = .int .u64 jA ∧ ae (dA.l0 kq l0 a1 l2 (l2.length : Int) fZ jA = some r) ∧ ae (kq ≤ k) ∧ bZ w w')
        case atStart => exact ⟨(IntKind.u64.wrap (Int.tdiv (Go.bits .or .u64 (IntKind.u64.wrap ((rd l0 (ji4)) * 4294967296)) (rd l0 (ji7))) (rd l2 (ji10)))), (Int.tmod (Go.bits .or .u64 (IntKind.u64.wrap ((rd l0 (ji4)) * 4294967296)) (rd l0 (ji7))) (rd l2 (ji10))), (by first | rfl | (simp; done) | (simp only [← hji4, ← hji7, ← hji10] <;> (first | rfl | simp)) | (simp [*]; done)), (by first | rfl | (simp; done) | (simp only [← hji4, ← hji7, ← hji10] <;> (first | rfl | simp)) | (simp [*]; done)), H', ⟨Nat.le_refl _⟩, by repeat (first | exact bZ.refl _ | apply bZ.step)⟩
        case round =>
         clear H'
         try clear c1
         try clear p1
         try clear q1
         try clear hx1
         try clear c2
         try clear p2
         try clear c5
         try clear jW
         try clear c6
         try clear oJ
         try clear p6
         try clear c8
         try clear oZ
         try clear c9
         try clear qc
         try clear p10
         try clear q10
         try clear hx10
         try clear c11
         try clear qB
         try clear c12
         try clear su
         try clear c13
         try clear qg
         try clear zk
         try clear hx101_0
         try clear hx102_0
         try clear hx103_0
         try clear hx104_0
         try clear p101
         try clear p102
         try clear p103
         try clear p104
         try clear q101
         try clear q102
         try clear q103
         try clear q104
         obtain ⟨fZ, jA, rfl, rfl, HA, HK1, ⟨m1, rfl⟩⟩ := hrel
         cases gk with
         | zero => exact absurd HA.out (by simp [dA.l0])
         | succ k1 =>
          have H := HA.out
          clear HA
          simp only [dA.l0] at H
          have HC14 := ae.mk H
          clear H
          go_upto_region 4 with (fail)
          repeat (go_quiet (fail); go_upto_region 4 with (fail))
          go_cut [63] (fun v63 wc => ∃ (kq : Nat) (wN : Bool), v63 = .bool wN ∧ ae (dA.j1 kq l0 a1 l2 (l2.length : Int) fZ jA wN = some r) ∧ ae (kq ≤ k1) ∧ bZ w wc)
          case first =>
           have H := HC14.out
           clear HC14
           by_cases c15 : fZ ≥ 4294967296
           ·rw [if_pos c15] at H
            have o5 : decide (4294967296 ≤ fZ) = true := decide_eq_true c15
            clear c15
            (first | rw [o5] | (simp only [gT, oW]; rw [o5]) | skip)
            have H' := ae.mk H
            clear H
            go_wp2
            repeat (go_quiet (fail); try go_wp2)
            go_meet
            case rel => exact ⟨_, (true), (by first | rfl | (simp; done) | (simp [*]; done)), H', ⟨by have := HK1.out; first | omega | exact Nat.le_refl _⟩, by repeat (first | exact bZ.refl _ | apply bZ.step)⟩
           ·rw [if_neg c15] at H
            have o5 : decide (4294967296 ≤ fZ) = false := decide_eq_false c15
            clear c15
            (first | rw [o5] | (simp only [gT, oW]; rw [o5]) | skip)
            obtain ⟨ji16, hji16⟩ : ∃ j_ : Int, (wrap64 ((l2.length : Int) - 2)) = j_ := ⟨_, rfl⟩
            (try (have hji16r := hji16; simp only [hji4, hji7, hji10] at hji16r))
            (try (have hji16wr := (gT _).trans hji16r))
            replace H : (if 0 ≤ (ji16) then (if (ji16) < (l2.length : Int) then (if 0 ≤ (wrap64 ((wrap64 (a1 + (l2.length : Int))) - 2)) then (if (wrap64 ((wrap64 (a1 + (l2.length : Int))) - 2)) < (l0.length : Int) then (dA.j1 k1 l0 a1 l2 (l2.length : Int) fZ jA (decide ((Go.bits .or .u64 (IntKind.u64.wrap (jA * 4294967296)) (rd l0 (wrap64 ((wrap64 (a1 + (l2.length : Int))) - 2)))) < (IntKind.u64.wrap (fZ * (rd l2 (ji16))))))) else (none)) else (none)) else (none)) else (none)) = some r := by first | (rw [hji16] at H; exact H) | (simp only [hji16] at H ⊢; exact H)
            have hji16w : (IntKind.i64.wrap ((l2.length : Int) - 2)) = ji16 := (gT _).trans hji16
            by_cases c17 : 0 ≤ (ji16)
            ·rw [if_pos c17] at H
             have F8 : decide (0 ≤ (ji16)) = true := decide_eq_true c17
             clear c17
             by_cases c18 : (ji16) < (l2.length : Int)
             ·rw [if_pos c18] at H
              have sD : decide ((ji16) < (l2.length : Int)) = true := decide_eq_true c18
              clear c18
              obtain ⟨ji19, hji19⟩ : ∃ j_ : Int, (wrap64 ((wrap64 (a1 + (l2.length : Int))) - 2)) = j_ := ⟨_, rfl⟩
              (try (have hji19r := hji19; simp only [hji4, hji7, hji10, hji16] at hji19r))
              (try (have hji19wr := (gT _).trans hji19r))
              replace H : (if 0 ≤ (ji19) then (if (ji19) < (l0.length : Int) then (dA.j1 k1 l0 a1 l2 (l2.length : Int) fZ jA (decide ((Go.bits .or .u64 (IntKind.u64.wrap (jA * 4294967296)) (rd l0 (ji19))) < (IntKind.u64.wrap (fZ * (rd l2 (ji16))))))) else (none)) else (none)) = some r := by first | (rw [hji19] at H; exact H) | (simp only [hji19] at H ⊢; exact H)
              have hji19w : (IntKind.i64.wrap ((wrap64 (a1 + (l2.length : Int))) - 2)) = ji19 := (gT _).trans hji19
              by_cases c20 : 0 ≤ (ji19)
              ·rw [if_pos c20] at H
               have Dn : decide (0 ≤ (ji19)) = true := decide_eq_true c20
               clear c20
               by_cases c21 : (ji19) < (l0.length : Int)
               ·rw [if_pos c21] at H
                have Dp : decide ((ji19) < (l0.length : Int)) = true := decide_eq_true c21
                clear c21
                have H' := ae.mk H
                clear H
                have p105 : 0 ≤ ((ji16) : Int) := of_decide_eq_true qa
                have q105 : (ji16) < (l2.length : Int) := of_decide_eq_true qa
                obtain ⟨ad105, e105, hx105_0⟩ := Kd.gH HR2.out (ji16) p105 q105
                obtain rfl : ad103 = ad105 := (by injection e105)
                replace p105 := eq_true p105
                replace q105 := eq_true q105
                have p106 : 0 ≤ ((ji19) : Int) := of_decide_eq_true qa
                have q106 : (ji19) < (l0.length : Int) := of_decide_eq_true qa
                obtain ⟨ad106, e106, hx106_0⟩ := Kd.gH HR0.out (ji19) p106 q106
                obtain rfl : ad101 = ad106 := (by injection e106)
                replace p106 := eq_true p106
                replace q106 := eq_true q106
                go_wp2
                repeat (go_quiet (fail); try go_wp2)
                go_meet
                case rel => exact ⟨_, (decide ((Go.bits .or .u64 (IntKind.u64.wrap (jA * 4294967296)) (rd l0 (ji19))) < (IntKind.u64.wrap (fZ * (rd l2 (ji16)))))), (by first | rfl | (simp; done) | (simp only [← hji16, ← hji19] <;> (first | rfl | simp)) | (simp [*]; done)), H', ⟨by have := HK1.out; first | omega | exact Nat.le_refl _⟩, by repeat (first | exact bZ.refl _ | apply bZ.step)⟩
               ·rw [if_neg c21] at H
                exact absurd H (by simp)
              ·rw [if_neg c20] at H
               exact absurd H (by simp)
             ·rw [if_neg c18] at H
              exact absurd H (by simp)
            ·rw [if_neg c17] at H
             exact absurd H (by simp)
          case rest =>
           clear HC14
           try clear c1
           try clear p1
           try clear q1
           try clear hx1
           try clear c2
           try clear p2
           try clear c5
           try clear jW
           try clear c6
           try clear oJ
           try clear p6
           try clear c8
           try clear oZ
           try clear c9
           try clear qc
           try clear p10
           try clear q10
           try clear hx10
           try clear c11
           try clear qB
           try clear c12
           try clear su
           try clear c13
           try clear qg
           try clear zk
           try clear c15
           try clear o5
           try clear c17
           try clear F8
           try clear c18
           try clear sD
           try clear c20
           try clear Dn
           try clear c21
           try clear Dp
           try clear hx101_0
           try clear hx102_0
           try clear hx103_0
           try clear hx104_0
           try clear hx105_0
           try clear hx106_0
           try clear p1
           try clear p10
           try clear p101
           try clear p102
           try clear p103
           try clear p104
           try clear p105
           try clear p106
           try clear p2
           try clear p6
           try clear q1
           try clear q10
           try clear q101
           try clear q102
           try clear q103
           try clear q104
           try clear q105
           try clear q106
           obtain ⟨kq, wN, rfl, HA, HJ13, ⟨mc13, rfl⟩⟩ := hcut
           cases kq with
           | zero => exact absurd HA.out (by simp [dA.j1])
           | succ EA =>
            have H := HA.out
            clear HA
            simp only [dA.j1] at H
            by_cases c22 : wN = true
            ·subst c22
             have H1 : (if 0 ≤ (wrap64 ((l2.length : Int) - 1)) then (if (wrap64 ((l2.length : Int) - 1)) < (l2.length : Int) then (if (IntKind.u64.wrap (jA + (rd l2 (wrap64 ((l2.length : Int) - 1))))) ≥ 4294967296 then (some (IntKind.u64.wrap (fZ - 1))) else (dA.l0 EA l0 a1 l2 (l2.length : Int) (IntKind.u64.wrap (fZ - 1)) (IntKind.u64.wrap (jA + (rd l2 (wrap64 ((l2.length : Int) - 1))))))) else (none)) else (none)) = some r := by rw [if_pos rfl] at H; exact H
             clear H
             have H := H1
             clear H1
             replace H : (if 0 ≤ (ji10) then (if (ji10) < (l2.length : Int) then (if (IntKind.u64.wrap (jA + (rd l2 (ji10)))) ≥ 4294967296 then (some (IntKind.u64.wrap (fZ - 1))) else (dA.l0 EA l0 a1 l2 (l2.length : Int) (IntKind.u64.wrap (fZ - 1)) (IntKind.u64.wrap (jA + (rd l2 (ji10)))))) else (none)) else (none)) = some r := by first | (rw [hji10] at H; exact H) | (simp only [hji10] at H ⊢; exact H)
             have hji10w : (IntKind.i64.wrap ((l2.length : Int) - 1)) = ji10 := (gT _).trans hji10
             by_cases c24 : 0 ≤ (ji10)
             ·rw [if_pos c24] at H
              have Dl : decide (0 ≤ (ji10)) = true := decide_eq_true c24
              clear c24
              by_cases c25 : (ji10) < (l2.length : Int)
              ·rw [if_pos c25] at H
               have Dq : decide ((ji10) < (l2.length : Int)) = true := decide_eq_true c25
               clear c25
               by_cases c26 : (IntKind.u64.wrap (jA + (rd l2 (ji10)))) ≥ 4294967296
               ·rw [if_pos c26] at H
                have F9 : decide (4294967296 ≤ (IntKind.u64.wrap (jA + (rd l2 (ji10))))) = true := decide_eq_true c26
                clear c26
                obtain rfl := Option.some.inj H
                have p107 : 0 ≤ ((ji10) : Int) := of_decide_eq_true qa
                have q107 : (ji10) < (l2.length : Int) := of_decide_eq_true qa
                obtain ⟨ad107, e107, hx107_0⟩ := Kd.gH HR2.out (ji10) p107 q107
                obtain rfl : ad103 = ad107 := (by injection e107)
                replace p107 := eq_true p107
                replace q107 := eq_true q107
                go_wp2
                repeat (go_quiet (fail); try go_wp2)
                go_ret
                exact ⟨by first | rfl | (simp; done) | (simp only [← hji4, ← hji7, ← hji10, ← hji10] <;> (first | rfl | simp)) | (simp [*]; done), by repeat (first | exact bZ.refl _ | apply bZ.step)⟩
               ·rw [if_neg c26] at H
                have F9 : decide (4294967296 ≤ (IntKind.u64.wrap (jA + (rd l2 (ji10))))) = false := decide_eq_false c26
                clear c26
                have H' := ae.mk H
                clear H
                have p107 : 0 ≤ ((ji10) : Int) := of_decide_eq_true qa
                have q107 : (ji10) < (l2.length : Int) := of_decide_eq_true qa
                obtain ⟨ad107, e107, hx107_0⟩ := Kd.gH HR2.out (ji10) p107 q107
                obtain rfl : ad103 = ad107 := (by injection e107)
                replace p107 := eq_true p107
                replace q107 := eq_true q107
                go_wp2
                repeat (go_quiet (fail); try go_wp2)
                go_roundg EA
                case measure => have := HK1.out; have := HJ13.out; omega
                case rel => exact ⟨(IntKind.u64.wrap (fZ - 1)), (IntKind.u64.wrap (jA + (rd l2 (ji10)))), (by first | rfl | (simp; done) | (simp [*]; done)), (by first | rfl | (simp; done) | (simp only [← hji10] <;> (first | rfl | simp)) | (simp [*]; done)), H', ⟨by have := HK1.out; have := HJ13.out; omega⟩, by repeat (first | exact bZ.refl _ | apply bZ.step)⟩
              ·rw [if_neg c25] at H
               exact absurd H (by simp)
             ·rw [if_neg c24] at H
              exact absurd H (by simp)
            ·replace c22 := Bool.eq_false_iff.mpr c22
             subst c22
             have H1 : (some fZ) = some r := by rw [if_neg (show ¬ (false = true) by decide)] at H; exact H
             clear H
             have H := H1
             clear H1
             obtain rfl := Option.some.inj H
             go_wp2
             repeat (go_quiet (fail); try go_wp2)
             go_ret
             exact ⟨by first | rfl | (simp; done) | (simp only [← hji4, ← hji7, ← hji10] <;> (first | rfl | simp)) | (simp [*]; done), by repeat (first | exact bZ.refl _ | apply bZ.step)⟩
      ·rw [if_neg c12] at H
       exact absurd H (by simp)
     ·rw [if_neg c11] at H
      exact absurd H (by simp)
    ·rw [if_neg c9] at H
     exact absurd H (by simp)
   ·rw [if_neg c8] at H
    exact absurd H (by simp)
  ·rw [if_neg c6] at H
   exact absurd H (by simp)
 ·rw [if_neg c5] at H
  exact absurd H (by simp)
end Go.Proofs.YthfphdbebnkdpaaDoor.P
end
section
namespace Go.Proofs.YthfphdbebnkdpaaDoor.P
open Go.RowKit Go.Proofs.YthfphdbebnkdpaaDoorW.aZ Go.Proofs.YthfphdbebnkdpaaDoorW.bL Go.Proofs.YthfphdbebnkdpaaDoorW.dC
attribute [local go_sem] dZ d9 fA fB dH dI ed ek
set_option linter.unusedVariables false
set_option linter.unusedSimpArgs false
def fF.l0 : Nat → List Int → Int → List Int → Int → Int → Int → Int → Int → Option (Bool × List Int)
 | 0, _, _, _, _, _, _, _, _ => none
 | k + 1, x0, x1, x2, x3, x9, x10, x15, x16 => if x16 < x15 then ((mM.f x2 x16).bind fun fM => ((mE.f x3 fM x9 0).bind fun kU => (if 0 ≤ (wrap64 (x1 + x16)) then (if (wrap64 (x1 + x16)) < (x0.length : Int) then ((lu.f (rd x0 (wrap64 (x1 + x16))) kU.1 x10).bind fun eH => (fF.l0 k (x0.set ((wrap64 (x1 + x16)) : Int).toNat eH.1) x1 x2 x3 kU.2 eH.2 x15 (wrap64 (x16 + 1)))) else (none)) else (none)))) else (some (decide (0 < x10), x0))
def fF.f (k : Nat) (l0 : List Int) (a1 : Int) (l2 : List Int) (a3 : Int) : Option (Bool × List Int) := fF.l0 k l0 a1 l2 a3 0 0 (wrap64 ((l2.length : Int) + 1)) 0
set_option maxHeartbeats 8000000 in
set_option maxRecDepth 100000 in
theorem fF.calls (k : Nat) (P0_ : Nat → Prop) (u9000_ : Value) (l0 : List Int) (a1 : Int) (A2 : Option Addr) (c2 : Nat) (l2 : List Int) (a3 : Int) (r1 : Bool) (r2 : List Int) (w0 w : World) (hB : Below w0.heap.size w0 w) (ho0 : Kd.R (Kd.int .u64) 64 w w0.heap.size P0_ u9000_ l0) (hr2 : ∀ W_, Kept w W_ (fun k_ => P0_ k_) → Kd.C (Kd.int .u64) W_ A2 l2.length l2) (hc2 : l2.length ≤ c2) (h : fF.f k l0 a1 l2 a3 = some (r1, r2)) :
  Calls Tryd.prog 90 #[u9000_, .int .i64 a1, .slice A2 l2.length c2, .int .u64 a3] w fun e w' => e = .returned (.bool r1) ∧ Kd.R (Kd.int .u64) 64 w' w0.heap.size (fun k_ => (P0_ k_ ∨ w.heap.size ≤ k_)) u9000_ r2 ∧ Below w0.heap.size w0 w' ∧ Kept w w' (fun k_ => P0_ k_) := by
 have HO0 := ae.mk (show Kd.R (Kd.int .u64) 64 w w0.heap.size (fun k_ => (P0_ k_ ∨ w.heap.size ≤ k_)) u9000_ l0 from Kd.bG ho0 (fun k_ hk => (.inl hk)))
 have HR2 := ae.mk hr2
 have HC2 := ae.mk hc2
 clear hr2 hc2
 have HK := ae.mk (Kept.refl w (fun k_ => P0_ k_))
 have HW0 := ae.mk hB.size
 have HB := ae.mk hB
 clear hB
 have H : (fF.l0 k l0 a1 l2 a3 0 0 (wrap64 ((l2.length : Int) + 1)) 0) = some (r1, r2) := h
 clear h
 have H' := ae.mk H
 clear H
 go_enter Tryd.func90, Tryd.ntmps90
 go_wp2
 go_loopg [9, 10, 16] k (fun kq v9 v10 v16 w' => ∃ (jJ : List Int) (fZ : Int) (jA : Int) (mf : Int), v9 = .int .u64 fZ ∧ v10 = .int .u64 jA ∧ v16 = .int .i64 mf ∧ ae (fF.l0 kq jJ a1 l2 a3 fZ jA (wrap64 ((l2.length : Int) + 1)) mf = some (r1, r2)) ∧ ae (kq ≤ k) ∧ ae (Kd.R (Kd.int .u64) 64 w' w0.heap.size (fun k_ => (P0_ k_ ∨ w.heap.size ≤ k_)) u9000_ jJ) ∧ ae (Kept w w' (fun k_ => P0_ k_)) ∧ ae (Below w0.heap.size w0 w'))
 case atStart => exact ⟨(l0), (0), (0), (0), (by first | rfl | (simp; done) | (simp [*]; done)), (by first | rfl | (simp; done) | (simp [*]; done)), (by first | rfl | (simp; done) | (simp [*]; done)), H', ⟨Nat.le_refl _⟩, ⟨by (with_reducible repeat (first | apply Kd.bu | apply Kd.bv | apply Kd.bg)); exact HO0.out⟩, ⟨by repeat (first | (with_reducible first | exact HK.out | apply Kept.alloc | apply Kept.drewN | apply Kept.drew) | exact HK.out)⟩, ⟨by repeat (first | (with_reducible first | exact HB.out | apply aM | apply aD | apply aH) | exact HB.out)⟩⟩
 case round =>
  clear H'
  try clear c2
  try clear p2
  obtain ⟨jJ, fZ, jA, mf, rfl, rfl, rfl, HA, HK1, lh, HK, HB⟩ := hrel
  cases gk with
  | zero => exact absurd HA.out (by simp [fF.l0])
  | succ k1 =>
   have H := HA.out
   clear HA
   simp only [fF.l0] at H
   by_cases c5 : mf < (wrap64 ((l2.length : Int) + 1))
   ·rw [if_pos c5] at H
    have jW : decide (mf < (wrap64 ((l2.length : Int) + 1))) = true := decide_eq_true c5
    clear c5
    replace H := Option.bind_eq_some_iff.mp H
    obtain ⟨fM, A60, H⟩ := H
    replace H : ((mE.f a3 fM fZ 0).bind fun kU => (if 0 ≤ (wrap64 (a1 + mf)) then (if (wrap64 (a1 + mf)) < (jJ.length : Int) then ((lu.f (rd jJ (wrap64 (a1 + mf))) kU.1 jA).bind fun eH => (fF.l0 k1 (jJ.set ((wrap64 (a1 + mf)) : Int).toNat eH.1) a1 l2 a3 kU.2 eH.2 (wrap64 ((l2.length : Int) + 1)) (wrap64 (mf + 1)))) else (none)) else (none))) = some (r1, r2) := H
    have A6 := ae.mk A60
    clear A60
    replace H := Option.bind_eq_some_iff.mp H
    obtain ⟨⟨dK, dR⟩, A70, H⟩ := H
    replace H : (if 0 ≤ (wrap64 (a1 + mf)) then (if (wrap64 (a1 + mf)) < (jJ.length : Int) then ((lu.f (rd jJ (wrap64 (a1 + mf))) dK jA).bind fun eH => (fF.l0 k1 (jJ.set ((wrap64 (a1 + mf)) : Int).toNat eH.1) a1 l2 a3 dR eH.2 (wrap64 ((l2.length : Int) + 1)) (wrap64 (mf + 1)))) else (none)) else (none)) = some (r1, r2) := H
    have A7 := ae.mk A70
    clear A70
    obtain ⟨ji8, hji8⟩ : ∃ j_ : Int, (wrap64 (a1 + mf)) = j_ := ⟨_, rfl⟩
    replace H : (if 0 ≤ (ji8) then (if (ji8) < (jJ.length : Int) then ((lu.f (rd jJ (ji8)) dK jA).bind fun eH => (fF.l0 k1 (jJ.set ((ji8) : Int).toNat eH.1) a1 l2 a3 dR eH.2 (wrap64 ((l2.length : Int) + 1)) (wrap64 (mf + 1)))) else (none)) else (none)) = some (r1, r2) := by first | (rw [hji8] at H; exact H) | (simp only [hji8] at H ⊢; exact H)
    (try rw [hji8] at A6)
    (try rw [hji8] at A7)
    have hji8w : (IntKind.i64.wrap (a1 + mf)) = ji8 := (gT _).trans hji8
    by_cases c9 : 0 ≤ (ji8)
    ·rw [if_pos c9] at H
     have qc : decide (0 ≤ (ji8)) = true := decide_eq_true c9
     clear c9
     by_cases c10 : (ji8) < (jJ.length : Int)
     ·rw [if_pos c10] at H
      have qf : decide ((ji8) < (jJ.length : Int)) = true := decide_eq_true c10
      clear c10
      replace H := Option.bind_eq_some_iff.mp H
      obtain ⟨⟨t105, bA⟩, A110, H⟩ := H
      replace H : (fF.l0 k1 (jJ.set ((ji8) : Int).toNat t105) a1 l2 a3 dR bA (wrap64 ((l2.length : Int) + 1)) (wrap64 (mf + 1))) = some (r1, r2) := H
      have A11 := ae.mk A110
      clear A110
      obtain ⟨y107, hy107⟩ : ∃ y_ : List Int, y_ = (jJ.set ((ji8) : Int).toNat t105) := ⟨_, rfl⟩
      replace H : (fF.l0 k1 y107 a1 l2 a3 dR bA (wrap64 ((l2.length : Int) + 1)) (wrap64 (mf + 1))) = some (r1, r2) := by first | (rw [hy107]; with_reducible exact H) | (have H2_ := (Option.bind_some _ _).symm.trans H; rw [hy107]; with_reducible exact H2_) | (have H2_ := (Option.bind_some _ _).symm.trans H; with_reducible exact H2_) | with_reducible exact H | (rw [hy107]; exact H) | exact H
      have Ny107 := ae.mk hy107
      clear hy107
      have H' := ae.mk H
      clear H
      go_wp2_with (first | ((with_reducible refine aW (f := 121) rfl ?_); refine cO (some 23) rfl rfl Tryd.func121 (by kernel_rfl) rfl #[.slice A2 l2.length c2, .int .i64 mf] rfl qt ?_; (with_reducible refine (mM.calls _ _ l2 mf fM _ ?aU ?aV A6.out).mono ?_); (case aU => exact Kd.uK HR2.out (by repeat (first | (with_reducible first | exact HK.out | apply Kept.alloc | apply Kept.drewN | apply Kept.drew) | exact HK.out))); (case aV => exact HC2.out); rintro e w' ⟨rfl, ⟨nd, rfl⟩⟩; refine ⟨_, rfl, ?_⟩; (try (rw [kD wr]; generalize hq_ : World.drewN wr _ = wr; replace lh : ae (Kd.R (Kd.int .u64) 64 wr w0.heap.size (fun k_ => (P0_ k_ ∨ w.heap.size ≤ k_)) u9000_ jJ) := ⟨by rw [← hq_]; exact (qr lh)⟩; replace HK : ae (Kept w wr (fun k_ => P0_ k_)) := ⟨by rw [← hq_]; exact (by repeat (first | (with_reducible first | exact HK.out | apply Kept.alloc | apply Kept.drewN | apply Kept.drew) | exact HK.out))⟩; replace HB : ae (Below w0.heap.size w0 wr) := ⟨by rw [← hq_]; exact (qw HB)⟩; clear hq_))) | ((with_reducible refine aW (f := 118) rfl ?_); refine cO (some 25) rfl rfl Tryd.func118 (by kernel_rfl) rfl #[.int .u64 a3, .int .u64 fM, .int .u64 fZ, .int .u64 0] rfl qt ?_; (with_reducible refine (mE.calls a3 fM fZ 0 dK dR _ A7.out).mono ?_); rintro e w' ⟨rfl, ⟨nd, rfl⟩⟩; refine ⟨_, rfl, ?_⟩; (try (rw [kD wr]; generalize hq_ : World.drewN wr _ = wr; replace lh : ae (Kd.R (Kd.int .u64) 64 wr w0.heap.size (fun k_ => (P0_ k_ ∨ w.heap.size ≤ k_)) u9000_ jJ) := ⟨by rw [← hq_]; exact (qr lh)⟩; replace HK : ae (Kept w wr (fun k_ => P0_ k_)) := ⟨by rw [← hq_]; exact (by repeat (first | (with_reducible first | exact HK.out | apply Kept.alloc | apply Kept.drewN | apply Kept.drew) | exact HK.out))⟩; replace HB : ae (Below w0.heap.size w0 wr) := ⟨by rw [← hq_]; exact (qw HB)⟩; clear hq_)); obtain ⟨uo, sw, uO⟩ := Kd.bD lh.out; subst uO; have p104 : 0 ≤ ((ji8) : Int) := of_decide_eq_true qa; have q104 : (ji8) < (jJ.length : Int) := of_decide_eq_true qa; obtain ⟨ad104, e104, hx104_0⟩ := Kd.gH (Kd.ak lh.out).2.2 (ji8) p104 q104; cases e104; replace p104 := eq_true p104; replace q104 := eq_true q104) | ((with_reducible refine aW (f := 56) rfl ?_); refine cO (some 41) rfl rfl Tryd.func56 (by kernel_rfl) rfl #[.int .u64 (rd jJ (ji8)), .int .u64 dK, .int .u64 jA] rfl (by (try simp only [List.map_toArray, List.map_cons, List.map_nil]); first | done | (simp only [hji8]; rfl) | rfl | (simp only [List.length_drop, List.length_take]; rfl)) ?_; (with_reducible refine (lu.calls (rd jJ (ji8)) dK jA t105 bA _ A11.out).mono ?_); rintro e w' ⟨rfl, ⟨nd, rfl⟩⟩; refine ⟨_, rfl, ?_⟩; (try (rw [kD wr]; generalize hq_ : World.drewN wr _ = wr; replace lh : ae (Kd.R (Kd.int .u64) 64 wr w0.heap.size (fun k_ => (P0_ k_ ∨ w.heap.size ≤ k_)) (.slice (some ad104) jJ.length sw) jJ) := ⟨by rw [← hq_]; exact (qr lh)⟩; replace HK : ae (Kept w wr (fun k_ => P0_ k_)) := ⟨by rw [← hq_]; exact (by repeat (first | (with_reducible first | exact HK.out | apply Kept.alloc | apply Kept.drewN | apply Kept.drew) | exact HK.out))⟩; replace HB : ae (Below w0.heap.size w0 wr) := ⟨by rw [← hq_]; exact (qw HB)⟩; clear hq_)); have p12 : 0 ≤ ((ji8) : Int) := of_decide_eq_true qa; have q12 : ((ji8) : Int) < ((jJ.length : Int) : Int) := of_decide_eq_true qa; obtain ⟨go12, xu, wL, Ga, gl12, cl12, HG12⟩ := Kd.nP lh.out (by omega); (first | cases wL | (injection wL with ea_ en_ ec_; (first | subst ea_ | (injection ea_ with ea_; subst ea_)); subst ec_; clear en_)); have Jt := ae.mk Ga; have GG12 := ae.mk HG12; clear Ga gl12 HG12; have HMgo12 := ae.mk (show (P0_ go12 ∨ w.heap.size ≤ go12) from (lh.out.1 _ rfl)); (first | simp only [add_plain] at hx104_0 | skip); obtain ⟨hx12_0, hf12_0⟩ := Kd.jk 0 lh.out ((ji8) : Int) p12 q12; replace p12 := eq_true p12; replace q12 := eq_true q12; obtain ⟨hy14_, hz14_⟩ := Kd.jk 0 lh.out ((ji8) : Int) (of_decide_eq_true qa) (of_decide_eq_true qa); have HP14 := Kd.oq lh.out ((ji8) : Int) t105) | ((with_reducible refine jL (t := 64) (p := 44) rfl ?_); refine jq (t := 64) (p := 44) (v := ?vo_w15) (w1 := (wr.setCell ⟨go12, ((ji8) : Int).toNat, none⟩ (.int .u64 t105))) ?hg ?ho ?hn ?hr ?_; (case ho => rfl); (case hg => rfl); (case hn => rfl); (case hr => first | (go_simp; done) | (go_simp; rfl)); intro w15 hw; have hg : wr.grownBy w15 (some go12) := (by rw [hw]; exact HP14.2); have hp_ : Kd.R (Kd.int .u64) 64 w15 w0.heap.size (fun k_ => (P0_ k_ ∨ w.heap.size ≤ k_)) (.slice (some ⟨go12, 0, none⟩) jJ.length sw) y107 := (by rw [hw, Ny107.out]; exact HP14.1); clear HP14; replace HB := ae.mk ((by rw [hw]; exact aQ (HB.out) Jt.out : Below w0.heap.size w0 w15)); replace HK := ae.mk (Kept.Aj (S := (fun k_ => P0_ k_)) hg (by repeat (first | (with_reducible first | exact HK.out | apply Kept.alloc | apply Kept.drewN | apply Kept.drew) | exact HK.out)) (fun k_ e_ => (lh.out.1 k_ e_))); replace lh := ae.mk (hp_); clear hg hw hp_))
      go_roundg k1
      case measure => have := HK1.out; omega
      case rel => exact ⟨(y107), (dR), (bA), (wrap64 (mf + 1)), (by first | rfl | (simp; done) | (simp [*]; done)), (by first | rfl | (simp; done) | (simp [*]; done)), (by first | rfl | (simp; done) | (simp [*]; done)), H', ⟨by have := HK1.out; omega⟩, ⟨by (with_reducible repeat (first | apply Kd.bu | apply Kd.bv | apply Kd.bg)); exact lh.out⟩, ⟨by repeat (first | (with_reducible first | exact HK.out | apply Kept.alloc | apply Kept.drewN | apply Kept.drew) | exact HK.out)⟩, ⟨by repeat (first | (with_reducible first | exact HB.out | apply aM | apply aD | apply aH) | exact HB.out)⟩⟩
     ·rw [if_neg c10] at H
      exact absurd H (by simp)
    ·rw [if_neg c9] at H
     exact absurd H (by simp)
   ·rw [if_neg c5] at H
    have jW : decide (mf < (wrap64 ((l2.length : Int) + 1))) = false := decide_eq_false c5
    clear c5
    simp only [Option.some.injEq, Prod.mk.injEq] at H
    obtain ⟨rfl, rfl⟩ := H
    go_wp2
    go_ret
    exact ⟨by first | rfl | (simp [errW_none, errW_some] <;> rfl) | (simp [*, errW_none, errW_some] <;> rfl), by (with_reducible repeat (first | apply Kd.bu | apply Kd.bv | apply Kd.bg)); exact lh.out, by repeat (first | (with_reducible first | exact HB.out | apply aM | apply aD | apply aH) | exact HB.out), by repeat (first | (with_reducible first | exact HK.out | apply Kept.alloc | apply Kept.drewN | apply Kept.drew) | exact HK.out)⟩
end Go.Proofs.YthfphdbebnkdpaaDoor.P
end
section
namespace Go.Proofs.YthfphdbebnkdpaaDoor.P
open Go.RowKit Go.Proofs.YthfphdbebnkdpaaDoorW.aZ Go.Proofs.YthfphdbebnkdpaaDoorW.bL Go.Proofs.YthfphdbebnkdpaaDoorW.dC
attribute [local go_sem] dZ d9 fA fB dH dI ed ek
set_option linter.unusedVariables false
set_option linter.unusedSimpArgs false
def bV.l0 : Nat → Int → List Int → List Int → List Int → Int → Option (List Int × List Int)
 | 0, _, _, _, _, _ => none
 | k + 1, x6, x7, x9, x12, x13 => if x13 ≥ 0 then ((dA.f k x9 x13 x7).bind fun t131 => (if 0 ≤ x13 then (if x13 < (x12.length : Int) then ((some (x12.set (x13 : Int).toNat t131 : List Int)).bind fun y132 => ((fF.f k x9 x13 x7 (rd y132 x13)).bind fun gD => (if gD.1 = true then ((dP.f k gD.2 x13 x7).bind fun t138 => (bV.l0 k x6 x7 t138 (y132.set (x13 : Int).toNat (IntKind.u64.wrap ((rd y132 x13) - 1))) (wrap64 (x13 - 1)))) else (bV.l0 k x6 x7 gD.2 y132 (wrap64 (x13 - 1)))))) else (none)) else (none))) else ((dw.f k x12).bind fun nW => ((dw.f k x9).bind fun j4 => ((fw.f k j4.1 x6).bind fun qi => (some (nW.1, qi.1)))))
def bV.f (k : Nat) (l0 : List Int) (l1 : List Int) : Option (List Int × List Int) := if 0 ≤ (wrap64 ((l1.length : Int) - 1)) then (if (wrap64 ((l1.length : Int) - 1)) < (l1.length : Int) then ((ig.f k (rd l1 (wrap64 ((l1.length : Int) - 1)))).bind fun dK => ((fu.f k l1 (wrap64 (32 - dK))).bind fun kN => (if 0 ≤ (wrap64 ((l0.length : Int) + 1)) then (if (wrap64 ((l0.length : Int) + 1) : Int).toNat ≤ 35184372088832 then ((fu.f k l0 (wrap64 (32 - dK))).bind fun ik => ((Go.Proofs.YthfphdbebnkdpaaDoorV.mI (List.replicate (wrap64 ((l0.length : Int) + 1) : Int).toNat 0) ik.1).bind fun nX => (if 0 ≤ (wrap64 ((wrap64 ((l0.length : Int) - (l1.length : Int))) + 1)) then (if (wrap64 ((wrap64 ((l0.length : Int) - (l1.length : Int))) + 1) : Int).toNat ≤ 35184372088832 then (bV.l0 k (wrap64 (32 - dK)) kN.1 nX.2 (List.replicate (wrap64 ((wrap64 ((l0.length : Int) - (l1.length : Int))) + 1) : Int).toNat 0) (wrap64 ((l0.length : Int) - (l1.length : Int)))) else (none)) else (none)))) else (none)) else (none)))) else (none)) else (none)
set_option maxHeartbeats 8000000 in
set_option maxRecDepth 100000 in
theorem bV.calls (k : Nat) (A0 : Option Addr) (c0 : Nat) (l0 : List Int) (A1 : Option Addr) (c1 : Nat) (l1 : List Int) (r1 : List Int) (r2 : List Int) (w : World) (hr0 : Kd.C (Kd.int .u64) w A0 l0.length l0) (hc0 : l0.length ≤ c0) (hr1 : Kd.C (Kd.int .u64) w A1 l1.length l1) (hc1 : l1.length ≤ c1) (h : bV.f k l0 l1 = some (r1, r2)) :
  Calls Tryd.prog 60 #[.slice A0 l0.length c0, .slice A1 l1.length c1] w fun e w' => ∃ v0_ v1_ : Value, e = .returned (.tuple #[v0_, v1_]) ∧ Kd.R (Kd.int .u64) 64 w' w.heap.size (fun k_ => some k_ ≠ (v1_ : Value).ownBlock) v0_ r1 ∧ Kd.R (Kd.int .u64) 64 w' w.heap.size (fun k_ => some k_ ≠ (v0_ : Value).ownBlock) v1_ r2 ∧ Below w.heap.size w w' := by
 have HR0 := ae.mk hr0
 have HC0 := ae.mk hc0
 clear hr0 hc0
 have HR1 := ae.mk hr1
 have HC1 := ae.mk hc1
 clear hr1 hc1
 have HB := ae.mk (Below.refl w.heap.size w)
 have H : (if 0 ≤ (wrap64 ((l1.length : Int) - 1)) then (if (wrap64 ((l1.length : Int) - 1)) < (l1.length : Int) then ((ig.f k (rd l1 (wrap64 ((l1.length : Int) - 1)))).bind fun dK => ((fu.f k l1 (wrap64 (32 - dK))).bind fun kN => (if 0 ≤ (wrap64 ((l0.length : Int) + 1)) then (if (wrap64 ((l0.length : Int) + 1) : Int).toNat ≤ 35184372088832 then ((fu.f k l0 (wrap64 (32 - dK))).bind fun ik => ((Go.Proofs.YthfphdbebnkdpaaDoorV.mI (List.replicate (wrap64 ((l0.length : Int) + 1) : Int).toNat 0) ik.1).bind fun nX => (if 0 ≤ (wrap64 ((wrap64 ((l0.length : Int) - (l1.length : Int))) + 1)) then (if (wrap64 ((wrap64 ((l0.length : Int) - (l1.length : Int))) + 1) : Int).toNat ≤ 35184372088832 then (bV.l0 k (wrap64 (32 - dK)) kN.1 nX.2 (List.replicate (wrap64 ((wrap64 ((l0.length : Int) - (l1.length : Int))) + 1) : Int).toNat 0) (wrap64 ((l0.length : Int) - (l1.length : Int)))) else (none)) else (none)))) else (none)) else (none)))) else (none)) else (none)) = some (r1, r2) := h
 clear h
 obtain ⟨ji3, hji3⟩ : ∃ j_ : Int, (wrap64 ((l1.length : Int) - 1)) = j_ := ⟨_, rfl⟩
 replace H : (if 0 ≤ (ji3) then (if (ji3) < (l1.length : Int) then ((ig.f k (rd l1 (ji3))).bind fun dK => ((fu.f k l1 (wrap64 (32 - dK))).bind fun kN => (if 0 ≤ (wrap64 ((l0.length : Int) + 1)) then (if (wrap64 ((l0.length : Int) + 1) : Int).toNat ≤ 35184372088832 then ((fu.f k l0 (wrap64 (32 - dK))).bind fun ik => ((Go.Proofs.YthfphdbebnkdpaaDoorV.mI (List.replicate (wrap64 ((l0.length : Int) + 1) : Int).toNat 0) ik.1).bind fun nX => (if 0 ≤ (wrap64 ((wrap64 ((l0.length : Int) - (l1.length : Int))) + 1)) then (if (wrap64 ((wrap64 ((l0.length : Int) - (l1.length : Int))) + 1) : Int).toNat ≤ 35184372088832 then (bV.l0 k (wrap64 (32 - dK)) kN.1 nX.2 (List.replicate (wrap64 ((wrap64 ((l0.length : Int) - (l1.length : Int))) + 1) : Int).toNat 0) (wrap64 ((l0.length : Int) - (l1.length : Int)))) else (none)) else (none)))) else (none)) else (none)))) else (none)) else (none)) = some (r1, r2) := by first | (rw [hji3] at H; exact H) | (simp only [hji3] at H ⊢; exact H)
 have hji3w : (IntKind.i64.wrap ((l1.length : Int) - 1)) = ji3 := (gT _).trans hji3
 by_cases c4 : 0 ≤ (ji3)
 ·rw [if_pos c4] at H
  have ll : decide (0 ≤ (ji3)) = true := decide_eq_true c4
  clear c4
  by_cases c5 : (ji3) < (l1.length : Int)
  ·rw [if_pos c5] at H
   have jW : decide ((ji3) < (l1.length : Int)) = true := decide_eq_true c5
   clear c5
   replace H := Option.bind_eq_some_iff.mp H
   obtain ⟨dK, A60, H⟩ := H
   replace H : ((fu.f k l1 (wrap64 (32 - dK))).bind fun kN => (if 0 ≤ (wrap64 ((l0.length : Int) + 1)) then (if (wrap64 ((l0.length : Int) + 1) : Int).toNat ≤ 35184372088832 then ((fu.f k l0 (wrap64 (32 - dK))).bind fun ik => ((Go.Proofs.YthfphdbebnkdpaaDoorV.mI (List.replicate (wrap64 ((l0.length : Int) + 1) : Int).toNat 0) ik.1).bind fun nX => (if 0 ≤ (wrap64 ((wrap64 ((l0.length : Int) - (l1.length : Int))) + 1)) then (if (wrap64 ((wrap64 ((l0.length : Int) - (l1.length : Int))) + 1) : Int).toNat ≤ 35184372088832 then (bV.l0 k (wrap64 (32 - dK)) kN.1 nX.2 (List.replicate (wrap64 ((wrap64 ((l0.length : Int) - (l1.length : Int))) + 1) : Int).toNat 0) (wrap64 ((l0.length : Int) - (l1.length : Int)))) else (none)) else (none)))) else (none)) else (none))) = some (r1, r2) := H
   have A6 := ae.mk A60
   clear A60
   replace H := Option.bind_eq_some_iff.mp H
   obtain ⟨⟨dR, fQ⟩, A70, H⟩ := H
   replace H : (if 0 ≤ (wrap64 ((l0.length : Int) + 1)) then (if (wrap64 ((l0.length : Int) + 1) : Int).toNat ≤ 35184372088832 then ((fu.f k l0 (wrap64 (32 - dK))).bind fun ik => ((Go.Proofs.YthfphdbebnkdpaaDoorV.mI (List.replicate (wrap64 ((l0.length : Int) + 1) : Int).toNat 0) ik.1).bind fun nX => (if 0 ≤ (wrap64 ((wrap64 ((l0.length : Int) - (l1.length : Int))) + 1)) then (if (wrap64 ((wrap64 ((l0.length : Int) - (l1.length : Int))) + 1) : Int).toNat ≤ 35184372088832 then (bV.l0 k (wrap64 (32 - dK)) dR nX.2 (List.replicate (wrap64 ((wrap64 ((l0.length : Int) - (l1.length : Int))) + 1) : Int).toNat 0) (wrap64 ((l0.length : Int) - (l1.length : Int)))) else (none)) else (none)))) else (none)) else (none)) = some (r1, r2) := H
   have A7 := ae.mk A70
   clear A70
   obtain ⟨ji8, hji8⟩ : ∃ j_ : Int, (wrap64 ((l0.length : Int) + 1)) = j_ := ⟨_, rfl⟩
   (try (have hji8r := hji8; simp only [hji3] at hji8r))
   (try (have hji8wr := (gT _).trans hji8r))
   replace H : (if 0 ≤ (ji8) then (if (ji8 : Int).toNat ≤ 35184372088832 then ((fu.f k l0 (wrap64 (32 - dK))).bind fun ik => ((Go.Proofs.YthfphdbebnkdpaaDoorV.mI (List.replicate (ji8 : Int).toNat 0) ik.1).bind fun nX => (if 0 ≤ (wrap64 ((wrap64 ((l0.length : Int) - (l1.length : Int))) + 1)) then (if (wrap64 ((wrap64 ((l0.length : Int) - (l1.length : Int))) + 1) : Int).toNat ≤ 35184372088832 then (bV.l0 k (wrap64 (32 - dK)) dR nX.2 (List.replicate (wrap64 ((wrap64 ((l0.length : Int) - (l1.length : Int))) + 1) : Int).toNat 0) (wrap64 ((l0.length : Int) - (l1.length : Int)))) else (none)) else (none)))) else (none)) else (none)) = some (r1, r2) := by first | (rw [hji8] at H; exact H) | (simp only [hji8] at H ⊢; exact H)
   (try rw [hji8] at A6)
   (try rw [hji8] at A7)
   have hji8w : (IntKind.i64.wrap ((l0.length : Int) + 1)) = ji8 := (gT _).trans hji8
   by_cases c9 : 0 ≤ (ji8)
   ·rw [if_pos c9] at H
    have qc := eq_true c9
    have yh : decide (0 ≤ (ji8)) = true := decide_eq_true c9
    clear c9
    by_cases c10 : (ji8 : Int).toNat ≤ 35184372088832
    ·rw [if_pos c10] at H
     have qf := eq_true c10
     have Gb : decide ((ji8 : Int).toNat ≤ 35184372088832) = true := decide_eq_true c10
     clear c10
     obtain ⟨y107, hy107⟩ : ∃ y_ : List Int, y_ = (List.replicate (ji8 : Int).toNat 0) := ⟨_, rfl⟩
     replace H : ((fu.f k l0 (wrap64 (32 - dK))).bind fun ik => ((Go.Proofs.YthfphdbebnkdpaaDoorV.mI y107 ik.1).bind fun nX => (if 0 ≤ (wrap64 ((wrap64 ((l0.length : Int) - (l1.length : Int))) + 1)) then (if (wrap64 ((wrap64 ((l0.length : Int) - (l1.length : Int))) + 1) : Int).toNat ≤ 35184372088832 then (bV.l0 k (wrap64 (32 - dK)) dR nX.2 (List.replicate (wrap64 ((wrap64 ((l0.length : Int) - (l1.length : Int))) + 1) : Int).toNat 0) (wrap64 ((l0.length : Int) - (l1.length : Int)))) else (none)) else (none)))) = some (r1, r2) := by first | (rw [hy107]; with_reducible exact H) | (have H2_ := (Option.bind_some _ _).symm.trans H; rw [hy107]; with_reducible exact H2_) | (have H2_ := (Option.bind_some _ _).symm.trans H; with_reducible exact H2_) | with_reducible exact H | (rw [hy107]; exact H) | exact H
     have Ny107 := ae.mk hy107
     clear hy107
     replace H := Option.bind_eq_some_iff.mp H
     obtain ⟨⟨bi, kE⟩, A110, H⟩ := H
     replace H : ((Go.Proofs.YthfphdbebnkdpaaDoorV.mI y107 bi).bind fun nX => (if 0 ≤ (wrap64 ((wrap64 ((l0.length : Int) - (l1.length : Int))) + 1)) then (if (wrap64 ((wrap64 ((l0.length : Int) - (l1.length : Int))) + 1) : Int).toNat ≤ 35184372088832 then (bV.l0 k (wrap64 (32 - dK)) dR nX.2 (List.replicate (wrap64 ((wrap64 ((l0.length : Int) - (l1.length : Int))) + 1) : Int).toNat 0) (wrap64 ((l0.length : Int) - (l1.length : Int)))) else (none)) else (none))) = some (r1, r2) := H
     have A11 := ae.mk A110
     clear A110
     replace H := Option.bind_eq_some_iff.mp H
     obtain ⟨⟨dD, lw⟩, A120, H⟩ := H
     replace H : (if 0 ≤ (wrap64 ((wrap64 ((l0.length : Int) - (l1.length : Int))) + 1)) then (if (wrap64 ((wrap64 ((l0.length : Int) - (l1.length : Int))) + 1) : Int).toNat ≤ 35184372088832 then (bV.l0 k (wrap64 (32 - dK)) dR lw (List.replicate (wrap64 ((wrap64 ((l0.length : Int) - (l1.length : Int))) + 1) : Int).toNat 0) (wrap64 ((l0.length : Int) - (l1.length : Int)))) else (none)) else (none)) = some (r1, r2) := H
     have A12 := ae.mk A120
     clear A120
     obtain ⟨ji13, hji13⟩ : ∃ j_ : Int, (wrap64 ((wrap64 ((l0.length : Int) - (l1.length : Int))) + 1)) = j_ := ⟨_, rfl⟩
     (try (have hji13r := hji13; simp only [hji3, hji8] at hji13r))
     (try (have hji13wr := (gT _).trans hji13r))
     replace H : (if 0 ≤ (ji13) then (if (ji13 : Int).toNat ≤ 35184372088832 then (bV.l0 k (wrap64 (32 - dK)) dR lw (List.replicate (ji13 : Int).toNat 0) (wrap64 ((l0.length : Int) - (l1.length : Int)))) else (none)) else (none)) = some (r1, r2) := by first | (rw [hji13] at H; exact H) | (simp only [hji13] at H ⊢; exact H)
     (try rw [hji13] at A6)
     (try rw [hji13] at A7)
     (try rw [hji13] at A11)
     (try rw [hji13] at A12)
     have hji13w : (IntKind.i64.wrap ((wrap64 ((l0.length : Int) - (l1.length : Int))) + 1)) = ji13 := (gT _).trans hji13
     by_cases c14 : 0 ≤ (ji13)
     ·rw [if_pos c14] at H
      have xk := eq_true c14
      have Dr : decide (0 ≤ (ji13)) = true := decide_eq_true c14
      clear c14
      by_cases c15 : (ji13 : Int).toNat ≤ 35184372088832
      ·rw [if_pos c15] at H
       have o5 := eq_true c15
       have Bh : decide ((ji13 : Int).toNat ≤ 35184372088832) = true := decide_eq_true c15
       clear c15
       obtain ⟨y116, hy116⟩ : ∃ y_ : List Int, y_ = (List.replicate (ji13 : Int).toNat 0) := ⟨_, rfl⟩
       replace H : (bV.l0 k (wrap64 (32 - dK)) dR lw y116 (wrap64 ((l0.length : Int) - (l1.length : Int)))) = some (r1, r2) := by first | (rw [hy116]; with_reducible exact H) | (have H2_ := (Option.bind_some _ _).symm.trans H; rw [hy116]; with_reducible exact H2_) | (have H2_ := (Option.bind_some _ _).symm.trans H; with_reducible exact H2_) | with_reducible exact H | (rw [hy116]; exact H) | exact H
       have Ny116 := ae.mk hy116
       clear hy116
       have H' := ae.mk H
       clear H
       have p101 : 0 ≤ ((ji3) : Int) := of_decide_eq_true qa
       have q101 : (ji3) < (l1.length : Int) := of_decide_eq_true qa
       obtain ⟨ad101, e101, hx101_0⟩ := Kd.gH HR1.out (ji3) p101 q101
       cases e101
       replace p101 := eq_true p101
       replace q101 := eq_true q101
       go_enter Tryd.func60, Tryd.ntmps60
       go_wp2_with (first | ((with_reducible refine aW (f := 87) rfl ?_); refine cO (some 24) rfl rfl Tryd.func87 (by kernel_rfl) rfl #[.int .u64 (rd l1 (ji3))] rfl (by (try simp only [List.map_toArray, List.map_cons, List.map_nil]); first | done | (simp only [hji3]; rfl) | rfl | (simp only [List.length_drop, List.length_take]; rfl)) ?_; (with_reducible refine (ig.calls k (rd l1 (ji3)) dK _ A6.out).mono ?_); rintro e w' ⟨rfl, ⟨nd, rfl⟩⟩; refine ⟨_, rfl, ?_⟩) | ((with_reducible refine aW (f := 88) rfl ?_); refine cO (some 29) rfl rfl Tryd.func88 (by kernel_rfl) rfl #[.slice (some ad101) l1.length c1, .int .i64 (wrap64 (32 - dK))] rfl qt ?_; (with_reducible refine (fu.calls k _ _ l1 (wrap64 (32 - dK)) dR fQ _ ?aU ?aV A7.out).mono ?_); (case aU => exact qs (HR1.out)); (case aV => exact HC1.out); rintro e w16 ⟨v105, rfl, ho0, hb⟩; refine ⟨_, rfl, ?_⟩; have jO := ae.mk (Kd.bz ho0 (aN (qw HB))); replace HB := ae.mk (av (qw HB) hb); (try clear hb); (try clear hb2); (try clear hk); (try clear hi); (try clear ho0)) | ((with_reducible refine bR (N := 35) rfl ?_); refine Kd.pM (Kd.int .u64) _ 64 rfl (N := 35) rfl 22 _ _ rfl ji8 rfl rfl Tryd.underlying22 (.int .u64 0) 8 lX rfl (by decide) (by omega) 0 (ok := fun _ => True) (okp := fun _ => True) rfl (fun _ hk => hk) trivial (of_decide_eq_true qa) (Nat.le_trans (Nat.mul_le_mul_right _ (of_decide_eq_true qa : ji8.toNat ≤ 35184372088832)) (by omega)) (Below.refl _ _) (Nat.le_refl _) ?_; intro v108 w17 zV hb hg_ hnew_; clear hg_ hnew_; (first | rw [← Ny107.out] at zV | (simp only [Int.reduceToNat] at zV; rw [← Ny107.out] at zV)); have gW := ae.mk (Kd.bz (Kd.aA zV (Kd.aY (qr jO))) (aN (qw HB))); replace jO := ae.mk (Kd.aj (qr jO) (Kd.az zV) hb); replace HB := ae.mk (av (qw HB) hb); clear hb zV) | ((with_reducible refine aW (f := 88) rfl ?_); refine cO (some 39) rfl rfl Tryd.func88 (by kernel_rfl) rfl #[.slice A0 l0.length c0, .int .i64 (wrap64 (32 - dK))] rfl qt ?_; (with_reducible refine (fu.calls k _ _ l0 (wrap64 (32 - dK)) bi kE _ ?aU ?aV A11.out).mono ?_); (case aU => exact qs ((Kd.dS HR0.out HB.out))); (case aV => exact HC0.out); rintro e w19 ⟨v112, rfl, ho0, hb⟩; refine ⟨_, rfl, ?_⟩; have il := ae.mk (Kd.bz (Kd.aA (Kd.aA ho0 (Kd.aY (qr jO))) (Kd.aY (qr gW))) (aN (qw HB))); replace jO := ae.mk (Kd.aj (qr jO) (Kd.az ho0) hb); replace gW := ae.mk (Kd.aj (qr gW) (Kd.az ho0) hb); replace HB := ae.mk (av (qw HB) hb); (try clear hb); (try clear hb2); (try clear hk); (try clear hi); (try clear ho0); obtain ⟨lg, ko, zO⟩ := Kd.bD gW.out; subst zO; obtain ⟨CG, AX, zS⟩ := Kd.bD il.out; subst zS) | ((with_reducible refine nH (b := .copy) rfl ?_); refine Go.Proofs.YthfphdbebnkdpaaDoorV.Au (some 44) rfl rfl (dT := 22) (sT := 23) rfl #[.slice lg y107.length ko, .slice CG bi.length AX] qt rfl ?_; (with_reducible refine (Go.Proofs.YthfphdbebnkdpaaDoorV.vF .u64 64 22 23 Tryd.underlying22 (by kernel_rfl) (fun k_ => some k_ = (.slice lg y107.length ko : Value).ownBlock) (.slice lg y107.length ko) y107 _ _ bi dD lw w _ ?aU ?aV ?bJ ?bK A12.out).mono ?_); (case aU => repeat (first | (with_reducible first | exact HB.out | apply aM | apply aD | apply aH) | exact HB.out)); (case aV => exact Kd.nD rfl gW.out); (case bJ => exact Kd.qp (il.out) (fun k_ hk_ hs_ => (hk_.2) hs_)); (case bK => exact (Kd.ak il.out).2.1); rintro e w22 ⟨rfl, hy0, hb, hkp⟩; refine ⟨_, rfl, ?_⟩; replace jO := ae.mk (Kd.bG (ok' := fun k_ => some k_ ≠ (.slice lg y107.length ko : Value).ownBlock ∧ some k_ ≠ (.slice CG bi.length AX : Value).ownBlock) (Kd.pz (jO.out) hkp (fun k_ hk_ hs_ => (hk_.1.2) hs_)) (fun k_ hk_ => ⟨hk_.1.1.2, hk_.1.2⟩)); replace gW := ae.mk (Kd.wE rfl hy0 (fun k_ e_ => gW.out.1 k_ e_)); replace il := ae.mk (Kd.bG (ok' := fun k_ => some k_ ≠ (v105 : Value).ownBlock ∧ some k_ ≠ (.slice lg y107.length ko : Value).ownBlock) (Kd.pz (il.out) hkp (fun k_ hk_ hs_ => (hk_.2) hs_)) (fun k_ hk_ => ⟨hk_.1.1.2, hk_.1.2⟩)); replace HB := ae.mk (hb); (try clear hb); (try clear hkp); (try clear hy0)) | ((with_reducible refine bR (N := 51) rfl ?_); refine Kd.pM (Kd.int .u64) _ 64 rfl (N := 51) rfl 22 _ _ rfl ji13 rfl rfl Tryd.underlying22 (.int .u64 0) 8 lX rfl (by decide) (by omega) 0 (ok := fun _ => True) (okp := fun _ => True) rfl (fun _ hk => hk) trivial (of_decide_eq_true qa) (Nat.le_trans (Nat.mul_le_mul_right _ (of_decide_eq_true qa : ji13.toNat ≤ 35184372088832)) (by omega)) (Below.refl _ _) (Nat.le_refl _) ?_; intro v117 w23 xx hb hg_ hnew_; clear hg_ hnew_; (first | rw [← Ny116.out] at xx | (simp only [Int.reduceToNat] at xx; rw [← Ny116.out] at xx)); have jG := ae.mk (Kd.bz (Kd.aA (Kd.aA (Kd.aA xx (Kd.aY (qr jO))) (Kd.aY (qr gW))) (Kd.aY (qr il))) (aN (qw HB))); replace jO := ae.mk (Kd.aj (qr jO) (Kd.az xx) hb); replace gW := ae.mk (Kd.aj (qr gW) (Kd.az xx) hb); replace il := ae.mk (Kd.aj (qr il) (Kd.az xx) hb); replace HB := ae.mk (av (qw HB) hb); clear hb xx))
       go_loopg [13] k (fun kq v13 w' => ∃ (fZ : List Int) (fK : List Int) (eP : Int), v13 = .int .i64 eP ∧ ae (bV.l0 kq (wrap64 (32 - dK)) dR fZ fK eP = some (r1, r2)) ∧ ae (kq ≤ k) ∧ ae (Kd.R (Kd.int .u64) 64 w' w.heap.size (fun k_ => some k_ ≠ ((.slice lg y107.length ko) : Value).ownBlock ∧ some k_ ≠ (v117 : Value).ownBlock) v105 dR) ∧ ae (Kd.R (Kd.int .u64) 64 w' w.heap.size (fun k_ => some k_ ≠ (v105 : Value).ownBlock ∧ some k_ ≠ (v117 : Value).ownBlock) (.slice lg y107.length ko) fZ) ∧ ae (Kd.R (Kd.int .u64) 64 w' w.heap.size (fun k_ => some k_ ≠ (v105 : Value).ownBlock ∧ some k_ ≠ ((.slice lg y107.length ko) : Value).ownBlock) v117 fK) ∧ ae (Below w.heap.size w w'))
       case atStart => exact ⟨(lw), (y116), (wrap64 ((l0.length : Int) - (l1.length : Int))), (by first | rfl | (simp; done) | (simp [*]; done)), H', ⟨Nat.le_refl _⟩, ⟨by (with_reducible repeat (first | apply Kd.bu | apply Kd.bv | apply Kd.bg)); exact Kd.bG jO.out (fun _ hk => ⟨hk.1.1, hk.2⟩)⟩, ⟨by (with_reducible repeat (first | apply Kd.bu | apply Kd.bv | apply Kd.bg)); exact Kd.bG gW.out (fun _ hk => ⟨hk.1.1.2, hk.2⟩)⟩, ⟨by (with_reducible repeat (first | apply Kd.bu | apply Kd.bv | apply Kd.bg)); exact Kd.bG jG.out (fun _ hk => ⟨hk.1.1.2, hk.1.2⟩)⟩, ⟨by repeat (first | (with_reducible first | exact HB.out | apply aM | apply aD | apply aH) | exact HB.out)⟩⟩
       case round =>
        clear H'
        try clear c1
        try clear p1
        try clear q1
        try clear hx1
        try clear p2
        try clear c4
        try clear ll
        try clear c5
        try clear jW
        try clear c6
        try clear p6
        try clear c8
        try clear c9
        try clear qc
        try clear yh
        try clear c10
        try clear qf
        try clear Gb
        try clear p10
        try clear q10
        try clear hx10
        try clear c14
        try clear xk
        try clear Dr
        try clear c15
        try clear o5
        try clear Bh
        try clear hx101_0
        try clear p101
        try clear q101
        obtain ⟨fZ, fK, eP, rfl, HA, HK1, fJ, jP, iI, HB⟩ := hrel
        have hl9_1 := (Kd.ak jP.out).1
        rw [hl9_1] at jP
        (try simp only [hl9_1])
        (try simp only [hl9_1] at fJ)
        (try simp only [hl9_1] at iI)
        cases gk with
        | zero => exact absurd HA.out (by simp [bV.l0])
        | succ k1 =>
         have H := HA.out
         clear HA
         simp only [bV.l0] at H
         by_cases c25 : eP ≥ 0
         ·rw [if_pos c25] at H
          have Dq : decide (0 ≤ eP) = true := decide_eq_true c25
          clear c25
          replace H := Option.bind_eq_some_iff.mp H
          obtain ⟨t131, A260, H⟩ := H
          replace H : (if 0 ≤ eP then (if eP < (fK.length : Int) then ((some (fK.set (eP : Int).toNat t131 : List Int)).bind fun y132 => ((fF.f k1 fZ eP dR (rd y132 eP)).bind fun gD => (if gD.1 = true then ((dP.f k1 gD.2 eP dR).bind fun t138 => (bV.l0 k1 (wrap64 (32 - dK)) dR t138 (y132.set (eP : Int).toNat (IntKind.u64.wrap ((rd y132 eP) - 1))) (wrap64 (eP - 1)))) else (bV.l0 k1 (wrap64 (32 - dK)) dR gD.2 y132 (wrap64 (eP - 1)))))) else (none)) else (none)) = some (r1, r2) := H
          have A26 := ae.mk A260
          clear A260
          by_cases c27 : 0 ≤ eP
          ·rw [if_pos c27] at H
           have Kj : decide (0 ≤ eP) = true := decide_eq_true c27
           clear c27
           by_cases c28 : eP < (fK.length : Int)
           ·rw [if_pos c28] at H
            have Gc : decide (eP < (fK.length : Int)) = true := decide_eq_true c28
            (try (have c28b0hl9_1 := Gc; rw [hl9_1] at c28b0hl9_1))
            clear c28
            obtain ⟨y132, hy132⟩ : ∃ y_ : List Int, y_ = (fK.set (eP : Int).toNat t131) := ⟨_, rfl⟩
            replace H : ((fF.f k1 fZ eP dR (rd y132 eP)).bind fun gD => (if gD.1 = true then ((dP.f k1 gD.2 eP dR).bind fun t138 => (bV.l0 k1 (wrap64 (32 - dK)) dR t138 (y132.set (eP : Int).toNat (IntKind.u64.wrap ((rd y132 eP) - 1))) (wrap64 (eP - 1)))) else (bV.l0 k1 (wrap64 (32 - dK)) dR gD.2 y132 (wrap64 (eP - 1))))) = some (r1, r2) := by first | (rw [hy132]; with_reducible exact H) | (have H2_ := (Option.bind_some _ _).symm.trans H; rw [hy132]; with_reducible exact H2_) | (have H2_ := (Option.bind_some _ _).symm.trans H; with_reducible exact H2_) | with_reducible exact H | (rw [hy132]; exact H) | exact H
            have Ny132 := ae.mk hy132
            clear hy132
            replace H := Option.bind_eq_some_iff.mp H
            obtain ⟨⟨sJ, mK⟩, A300, H⟩ := H
            replace H : (if sJ = true then ((dP.f k1 mK eP dR).bind fun t138 => (bV.l0 k1 (wrap64 (32 - dK)) dR t138 (y132.set (eP : Int).toNat (IntKind.u64.wrap ((rd y132 eP) - 1))) (wrap64 (eP - 1)))) else (bV.l0 k1 (wrap64 (32 - dK)) dR mK y132 (wrap64 (eP - 1)))) = some (r1, r2) := H
            have A30 := ae.mk A300
            clear A300
            by_cases c31 : sJ = true
            ·subst c31
             have H1 : ((dP.f k1 mK eP dR).bind fun t138 => (bV.l0 k1 (wrap64 (32 - dK)) dR t138 (y132.set (eP : Int).toNat (IntKind.u64.wrap ((rd y132 eP) - 1))) (wrap64 (eP - 1)))) = some (r1, r2) := by rw [if_pos rfl] at H; exact H
             clear H
             have H := H1
             clear H1
             obtain ⟨y137, hy137⟩ : ∃ y_ : List Int, y_ = (y132.set (eP : Int).toNat (IntKind.u64.wrap ((rd y132 eP) - 1))) := ⟨_, rfl⟩
             replace H : ((dP.f k1 mK eP dR).bind fun t138 => (bV.l0 k1 (wrap64 (32 - dK)) dR t138 y137 (wrap64 (eP - 1)))) = some (r1, r2) := by first | (rw [hy137]; with_reducible exact H) | (have H2_ := (Option.bind_some _ _).symm.trans H; rw [hy137]; with_reducible exact H2_) | (have H2_ := (Option.bind_some _ _).symm.trans H; with_reducible exact H2_) | with_reducible exact H | (rw [hy137]; exact H) | exact H
             have Ny137 := ae.mk hy137
             clear hy137
             replace H := Option.bind_eq_some_iff.mp H
             obtain ⟨t138, A330, H⟩ := H
             replace H : (bV.l0 k1 (wrap64 (32 - dK)) dR t138 y137 (wrap64 (eP - 1))) = some (r1, r2) := H
             have A33 := ae.mk A330
             clear A330
             have H' := ae.mk H
             clear H
             obtain ⟨nU, nV, yo⟩ := Kd.bD fJ.out
             subst yo
             go_wp2_with (first | ((with_reducible refine aW (f := 89) rfl ?_); refine cO (some 66) rfl rfl Tryd.func89 (by kernel_rfl) rfl #[.slice lg fZ.length ko, .int .i64 eP, .slice nU dR.length nV] rfl qt ?_; (with_reducible refine (dA.calls k1 _ _ fZ eP _ _ dR t131 _ ?aU ?aV ?bJ ?bK A26.out).mono ?_); (case aU => exact qs ((Kd.ak jP.out).2.2)); (case aV => exact (Kd.ak jP.out).2.1); (case bJ => exact qs ((Kd.ak fJ.out).2.2)); (case bK => exact (Kd.ak fJ.out).2.1); rintro e w' ⟨rfl, ⟨nd, rfl⟩⟩; refine ⟨_, rfl, ?_⟩; (try (rw [kD wr]; generalize hq_ : World.drewN wr _ = wr; replace iI : ae (Kd.R (Kd.int .u64) 64 wr w.heap.size (fun k_ => some k_ ≠ (.slice nU dR.length nV : Value).ownBlock ∧ some k_ ≠ (.slice lg fZ.length ko : Value).ownBlock) v117 fK) := ⟨by rw [← hq_]; exact (qr iI)⟩; replace fJ : ae (Kd.R (Kd.int .u64) 64 wr w.heap.size (fun k_ => some k_ ≠ (v117 : Value).ownBlock ∧ some k_ ≠ (.slice lg fZ.length ko : Value).ownBlock) (.slice nU dR.length nV) dR) := ⟨by rw [← hq_]; exact (by (with_reducible repeat (first | apply Kd.bu | apply Kd.bv | apply Kd.bg)); exact Kd.bG fJ.out (fun _ hk => ⟨hk.2, hk.1⟩))⟩; replace jP : ae (Kd.R (Kd.int .u64) 64 wr w.heap.size (fun k_ => some k_ ≠ (v117 : Value).ownBlock ∧ some k_ ≠ (.slice nU dR.length nV : Value).ownBlock) (.slice lg fZ.length ko) fZ) := ⟨by rw [← hq_]; exact (by (with_reducible repeat (first | apply Kd.bu | apply Kd.bv | apply Kd.bg)); exact Kd.bG jP.out (fun _ hk => ⟨hk.2, hk.1⟩))⟩; replace HB : ae (Below w.heap.size w wr) := ⟨by rw [← hq_]; exact (qw HB)⟩; clear hq_)); have p29 : 0 ≤ (eP : Int) := of_decide_eq_true qa; have q29 : (eP : Int) < ((fK.length : Int) : Int) := of_decide_eq_true qa; obtain ⟨go29, pV, ym, Bi, gl29, cl29, HG29⟩ := Kd.nP iI.out (by omega); (first | cases ym | (injection ym with ea_ en_ ec_; (first | subst ea_ | (injection ea_ with ea_; subst ea_)); subst ec_; clear en_)); have CJ := ae.mk Bi; have GG29 := ae.mk HG29; clear Bi gl29 HG29; obtain ⟨hx29_0, hf29_0⟩ := Kd.jk 0 iI.out (eP : Int) p29 q29; replace p29 := eq_true p29; replace q29 := eq_true q29; obtain ⟨hy35_, hz35_⟩ := Kd.jk 0 iI.out (eP : Int) (of_decide_eq_true qa) (of_decide_eq_true qa); have HP35 := Kd.oq iI.out (eP : Int) t131) | ((with_reducible refine jL (t := 64) (p := 67) rfl ?_); refine jq (t := 64) (p := 67) (v := ?vo_w36) (w1 := (wr.setCell ⟨go29, (eP : Int).toNat, none⟩ (.int .u64 t131))) ?hg ?ho ?hn ?hr ?_; (case ho => rfl); (case hg => rfl); (case hn => rfl); (case hr => first | (go_simp; done) | (go_simp; rfl)); intro w36 hw; have hg : wr.grownBy w36 (some go29) := (by rw [hw]; exact HP35.2); have hp_ : Kd.R (Kd.int .u64) 64 w36 w.heap.size (fun k_ => some k_ ≠ (.slice nU dR.length nV : Value).ownBlock ∧ some k_ ≠ (.slice lg fZ.length ko : Value).ownBlock) (.slice (some ⟨go29, 0, none⟩) fK.length pV) y132 := (by rw [hw, Ny132.out]; exact HP35.1); clear HP35; replace fJ := ae.mk (Kd.q8 (v := (.slice (some ⟨go29, 0, none⟩) fK.length pV)) (v1 := (.slice (some ⟨go29, 0, none⟩) fK.length pV)) (ok := (fun k_ => some k_ ≠ (.slice lg fZ.length ko : Value).ownBlock)) (by (with_reducible repeat (first | apply Kd.bu | apply Kd.bv | apply Kd.bg)); exact Kd.bG fJ.out (fun _ hk => ⟨hk.2, hk.1⟩)) hg (.inl rfl)); replace jP := ae.mk (Kd.q8 (v := (.slice (some ⟨go29, 0, none⟩) fK.length pV)) (v1 := (.slice (some ⟨go29, 0, none⟩) fK.length pV)) (ok := (fun k_ => some k_ ≠ (.slice nU dR.length nV : Value).ownBlock)) (by (with_reducible repeat (first | apply Kd.bu | apply Kd.bv | apply Kd.bg)); exact Kd.bG jP.out (fun _ hk => ⟨hk.2, hk.1⟩)) hg (.inl rfl)); replace iI := ae.mk (hp_); replace HB := ae.mk ((by rw [hw]; exact aQ (HB.out) CJ.out : Below w.heap.size w w36)); clear hg hw hp_; have p133 : 0 ≤ (eP : Int) := of_decide_eq_true qa; have q133 : eP < (y132.length : Int) := (by have h_ : (eP : Int) < ((fK.length : Int) : Int) := of_decide_eq_true qa; first | (have e_ := (Kd.ak iI.out).1; omega) | simpa only [Ny132.out, List.length_set] using h_); have ql133 : ((eP : Int) < ((fK.length : Int) : Int)) = True := eq_true (of_decide_eq_true qa); obtain ⟨ad133, e133, hx133_0⟩ := Kd.gH (Kd.ak iI.out).2.2 eP p133 q133; obtain rfl : (⟨go29, 0, none⟩ : Addr) = ad133 := (by injection e133); (first | simp only [add_plain] at hx133_0 | simp only [xW] at hx133_0 | simp only [Addr.add, Nat.zero_add] at hx133_0 | skip); replace p133 := eq_true p133; replace q133 := eq_true q133) | ((with_reducible refine aW (f := 90) rfl ?_); refine cO (some 75) rfl rfl Tryd.func90 (by kernel_rfl) rfl #[.slice lg fZ.length ko, .int .i64 eP, .slice nU dR.length nV, .int .u64 (rd y132 eP)] rfl (by (try simp only [List.map_toArray, List.map_cons, List.map_nil]); first | done | rfl | (simp only [List.length_drop, List.length_take]; rfl) | (rw [Go.Proofs.YthfphdbebnkdpaaDoorV.Av (j := eP) Ny132.out ?h0_ ?h1_]; all_goals first | done | rfl | exact of_decide_eq_true qa)) ?_; (with_reducible refine (fF.calls k1 (fun k_ => some k_ = (.slice lg fZ.length ko : Value).ownBlock) (.slice lg fZ.length ko) fZ eP _ _ dR (rd y132 eP) true mK w _ ?aU ?aV ?bJ ?bK A30.out).mono ?_); (case aU => repeat (first | (with_reducible first | exact HB.out | apply aM | apply aD | apply aH) | exact HB.out)); (case aV => exact Kd.nD rfl jP.out); (case bJ => exact Kd.qp (fJ.out) (fun k_ hk_ hs_ => (hk_.1) hs_)); (case bK => exact (Kd.ak fJ.out).2.1); rintro e w37 ⟨rfl, hy0, hb, hkp⟩; refine ⟨_, rfl, ?_⟩; replace fJ := ae.mk (Kd.bG (ok' := fun k_ => some k_ ≠ (.slice lg fZ.length ko : Value).ownBlock ∧ some k_ ≠ (.slice (some ⟨go29, 0, none⟩) fK.length pV : Value).ownBlock) (Kd.pz (fJ.out) hkp (fun k_ hk_ hs_ => (hk_.1) hs_)) (fun k_ hk_ => ⟨hk_.1.1, hk_.1.2⟩)); replace jP := ae.mk (Kd.wE rfl hy0 (fun k_ e_ => jP.out.1 k_ e_)); replace iI := ae.mk (Kd.bG (ok' := fun k_ => some k_ ≠ (.slice nU dR.length nV : Value).ownBlock ∧ some k_ ≠ (.slice lg fZ.length ko : Value).ownBlock) (Kd.pz (iI.out) hkp (fun k_ hk_ hs_ => (hk_.2) hs_)) (fun k_ hk_ => ⟨hk_.1.1, hk_.1.2⟩)); replace HB := ae.mk (hb); (try clear hb); (try clear hkp); (try clear hy0); have p136 : 0 ≤ (eP : Int) := of_decide_eq_true qa; have q136 : eP < (y132.length : Int) := (by have h_ : (eP : Int) < ((fK.length : Int) : Int) := of_decide_eq_true qa; first | (have e_ := (Kd.ak iI.out).1; omega) | simpa only [Ny132.out, List.length_set] using h_); have ql136 : ((eP : Int) < ((fK.length : Int) : Int)) = True := eq_true (of_decide_eq_true qa); obtain ⟨ad136, e136, hx136_0⟩ := Kd.gH (Kd.ak iI.out).2.2 eP p136 q136; obtain rfl : (⟨go29, 0, none⟩ : Addr) = ad136 := (by injection e136); (first | simp only [add_plain] at hx136_0 | simp only [xW] at hx136_0 | simp only [Addr.add, Nat.zero_add] at hx136_0 | skip); replace p136 := eq_true p136; replace q136 := eq_true q136; have p32 : 0 ≤ (eP : Int) := of_decide_eq_true qa; have q32 : (eP : Int) < ((fK.length : Int) : Int) := of_decide_eq_true qa; obtain ⟨hx32_0, hf32_0⟩ := Kd.jk 0 iI.out (eP : Int) p32 q32; replace p32 := eq_true p32; replace q32 := eq_true q32; obtain ⟨hy38_, hz38_⟩ := Kd.jk 0 iI.out (eP : Int) (of_decide_eq_true qa) (of_decide_eq_true qa); have HP38 := Kd.oq iI.out (eP : Int) (IntKind.u64.wrap ((rd y132 eP) - 1))) | ((with_reducible refine jL (t := 64) (p := 81) rfl ?_); refine jq (t := 64) (p := 81) (v := ?vo_w39) (w1 := (w37.setCell ⟨go29, (eP : Int).toNat, none⟩ (.int .u64 (IntKind.u64.wrap ((rd y132 eP) - 1))))) ?hg ?ho ?hn ?hr ?_; (case ho => rfl); (case hg => rfl); (case hn => rfl); (case hr => first | (go_simp; done) | (go_simp; rfl)); intro w39 hw; have hg : w37.grownBy w39 (some go29) := (by rw [hw]; exact HP38.2); have hp_ : Kd.R (Kd.int .u64) 64 w39 w.heap.size (fun k_ => some k_ ≠ (.slice nU dR.length nV : Value).ownBlock ∧ some k_ ≠ (.slice lg fZ.length ko : Value).ownBlock) (.slice (some ⟨go29, 0, none⟩) fK.length pV) y137 := (by rw [hw, Ny137.out]; exact HP38.1); clear HP38; replace fJ := ae.mk (Kd.q8 (v := (.slice (some ⟨go29, 0, none⟩) fK.length pV)) (v1 := (.slice (some ⟨go29, 0, none⟩) fK.length pV)) (ok := (fun k_ => some k_ ≠ (.slice lg fZ.length ko : Value).ownBlock)) (qr fJ) hg (.inl rfl)); replace jP := ae.mk (Kd.q8 (v := (.slice (some ⟨go29, 0, none⟩) fK.length pV)) (v1 := (.slice (some ⟨go29, 0, none⟩) fK.length pV)) (ok := (fun k_ => some k_ ≠ (.slice nU dR.length nV : Value).ownBlock)) (qr jP) hg (.inl rfl)); replace iI := ae.mk (hp_); replace HB := ae.mk ((by rw [hw]; exact aQ (HB.out) CJ.out : Below w.heap.size w w39)); clear hg hw hp_) | ((with_reducible refine aW (f := 91) rfl ?_); refine cO (some 85) rfl rfl Tryd.func91 (by kernel_rfl) rfl #[.slice lg fZ.length ko, .int .i64 eP, .slice nU dR.length nV] rfl qt ?_; (with_reducible refine (dP.calls k1 (fun k_ => some k_ = (.slice lg fZ.length ko : Value).ownBlock) (.slice lg fZ.length ko) mK eP _ _ dR t138 w _ ?aU ?aV ?bJ ?bK A33.out).mono ?_); (case aU => repeat (first | (with_reducible first | exact HB.out | apply aM | apply aD | apply aH) | exact HB.out)); (case aV => exact Kd.nD rfl jP.out); (case bJ => exact Kd.qp (fJ.out) (fun k_ hk_ hs_ => (hk_.1) hs_)); (case bK => exact (Kd.ak fJ.out).2.1); rintro e w40 ⟨rfl, hy0, hb, hkp⟩; refine ⟨_, rfl, ?_⟩; replace fJ := ae.mk (Kd.bG (ok' := fun k_ => some k_ ≠ (.slice lg fZ.length ko : Value).ownBlock ∧ some k_ ≠ (.slice (some ⟨go29, 0, none⟩) fK.length pV : Value).ownBlock) (Kd.pz (fJ.out) hkp (fun k_ hk_ hs_ => (hk_.1) hs_)) (fun k_ hk_ => ⟨hk_.1.1, hk_.1.2⟩)); replace jP := ae.mk (Kd.wE rfl hy0 (fun k_ e_ => jP.out.1 k_ e_)); replace iI := ae.mk (Kd.bG (ok' := fun k_ => some k_ ≠ (.slice nU dR.length nV : Value).ownBlock ∧ some k_ ≠ (.slice lg fZ.length ko : Value).ownBlock) (Kd.pz (iI.out) hkp (fun k_ hk_ hs_ => (hk_.2) hs_)) (fun k_ hk_ => ⟨hk_.1.1, hk_.1.2⟩)); replace HB := ae.mk (hb); (try clear hb); (try clear hkp); (try clear hy0)))
             (try simp only [← hl9_1])
             go_roundg k1
             case measure => have := HK1.out; omega
             case rel => exact ⟨(t138), (y137), (wrap64 (eP - 1)), (by first | rfl | (simp; done) | (simp [*]; done)), H', ⟨by have := HK1.out; omega⟩, ⟨by (try simp only [hl9_1]); (with_reducible repeat (first | apply Kd.bu | apply Kd.bv | apply Kd.bg)); exact fJ.out⟩, ⟨by (try simp only [hl9_1]); (with_reducible repeat (first | apply Kd.bu | apply Kd.bv | apply Kd.bg)); exact jP.out⟩, ⟨by (try simp only [hl9_1]); (with_reducible repeat (first | apply Kd.bu | apply Kd.bv | apply Kd.bg)); exact iI.out⟩, ⟨by repeat (first | (with_reducible first | exact HB.out | apply aM | apply aD | apply aH) | exact HB.out)⟩⟩
            ·replace c31 := Bool.eq_false_iff.mpr c31
             subst c31
             have H1 : (bV.l0 k1 (wrap64 (32 - dK)) dR mK y132 (wrap64 (eP - 1))) = some (r1, r2) := by rw [if_neg (show ¬ (false = true) by decide)] at H; exact H
             clear H
             have H := H1
             clear H1
             have H' := ae.mk H
             clear H
             obtain ⟨uy, uz, zW⟩ := Kd.bD fJ.out
             subst zW
             go_wp2_with (first | ((with_reducible refine aW (f := 89) rfl ?_); refine cO (some 66) rfl rfl Tryd.func89 (by kernel_rfl) rfl #[.slice lg fZ.length ko, .int .i64 eP, .slice uy dR.length uz] rfl qt ?_; (with_reducible refine (dA.calls k1 _ _ fZ eP _ _ dR t131 _ ?aU ?aV ?bJ ?bK A26.out).mono ?_); (case aU => exact qs ((Kd.ak jP.out).2.2)); (case aV => exact (Kd.ak jP.out).2.1); (case bJ => exact qs ((Kd.ak fJ.out).2.2)); (case bK => exact (Kd.ak fJ.out).2.1); rintro e w' ⟨rfl, ⟨nd, rfl⟩⟩; refine ⟨_, rfl, ?_⟩; (try (rw [kD wr]; generalize hq_ : World.drewN wr _ = wr; replace iI : ae (Kd.R (Kd.int .u64) 64 wr w.heap.size (fun k_ => some k_ ≠ (.slice uy dR.length uz : Value).ownBlock ∧ some k_ ≠ (.slice lg fZ.length ko : Value).ownBlock) v117 fK) := ⟨by rw [← hq_]; exact (qr iI)⟩; replace fJ : ae (Kd.R (Kd.int .u64) 64 wr w.heap.size (fun k_ => some k_ ≠ (v117 : Value).ownBlock ∧ some k_ ≠ (.slice lg fZ.length ko : Value).ownBlock) (.slice uy dR.length uz) dR) := ⟨by rw [← hq_]; exact (by (with_reducible repeat (first | apply Kd.bu | apply Kd.bv | apply Kd.bg)); exact Kd.bG fJ.out (fun _ hk => ⟨hk.2, hk.1⟩))⟩; replace jP : ae (Kd.R (Kd.int .u64) 64 wr w.heap.size (fun k_ => some k_ ≠ (v117 : Value).ownBlock ∧ some k_ ≠ (.slice uy dR.length uz : Value).ownBlock) (.slice lg fZ.length ko) fZ) := ⟨by rw [← hq_]; exact (by (with_reducible repeat (first | apply Kd.bu | apply Kd.bv | apply Kd.bg)); exact Kd.bG jP.out (fun _ hk => ⟨hk.2, hk.1⟩))⟩; replace HB : ae (Below w.heap.size w wr) := ⟨by rw [← hq_]; exact (qw HB)⟩; clear hq_)); have p29 : 0 ≤ (eP : Int) := of_decide_eq_true qa; have q29 : (eP : Int) < ((fK.length : Int) : Int) := of_decide_eq_true qa; obtain ⟨go29, pV, ym, Bi, gl29, cl29, HG29⟩ := Kd.nP iI.out (by omega); (first | cases ym | (injection ym with ea_ en_ ec_; (first | subst ea_ | (injection ea_ with ea_; subst ea_)); subst ec_; clear en_)); have CJ := ae.mk Bi; have GG29 := ae.mk HG29; clear Bi gl29 HG29; obtain ⟨hx29_0, hf29_0⟩ := Kd.jk 0 iI.out (eP : Int) p29 q29; replace p29 := eq_true p29; replace q29 := eq_true q29; obtain ⟨hy42_, hz42_⟩ := Kd.jk 0 iI.out (eP : Int) (of_decide_eq_true qa) (of_decide_eq_true qa); have HP42 := Kd.oq iI.out (eP : Int) t131) | ((with_reducible refine jL (t := 64) (p := 67) rfl ?_); refine jq (t := 64) (p := 67) (v := ?vo_w43) (w1 := (wr.setCell ⟨go29, (eP : Int).toNat, none⟩ (.int .u64 t131))) ?hg ?ho ?hn ?hr ?_; (case ho => rfl); (case hg => rfl); (case hn => rfl); (case hr => first | (go_simp; done) | (go_simp; rfl)); intro w43 hw; have hg : wr.grownBy w43 (some go29) := (by rw [hw]; exact HP42.2); have hp_ : Kd.R (Kd.int .u64) 64 w43 w.heap.size (fun k_ => some k_ ≠ (.slice uy dR.length uz : Value).ownBlock ∧ some k_ ≠ (.slice lg fZ.length ko : Value).ownBlock) (.slice (some ⟨go29, 0, none⟩) fK.length pV) y132 := (by rw [hw, Ny132.out]; exact HP42.1); clear HP42; replace fJ := ae.mk (Kd.q8 (v := (.slice (some ⟨go29, 0, none⟩) fK.length pV)) (v1 := (.slice (some ⟨go29, 0, none⟩) fK.length pV)) (ok := (fun k_ => some k_ ≠ (.slice lg fZ.length ko : Value).ownBlock)) (by (with_reducible repeat (first | apply Kd.bu | apply Kd.bv | apply Kd.bg)); exact Kd.bG fJ.out (fun _ hk => ⟨hk.2, hk.1⟩)) hg (.inl rfl)); replace jP := ae.mk (Kd.q8 (v := (.slice (some ⟨go29, 0, none⟩) fK.length pV)) (v1 := (.slice (some ⟨go29, 0, none⟩) fK.length pV)) (ok := (fun k_ => some k_ ≠ (.slice uy dR.length uz : Value).ownBlock)) (by (with_reducible repeat (first | apply Kd.bu | apply Kd.bv | apply Kd.bg)); exact Kd.bG jP.out (fun _ hk => ⟨hk.2, hk.1⟩)) hg (.inl rfl)); replace iI := ae.mk (hp_); replace HB := ae.mk ((by rw [hw]; exact aQ (HB.out) CJ.out : Below w.heap.size w w43)); clear hg hw hp_; have p133 : 0 ≤ (eP : Int) := of_decide_eq_true qa; have q133 : eP < (y132.length : Int) := (by have h_ : (eP : Int) < ((fK.length : Int) : Int) := of_decide_eq_true qa; first | (have e_ := (Kd.ak iI.out).1; omega) | simpa only [Ny132.out, List.length_set] using h_); have ql133 : ((eP : Int) < ((fK.length : Int) : Int)) = True := eq_true (of_decide_eq_true qa); obtain ⟨ad133, e133, hx133_0⟩ := Kd.gH (Kd.ak iI.out).2.2 eP p133 q133; obtain rfl : (⟨go29, 0, none⟩ : Addr) = ad133 := (by injection e133); (first | simp only [add_plain] at hx133_0 | simp only [xW] at hx133_0 | simp only [Addr.add, Nat.zero_add] at hx133_0 | skip); replace p133 := eq_true p133; replace q133 := eq_true q133) | ((with_reducible refine aW (f := 90) rfl ?_); refine cO (some 75) rfl rfl Tryd.func90 (by kernel_rfl) rfl #[.slice lg fZ.length ko, .int .i64 eP, .slice uy dR.length uz, .int .u64 (rd y132 eP)] rfl (by (try simp only [List.map_toArray, List.map_cons, List.map_nil]); first | done | rfl | (simp only [List.length_drop, List.length_take]; rfl) | (rw [Go.Proofs.YthfphdbebnkdpaaDoorV.Av (j := eP) Ny132.out ?h0_ ?h1_]; all_goals first | done | rfl | exact of_decide_eq_true qa)) ?_; (with_reducible refine (fF.calls k1 (fun k_ => some k_ = (.slice lg fZ.length ko : Value).ownBlock) (.slice lg fZ.length ko) fZ eP _ _ dR (rd y132 eP) false mK w _ ?aU ?aV ?bJ ?bK A30.out).mono ?_); (case aU => repeat (first | (with_reducible first | exact HB.out | apply aM | apply aD | apply aH) | exact HB.out)); (case aV => exact Kd.nD rfl jP.out); (case bJ => exact Kd.qp (fJ.out) (fun k_ hk_ hs_ => (hk_.1) hs_)); (case bK => exact (Kd.ak fJ.out).2.1); rintro e w44 ⟨rfl, hy0, hb, hkp⟩; refine ⟨_, rfl, ?_⟩; replace fJ := ae.mk (Kd.bG (ok' := fun k_ => some k_ ≠ (.slice lg fZ.length ko : Value).ownBlock ∧ some k_ ≠ (.slice (some ⟨go29, 0, none⟩) fK.length pV : Value).ownBlock) (Kd.pz (fJ.out) hkp (fun k_ hk_ hs_ => (hk_.1) hs_)) (fun k_ hk_ => ⟨hk_.1.1, hk_.1.2⟩)); replace jP := ae.mk (Kd.wE rfl hy0 (fun k_ e_ => jP.out.1 k_ e_)); replace iI := ae.mk (Kd.bG (ok' := fun k_ => some k_ ≠ (.slice uy dR.length uz : Value).ownBlock ∧ some k_ ≠ (.slice lg fZ.length ko : Value).ownBlock) (Kd.pz (iI.out) hkp (fun k_ hk_ hs_ => (hk_.2) hs_)) (fun k_ hk_ => ⟨hk_.1.1, hk_.1.2⟩)); replace HB := ae.mk (hb); (try clear hb); (try clear hkp); (try clear hy0)))
             (try simp only [← hl9_1])
             go_roundg k1
             case measure => have := HK1.out; omega
             case rel => exact ⟨(mK), (y132), (wrap64 (eP - 1)), (by first | rfl | (simp; done) | (simp [*]; done)), H', ⟨by have := HK1.out; omega⟩, ⟨by (try simp only [hl9_1]); (with_reducible repeat (first | apply Kd.bu | apply Kd.bv | apply Kd.bg)); exact fJ.out⟩, ⟨by (try simp only [hl9_1]); (with_reducible repeat (first | apply Kd.bu | apply Kd.bv | apply Kd.bg)); exact jP.out⟩, ⟨by (try simp only [hl9_1]); (with_reducible repeat (first | apply Kd.bu | apply Kd.bv | apply Kd.bg)); exact iI.out⟩, ⟨by repeat (first | (with_reducible first | exact HB.out | apply aM | apply aD | apply aH) | exact HB.out)⟩⟩
           ·rw [if_neg c28] at H
            exact absurd H (by simp)
          ·rw [if_neg c27] at H
           exact absurd H (by simp)
         ·rw [if_neg c25] at H
          have Dq : decide (0 ≤ eP) = false := decide_eq_false c25
          clear c25
          replace H := Option.bind_eq_some_iff.mp H
          obtain ⟨⟨t119, o9⟩, A450, H⟩ := H
          replace H : ((dw.f k1 fZ).bind fun j4 => ((fw.f k1 j4.1 (wrap64 (32 - dK))).bind fun qi => (some (t119, qi.1)))) = some (r1, r2) := H
          have A45 := ae.mk A450
          clear A450
          replace H := Option.bind_eq_some_iff.mp H
          obtain ⟨⟨qR, t124⟩, A460, H⟩ := H
          replace H : ((fw.f k1 qR (wrap64 (32 - dK))).bind fun qi => (some (t119, qi.1))) = some (r1, r2) := H
          have A46 := ae.mk A460
          clear A460
          replace H := Option.bind_eq_some_iff.mp H
          obtain ⟨⟨t127, lv⟩, A470, H⟩ := H
          replace H : (some (t119, t127)) = some (r1, r2) := H
          have A47 := ae.mk A470
          clear A470
          simp only [Option.some.injEq, Prod.mk.injEq] at H
          obtain ⟨rfl, rfl⟩ := H
          obtain ⟨EB, EC, ED⟩ := Kd.bD iI.out
          subst ED
          go_wp2_with (first | ((with_reducible refine aW (f := 36) rfl ?_); refine cO (some 88) rfl rfl Tryd.func36 (by kernel_rfl) rfl #[.slice EB fK.length EC] rfl qt ?_; (with_reducible refine (dw.calls k1 _ _ fK t119 o9 _ ?aU ?aV A45.out).mono ?_); (case aU => exact qs ((Kd.ak iI.out).2.2)); (case aV => exact (Kd.ak iI.out).2.1); rintro e w49 ⟨v121, rfl, ho0, hb⟩; refine ⟨_, rfl, ?_⟩; have oH := ae.mk (Kd.bz (Kd.aA (Kd.aA (Kd.aA ho0 (Kd.aY (qr fJ))) (Kd.aY (qr jP))) (Kd.aY (qr iI))) (aN (qw HB))); replace fJ := ae.mk (Kd.aj (qr fJ) (Kd.az ho0) hb); replace jP := ae.mk (Kd.aj (qr jP) (Kd.az ho0) hb); replace iI := ae.mk (Kd.aj (qr iI) (Kd.az ho0) hb); replace HB := ae.mk (av (qw HB) hb); (try clear hb); (try clear hb2); (try clear hk); (try clear hi); (try clear ho0)) | ((with_reducible refine aW (f := 36) rfl ?_); refine cO (some 93) rfl rfl Tryd.func36 (by kernel_rfl) rfl #[.slice lg fZ.length ko] rfl qt ?_; (with_reducible refine (dw.calls k1 _ _ fZ qR t124 _ ?aU ?aV A46.out).mono ?_); (case aU => exact qs ((Kd.ak jP.out).2.2)); (case aV => exact (Kd.ak jP.out).2.1); rintro e w50 ⟨v125, rfl, ho0, hb⟩; refine ⟨_, rfl, ?_⟩; have sK := ae.mk (Kd.bz (Kd.aA (Kd.aA (Kd.aA (Kd.aA ho0 (Kd.aY (qr fJ))) (Kd.aY (qr jP))) (Kd.aY (qr iI))) (Kd.aY (qr oH))) (aN (qw HB))); replace fJ := ae.mk (Kd.aj (qr fJ) (Kd.az ho0) hb); replace jP := ae.mk (Kd.aj (qr jP) (Kd.az ho0) hb); replace iI := ae.mk (Kd.aj (qr iI) (Kd.az ho0) hb); replace oH := ae.mk (Kd.aj (qr oH) (Kd.az ho0) hb); replace HB := ae.mk (av (qw HB) hb); (try clear hb); (try clear hb2); (try clear hk); (try clear hi); (try clear ho0); obtain ⟨EE, EF, CK⟩ := Kd.bD sK.out; subst CK) | ((with_reducible refine aW (f := 92) rfl ?_); refine cO (some 99) rfl rfl Tryd.func92 (by kernel_rfl) rfl #[.slice EE qR.length EF, .int .i64 (wrap64 (32 - dK))] rfl qt ?_; (with_reducible refine (fw.calls k1 _ _ qR (wrap64 (32 - dK)) t127 lv _ ?aU ?aV A47.out).mono ?_); (case aU => exact qs ((Kd.ak sK.out).2.2)); (case aV => exact (Kd.ak sK.out).2.1); rintro e w52 ⟨v129, rfl, ho0, hb⟩; refine ⟨_, rfl, ?_⟩; have mF := ae.mk (Kd.bz (Kd.aA (Kd.aA (Kd.aA (Kd.aA (Kd.aA ho0 (Kd.aY (qr fJ))) (Kd.aY (qr jP))) (Kd.aY (qr iI))) (Kd.aY (qr oH))) (Kd.aY (qr sK))) (aN (qw HB))); replace fJ := ae.mk (Kd.aj (qr fJ) (Kd.az ho0) hb); replace jP := ae.mk (Kd.aj (qr jP) (Kd.az ho0) hb); replace iI := ae.mk (Kd.aj (qr iI) (Kd.az ho0) hb); replace oH := ae.mk (Kd.aj (qr oH) (Kd.az ho0) hb); replace sK := ae.mk (Kd.aj (qr sK) (Kd.az ho0) hb); replace HB := ae.mk (av (qw HB) hb); (try clear hb); (try clear hb2); (try clear hk); (try clear hi); (try clear ho0)))
          go_ret2
          exact ⟨_, _, by first | rfl | (simp [errW_none, errW_some] <;> rfl) | (simp only [← hji3, ← hji8, ← hji13]; first | rfl | (simp [errW_none, errW_some] <;> rfl)) | (simp [*, errW_none, errW_some] <;> rfl), by (with_reducible repeat (first | apply Kd.bu | apply Kd.bv | apply Kd.bg)); exact Kd.bG oH.out (fun _ hk => hk.2), by (with_reducible repeat (first | apply Kd.bu | apply Kd.bv | apply Kd.bg)); exact Kd.bG mF.out (fun _ hk => hk.1.2), by repeat (first | (with_reducible first | exact HB.out | apply aM | apply aD | apply aH) | exact HB.out)⟩
      ·rw [if_neg c15] at H
       exact absurd H (by simp)
     ·rw [if_neg c14] at H
      exact absurd H (by simp)
    ·rw [if_neg c10] at H
     exact absurd H (by simp)
   ·rw [if_neg c9] at H
    exact absurd H (by simp)
  ·rw [if_neg c5] at H
   exact absurd H (by simp)
 ·rw [if_neg c4] at H
  exact absurd H (by simp)
end Go.Proofs.YthfphdbebnkdpaaDoor.P
end
