/- Part 2 of a proof that was merged by a program. -/
import Derived.Below
import Derived.Deep.Draws
import Derived.Deep.AppendLies
import Derived.Maps.AppendAt
import Derived.OwnWalk
import Derived.Laws.BytesArg
import Derived.Laws.MakeOwn
import Derived.Laws.OwnMore
import Derived.Deep.OwnRows
import Derived.Tactics
import Derived.Lib.ConvBytes
import Derived.Laws.Slices
import Derived.WalkKit
import Derived.KernelRfl
import Derived.RowKit3
import Derived.Deep.LoopGhost
import Derived.Deep.QuietTactic
import Derived.BigQuiet
import Derived.WideLaws
import Derived.Deep.DeepCutAuto
import Derived.Deep.CutBlock
import Derived.Deep.RegionHeld3
import Derived.Laws.Rows
import Derived.Lib.AppendStr
import Derived.ArgAppend
import Derived.Laws.IdiomCopy
import Derived.RowKit
import Derived.OrdersHeld
import Derived.Laws.BitsLemmas
import Derived.Laws.CopyOwn
import Derived.Lib.Builder
import Derived.Lib.LaidTab
import Derived.Lib.OthersKept
import Derived.Lib.FrozenHead
import Derived.Lib.ItoaNum
import Derived.Test.YteidaijpaijgpaaGreatDoorProg
import Derived.Test.YteidaijpaijgpaaGreatDoorRows
import Derived.PinnedBridge
import Derived.LaidHandle
import Derived.LaidLaws
import Derived.MakeChecks
import Derived.Stop.LaidErr
import Derived.ProofKit
import Derived.Laws.StructEq
import Derived.OpenShut
import Derived.ChangeArms
import Derived.DataReads
import Derived.DataElems
import Derived.Shelf.Strings.Builder1
import Derived.Shelf.Strings.Builder2
import Derived.Shelf.Strings.OnBuilder
import Derived.Shelf.Strings.Trim
import Derived.Shelf.Small.Utf8
import Derived.Shelf.Small.Strs
import Derived.Shelf.Strings.BuilderF
import Derived.Shelf.Strings.BuilderK
import Derived.Shelf.Strings.Builder2Cap
import Derived.Shelf.Strconv.Itoa0
import Derived.Shelf.Strconv.Itoa1
import Derived.Shelf.LaysM
import Derived.Shelf.Strconv.Itoa2
import Derived.Shelf.Strconv.Itoa3
import Derived.Shelf.Strings.Search1
import Derived.Shelf.Unicode.Decode
import Derived.Shelf.Strings.Runes
import Derived.Shelf.Strings.AsciiSet
import Derived.Shelf.Unicode.DecodeSlow
import Derived.Shelf.Unicode.DecodeAny
import Derived.Shelf.Strings.BuilderCap
import Derived.Lib.ItoaLen
import Derived.Lib.ItoaMem
import Derived.Laws.BitsAllLaws
import Derived.Lib.Hide
import Derived.ShutString
import Derived.ChangeOld
import Derived.Carry
import Derived.SizedLaws
import Derived.Test.YteidaijpaijgpaaGreatDoorCards
import Derived.Test.YteidaijpaijgpaaGreatDoorTie
import Derived.SevenTiedAt
import Derived.Test.YteidaijpaijgpaaGreatDoorA0
import Derived.Test.YteidaijpaijgpaaGreatDoorA1
section
namespace Go.Proofs.YteidaijpaijgpaaGreatDoor.P
open Go.Proofs.YteidaijpaijgpaaGreatDoorV Go.RowKit Go.Proofs.YteidaijpaijgpaaGreatDoorW.ay Go.Proofs.YteidaijpaijgpaaGreatDoorW.aQ Go.Proofs.YteidaijpaijgpaaGreatDoorW.aZ
attribute [local go_sem] bz bA bP bQ bq bu bB bC
set_option linter.unusedVariables false
set_option linter.unusedSimpArgs false
theorem dP.ym : (Tryz.prog.info? 9).map (fun i => (i.zero, i.size, i.bytes)) = some (some (.string ⟨#[]⟩), 1, 16) := by kernel_rfl
def kw (ps : List ByteArray) : List UInt8 := (ps.reverse.map (fun b => b.data.toList)).flatten
theorem qB (x : ByteArray) (l : List ByteArray) : kw (x :: l) = kw l ++ x.data.toList := by simp [kw]
theorem qR (l : List ByteArray) : ∀ n, (kw (l.drop n)).length ≤ (kw l).length := by
 induction l with
 | nil => intro n; simp
 | cons x l ih =>
  intro n
  cases n with
  | zero => exact Nat.le_refl _
  | succ n => rw [List.drop_succ_cons, qB, List.length_append]; have := ih n; omega
theorem vo (l : List ByteArray) (i : Nat) (j : Int) (h : i < l.length) (hj : j = ((l.length - 1 - i : Nat) : Int)) :
  kw (l.drop (l.length - (i + 1))) = kw (l.drop (l.length - i)) ++ (ol ByteArray.empty l j).data.toList := by
 subst hj
 have h1 : l.length - (i + 1) = l.length - 1 - i := by omega
 have h2 : l.length - 1 - i < l.length := by omega
 rw [h1, List.drop_eq_getElem_cons h2, qB, show l.length - 1 - i + 1 = l.length - i by omega]
 simp [ol, List.getElem?_eq_getElem h2]
def dP.tail (ps : List ByteArray) : Option (ByteArray × Int) :=
 if (kw ps).length ≤ 140737488355328 then some (if Lib.trimLeftB (kw ps) 48 = [] then (⟨#[48]⟩ : ByteArray) else (⟨(Lib.trimLeftB (kw ps) 48).toArray⟩ : ByteArray), 0) else none
def dP.l0 : Nat → Int → Int → Int → List ByteArray → List Int → Option (ByteArray × Int)
 | 0, _, _, _, _, _ => none
 | k + 1, x1, x7, x8, x9, x10 => if (x10.length : Int) > 0 then ((dn.f k x10 x7).bind fun yY => ((df.f k yY.2.1 x1 x8).bind fun jb => (if x9.length < 8796093022208 then (dP.l0 k x1 x7 x8 (x9 ++ [jb]) yY.1) else (none)))) else dP.tail x9
def dP.f (k : Nat) (l0 : List Int) (a1 : Int) : Option (ByteArray × Int) := (jl.f a1).bind fun bR => (if bR = 0 then ((dE.f k a1).bind fun nZ => ((eH.f k l0).bind fun pR => (dP.l0 k a1 nZ.1 nZ.2 ([] : List ByteArray) pR.1))) else (some ((⟨#[]⟩ : ByteArray), bR)))
theorem dP.dF : ∀ k, (∀ y0 y1 y2 y3 y4, LeO (dP.l0 k y0 y1 y2 y3 y4) (dP.l0 (k + 1) y0 y1 y2 y3 y4))
 | 0 => fun _ _ _ _ _ r h => by simp [dP.l0] at h
 | k + 1 => by
  have ih0 := dP.dF k
  ·intro y0 y1 y2 y3 y4
   unfold dP.l0
   repeat' first
   | (with_reducible exact ih0 _ _ _ _ _)
   | (with_reducible exact dE.mono _ _)
   | (with_reducible exact df.mono _ _ _ _)
   | (with_reducible exact dn.mono _ _ _)
   | (with_reducible exact eH.mono _ _)
   | (with_reducible exact LeO.refl _)
   | (with_reducible exact LeO.none _)
   | (with_reducible refine LeO.ite ?_ ?_)
   | (with_reducible refine LeO.bind ?_ (fun _ => ?_))
   | exact ih0 _ _ _ _ _
   | exact dE.mono _ _
   | exact df.mono _ _ _ _
   | exact dn.mono _ _ _
   | exact eH.mono _ _
   | exact LeO.none _
   | refine LeO.ite ?_ ?_
   | refine LeO.bind ?_ (fun _ => ?_)
theorem dP.mono : ∀ a0 a1 k, LeO (dP.f k a0 a1) (dP.f (k + 1) a0 a1) := by
 intro a0 a1 k
 have ih0 := dP.dF k
 unfold dP.f
 repeat' first
   | (with_reducible exact ih0 _ _ _ _ _)
   | (with_reducible exact dE.mono _ _)
   | (with_reducible exact df.mono _ _ _ _)
   | (with_reducible exact dn.mono _ _ _)
   | (with_reducible exact eH.mono _ _)
   | (with_reducible exact LeO.refl _)
   | (with_reducible exact LeO.none _)
   | (with_reducible refine LeO.ite ?_ ?_)
   | (with_reducible refine LeO.bind ?_ (fun _ => ?_))
   | exact ih0 _ _ _ _ _
   | exact dE.mono _ _
   | exact df.mono _ _ _ _
   | exact dn.mono _ _ _
   | exact eH.mono _ _
   | exact LeO.none _
   | refine LeO.ite ?_ ?_
   | refine LeO.bind ?_ (fun _ => ?_)
set_option maxHeartbeats 8000000 in
set_option maxRecDepth 100000 in
theorem dP.calls (k : Nat) (A0 : Option Addr) (c0 : Nat) (l0 : List Int) (a1 : Int) (r1 : ByteArray) (r2 : Int) (w : World) (hr0 : Kd.C (Kd.int .u64) w A0 l0.length l0) (hc0 : l0.length ≤ c0) (h : dP.f k l0 a1 = some (r1, r2)) :
  Calls Tryz.prog 118 #[.slice A0 l0.length c0, .int .i64 a1] w fun e w' => e = .returned (.tuple #[.string r1, .int .i64 r2]) ∧ Below w.heap.size w w' := by
 have HR0 := ae.mk hr0
 have HC0 := ae.mk hc0
 clear hr0 hc0
 have HB := ae.mk (Below.refl w.heap.size w)
 have H : ((jl.f a1).bind fun bR => (if bR = 0 then ((dE.f k a1).bind fun nZ => ((eH.f k l0).bind fun pR => (dP.l0 k a1 nZ.1 nZ.2 ([] : List ByteArray) pR.1))) else (some ((⟨#[]⟩ : ByteArray), bR)))) = some (r1, r2) := h
 clear h
 replace H := Option.bind_eq_some_iff.mp H
 obtain ⟨bR, A30, H⟩ := H
 replace H : (if bR = 0 then ((dE.f k a1).bind fun nZ => ((eH.f k l0).bind fun pR => (dP.l0 k a1 nZ.1 nZ.2 ([] : List ByteArray) pR.1))) else (some ((⟨#[]⟩ : ByteArray), bR))) = some (r1, r2) := H
 have A3 := ae.mk A30
 clear A30
 by_cases c4 : bR = 0
 ·rw [if_pos c4] at H
  have iQ : (bR == 0) = true := beq_iff_eq.mpr c4
  have jv : (bR != 0) = false := bne_eq_false_iff_eq.mpr c4
  clear c4
  replace H := Option.bind_eq_some_iff.mp H
  obtain ⟨⟨aJ, bJ⟩, A50, H⟩ := H
  replace H : ((eH.f k l0).bind fun pR => (dP.l0 k a1 aJ bJ ([] : List ByteArray) pR.1)) = some (r1, r2) := H
  have A5 := ae.mk A50
  clear A50
  replace H := Option.bind_eq_some_iff.mp H
  obtain ⟨⟨bH, t105⟩, A60, H⟩ := H
  replace H : (dP.l0 k a1 aJ bJ ([] : List ByteArray) bH) = some (r1, r2) := H
  have A6 := ae.mk A60
  clear A60
  have H' := ae.mk H
  clear H
  go_enter Tryz.func118, Tryz.ntmps118
  go_wp2_with (first | ((with_reducible refine aH (f := 123) rfl ?_); refine bN (some 19) rfl rfl Tryz.func123 (by kernel_rfl) rfl #[.int .i64 a1] rfl qt ?_; (with_reducible refine (jl.calls a1 bR _ A3.out).mono ?_); rintro e w' ⟨rfl, ⟨nd, rfl⟩⟩; refine ⟨_, rfl, ?_⟩) | ((with_reducible refine aH (f := 124) rfl ?_); refine bN (some 25) rfl rfl Tryz.func124 (by kernel_rfl) rfl #[.int .i64 a1] rfl qt ?_; (with_reducible refine (dE.calls k a1 aJ bJ _ A5.out).mono ?_); rintro e w' ⟨rfl, ⟨nd, rfl⟩⟩; refine ⟨_, rfl, ?_⟩) | ((with_reducible refine aH (f := 125) rfl ?_); refine bN (some 30) rfl rfl Tryz.func125 (by kernel_rfl) rfl #[.slice A0 l0.length c0] rfl qt ?_; (with_reducible refine (eH.calls k _ _ l0 bH t105 _ ?aX ?aY A6.out).mono ?_); (case aX => exact qs (HR0.out)); (case aY => exact HC0.out); rintro e w7 ⟨v106, rfl, ho0, hb⟩; refine ⟨_, rfl, ?_⟩; have jJ := ae.mk (Kd.dI ho0 (bi (qw HB))); replace HB := ae.mk (aj (qw HB) hb); (try clear hb); (try clear hb2); (try clear hk); (try clear hi); (try clear ho0)))
  go_loopg [9, 10] k (fun kq v9 v10 w' => ∃ (iK : List ByteArray) (mO : List Int), ae (dP.l0 kq a1 aJ bJ iK mO = some (r1, r2)) ∧ ae (kq ≤ k) ∧ ae (Kd.R Kd.string 9 w' w.heap.size (fun _ => True) v9 iK) ∧ ae (Kd.R (Kd.int .u64) 96 w' w.heap.size (fun _ => True) v10 mO) ∧ ae (Below w.heap.size w w'))
  case atStart => exact ⟨(([] : List ByteArray)), (bH), H', ⟨Nat.le_refl _⟩, ⟨by first | exact Kd.gm _ _ _ _ _ | exact Kd.N_nil _ _ _ _ _ | exact Kd.V_nil _ _ _ _ _ | exact Kd.Q_nil _ _ _ _ _ | exact Kd.S_nil _ _ _ _ _⟩, ⟨by (with_reducible repeat (first | apply Kd.di | apply Kd.dm | apply Kd.dR)); exact jJ.out⟩, ⟨by repeat (first | (with_reducible first | exact HB.out | apply au | apply ai | apply ak) | exact HB.out)⟩⟩
  case round =>
   clear H'
   try clear c1
   try clear p2
   try clear c3
   try clear c4
   try clear iQ
   try clear jv
   obtain ⟨iK, mO, HA, HK1, pU, mi, HB⟩ := hrel
   cases gk with
   | zero => exact absurd HA.out (by simp [dP.l0])
   | succ k1 =>
    have H := HA.out
    clear HA
    simp only [dP.l0] at H
    by_cases c8 : (mO.length : Int) > 0
    ·rw [if_pos c8] at H
     have kK : decide (0 < (mO.length : Int)) = true := decide_eq_true c8
     have tL : decide (0 < mO.length) = true := decide_eq_true (by omega)
     clear c8
     replace H := Option.bind_eq_some_iff.mp H
     obtain ⟨⟨jw, t109, gV⟩, A90, H⟩ := H
     replace H : ((df.f k1 t109 a1 bJ).bind fun jb => (if iK.length < 8796093022208 then (dP.l0 k1 a1 aJ bJ (iK ++ [jb]) jw) else (none))) = some (r1, r2) := H
     have A9 := ae.mk A90
     clear A90
     replace H := Option.bind_eq_some_iff.mp H
     obtain ⟨jb, A100, H⟩ := H
     replace H : (if iK.length < 8796093022208 then (dP.l0 k1 a1 aJ bJ (iK ++ [jb]) jw) else (none)) = some (r1, r2) := H
     have A10 := ae.mk A100
     clear A100
     by_cases c11 : iK.length < 8796093022208
     ·rw [if_pos c11] at H
      have LMc11 := ae.mk c11
      clear c11
      obtain ⟨y114, hy114⟩ : ∃ y_ : List ByteArray, y_ = (iK ++ [jb]) := ⟨_, rfl⟩
      replace H : (dP.l0 k1 a1 aJ bJ y114 jw) = some (r1, r2) := by first | (rw [hy114]; with_reducible exact H) | (have H2_ := (Option.bind_some _ _).symm.trans H; rw [hy114]; with_reducible exact H2_) | (have H2_ := (Option.bind_some _ _).symm.trans H; with_reducible exact H2_) | with_reducible exact H | (rw [hy114]; exact H) | exact H
      have Ny114 := ae.mk hy114
      clear hy114
      have H' := ae.mk H
      clear H
      obtain ⟨tT, kF, jr⟩ := Kd.dM mi.out
      subst jr
      go_wp2_with (first | ((with_reducible refine aH (f := 126) rfl ?_); refine bN (some 39) rfl rfl Tryz.func126 (by kernel_rfl) rfl #[.slice tT mO.length kF, .int .u64 aJ] rfl qt ?_; (with_reducible refine (dn.calls k1 _ _ mO aJ jw t109 gV _ ?aX ?aY A9.out).mono ?_); (case aX => exact qs ((Kd.aV mi.out).2.2)); (case aY => exact (Kd.aV mi.out).2.1); rintro e w13 ⟨v111, rfl, ho0, hb⟩; refine ⟨_, rfl, ?_⟩; replace pU := ae.mk (Kd.bD (qr pU) hb); have lv := ae.mk (Kd.dI (Kd.iM ho0 (Kd.jQ (qr mi))) (bi (qw HB))); replace mi := ae.mk (Kd.gB (qr mi) (Kd.iL ho0) hb); replace HB := ae.mk (aj (qw HB) hb); (try clear hb); (try clear hb2); (try clear hk); (try clear hi); (try clear ho0)) | ((with_reducible refine aH (f := 127) rfl ?_); refine bN (some 47) rfl rfl Tryz.func127 (by kernel_rfl) rfl #[.int .u64 t109, .int .i64 a1, .int .i64 bJ] rfl qt ?_; (with_reducible refine (df.calls k1 t109 a1 bJ jb _ A10.out).mono ?_); rintro e w14 ⟨rfl, hb⟩; refine ⟨_, rfl, ?_⟩; replace pU := ae.mk (Kd.bD (qr pU) hb); replace mi := ae.mk (Kd.bD (qr mi) hb); replace lv := ae.mk (Kd.bD (qr lv) hb); replace HB := ae.mk (aj (qw HB) hb); (try clear hb); (try clear hb2); (try clear hk); (try clear hi)) | ((with_reducible refine gG (b := .append) (xs := #[.tmp 43, .tmp 48]) rfl ?_); at_builtin; refine Kd.ll Kd.string (w0 := w) w.heap.size rfl (.tmp 43) (.tmp 48) 40 9 (.string ⟨#[]⟩) 16 rfl Tryz.underlying40 dP.ym rfl (by decide) (by omega) u9 iK jb [.string jb] (fun _ => True) (fun _ => False) rfl rfl ?aP (fun _ hk => hk.elim) ?aF ?aO ?aB ?aS ?aL ?_; (case aP => exact rfl); (case aB => exact (qw HB)); (case aF => exact (fun _ _ => trivial)); (case aO => exact (qr pU)); (case aS => exact (bi (qw HB))); (case aL => have := LMc11.out; omega); intro v115 w15 ho hb hg hat; rw [← Ny114.out] at ho; replace mi := ae.mk (Kd.ut (qr mi) (Kd.uq (qr pU)) (by decide) hg); replace lv := ae.mk (Kd.ut (qr lv) (Kd.uq (qr pU)) (by decide) hg); replace HB := ae.mk (hb); have AZ := ae.mk (ho); clear pU; clear ho hb hg hat))
      go_roundg k1
      case measure => have := HK1.out; omega
      case rel => exact ⟨(y114), (jw), H', ⟨by have := HK1.out; omega⟩, ⟨by (with_reducible repeat (first | apply Kd.di | apply Kd.dm | apply Kd.dR)); exact AZ.out⟩, ⟨by (with_reducible repeat (first | apply Kd.di | apply Kd.dm | apply Kd.dR)); exact Kd.gu lv.out (fun _ hk => trivial)⟩, ⟨by repeat (first | (with_reducible first | exact HB.out | apply au | apply ai | apply ak) | exact HB.out)⟩⟩
     ·rw [if_neg c11] at H
      exact absurd H (by simp)
    ·rw [if_neg c8] at H
     have kK : decide (0 < (mO.length : Int)) = false := decide_eq_false c8
     have tL : decide (0 < mO.length) = false := decide_eq_false (by omega)
     clear c8
     simp only [dP.tail] at H
     by_cases cz : (kw iK).length ≤ 140737488355328
     ·rw [if_pos cz] at H
      simp only [Option.some.injEq, Prod.mk.injEq] at H
      obtain ⟨h1, rfl⟩ := H
      have HR1 := Lib.hid h1
      have HCZ := Lib.hid cz
      clear h1 cz
      obtain ⟨Ao9, co9, eo9⟩ := Kd.dM pU.out
      subst eo9
      obtain ⟨vv, vw, xm⟩ := Kd.dM mi.out
      subst xm
      obtain ⟨wo, rfl⟩ : ∃ wo : World, wo = wr := ⟨_, rfl⟩
      obtain ⟨B, hBeq⟩ : ∃ B, B = wo.heap.size := ⟨_, rfl⟩
      obtain ⟨W1, hW1⟩ : ∃ W1, W1 = wo.alloc (.cells #[.pointer none, .slice none 0 0] 100) := ⟨_, rfl⟩
      have hbn := nX wo 100 5
      rw [← hW1, ← hBeq] at hbn
      have hbw : Below B wo W1 := by rw [hW1, hBeq]; exact au (Below.refl _ _) _
      have hbb : Below w.heap.size w W1 := by rw [hW1]; exact au HB.out _
      have hsz : B < W1.heap.size := by rw [hW1, hBeq]; simp
      have hC9 := (Kd.aV pU.out).2.2
      have HC9 := ae.mk hC9
      have HBN := Lib.hid hbn
      have HBW := Lib.hid hbw
      have HBB0 := Lib.hid hbb
      have HEQ := Lib.hid hBeq
      have HW1 := Lib.hid hW1
      clear hbn hbw hBeq hW1 hC9 hbb
      go_wp2
      rw [← HW1.out, ← HEQ.out]
      go_loopw [53] (fun v53 w' => ∃ i : Nat, i ≤ iK.length ∧ v53 = .int .i64 i ∧ ae (Lib.IsBuilder 100 5 B B (Lib.byteCells (kw (iK.drop (iK.length - i)))) w') ∧ ae (Below B wo w')) (fun v53 _ => iK.length - (intOf v53).toNat)
      case atStart => exact ⟨0, Nat.zero_le _, rfl, ⟨by simpa [kw, Lib.byteCells] using HBN.out⟩, ⟨HBW.out⟩⟩
      case round =>
       obtain ⟨i, hi, rfl, HBI, HBB⟩ := hrel
       have HSZ := Lib.hid (show B ≤ wr.heap.size by have := HBB.out.size; rw [← HEQ.out] at this; exact this)
       by_cases hlt : i < iK.length
       ·have hC := Kd.dC HC9.out (show Below wo.heap.size wo wr by rw [← HEQ.out]; exact HBB.out)
        have hm := (Kd.aV pU.out).2.1
        have hmx := hC.2.1
        obtain ⟨j, hj⟩ : ∃ j : Int, wrap64 (wrap64 ((iK.length : Int) - 1) - (i : Int)) = j := ⟨_, rfl⟩
        have hjv : j = ((iK.length - 1 - i : Nat) : Int) := by rw [← hj]; unfold wrap64; omega
        have hjw : IntKind.i64.wrap (wrap64 ((iK.length : Int) - 1) - (i : Int)) = j := (jD _).trans hj
        obtain ⟨ad, e, hx⟩ := Kd.ql hC j (by omega) (by omega)
        cases e
        have p0 : (0 ≤ j) = True := eq_true (by omega)
        have p1 : (j < (iK.length : Int)) = True := eq_true (by omega)
        have d0 : decide ((i : Int) < (iK.length : Int)) = true := decide_eq_true (by omega)
        have HST := Lib.hid (vo iK i j hlt hjv)
        have HLE := Lib.hid (show (Lib.byteCells (kw (iK.drop (iK.length - i)))).length + (ol ByteArray.empty iK j).size ≤ 140737488355328 by
         have h1 := qR iK (iK.length - (i + 1))
         rw [HST.out, List.length_append] at h1
         have h2 := HCZ.out
         rw [Lib.byteCells_length]
         simp only [Array.length_toList] at h1
         exact Nat.le_trans h1 h2)
        have hwi : wrap64 ((i : Int) + 1) = (i : Int) + 1 := by unfold wrap64; omega
        have hwiw : IntKind.i64.wrap ((i : Int) + 1) = (i : Int) + 1 := (jD _).trans hwi
        have HMX := Lib.hid hmx
        clear hC hm hmx hjv
        go_wp2_with ((with_reducible refine aH (f := 46) rfl ?_); refine bN (some 64) rfl rfl Tryz.func46 (by kernel_rfl) rfl #[.pointer (some ⟨B, 0, none⟩), .string (ol ByteArray.empty iK j)] rfl (by (try simp only [List.map_toArray, List.map_cons, List.map_nil]); first | done | rfl) ?_; (with_reducible refine (Tryz.Builder_WriteString B B _ (ol ByteArray.empty iK j) _ HBI.out HLE.out HSZ.out).mono ?_); rintro e w20 ⟨rfl, hat, hb⟩; refine ⟨_, rfl, ?_⟩; have HAT := ae.mk hat; have HB20 := ae.mk hb; clear hat hb)
        go_roundw
        case rel =>
         have hmx := HMX.out
         refine ⟨i + 1, by omega, by go_num, ⟨?_⟩, ⟨HBB.out.trans HB20.out⟩⟩
         rw [HST.out]
         have h := HAT.out
         have h2 : ∀ (l : List UInt8) (s : ByteArray), Lib.byteCells (l ++ s.data.toList) = Lib.byteCells l ++ Lib.strCells s := fun l s => by simp [Lib.byteCells, Lib.strCells]
         rw [h2]
         exact .inr h
        case measure => have hmx := HMX.out; simp [intOf]; omega
       ·obtain rfl : i = iK.length := by omega
        have d0 : decide (((iK.length : Nat) : Int) < (iK.length : Int)) = false := decide_eq_false (by omega)
        have d1 : decide (iK.length < iK.length) = false := decide_eq_false (by omega)
        clear hi hlt
        have hbi := HBI.out
        rw [Nat.sub_self, List.drop_zero] at hbi
        have HBI2 := Lib.hid hbi
        have HBB2 := Lib.hid (show Below w.heap.size w wr from aj HB.out (by have h := HBB.out; rw [HEQ.out] at h; exact h))
        clear hbi
        by_cases ht : Lib.trimLeftB (kw iK) 48 = []
        ·have hr := HR1.out
         rw [if_pos ht] at hr
         have HR2 := Lib.hid hr
         have HT := Lib.hid ht
         clear hr ht
         go_wp2_with (first
          | ((with_reducible refine aH (f := 47) rfl ?_); refine bN (some 66) rfl rfl Tryz.func47 (by kernel_rfl) rfl #[.pointer (some ⟨B, 0, none⟩)] rfl (by (try simp only [List.map_toArray, List.map_cons, List.map_nil]); first | done | rfl) ?_; (with_reducible refine (Tryz.Builder_String_any B B (kw iK) _ HBI2.out HSZ.out).mono ?_); rintro e w21 ⟨rfl, hb⟩; refine ⟨_, rfl, ?_⟩; have HB21 := Lib.hid hb; clear hb)
          | ((with_reducible refine aH (f := 128) rfl ?_); refine bN (some 67) rfl rfl Tryz.func128 (by kernel_rfl) rfl #[.string ⟨(kw iK).toArray⟩, .string ⟨#[48]⟩] rfl (by (try simp only [List.map_toArray, List.map_cons, List.map_nil]); first | done | rfl) ?_; (with_reducible refine (Tryz.strings_TrimLeft_one ⟨(kw iK).toArray⟩ 48 (by decide) _).mono ?_); rintro e w22 ⟨rfl, rfl⟩; refine ⟨_, rfl, ?_⟩; simp only [HT.out]))
         go_ret2
         exact ⟨by rw [← HR2.out]; rfl, aj HB.out (by rw [← HEQ.out]; exact HBB.out.trans HB21.out)⟩
        ·have hr := HR1.out
         rw [if_neg ht] at hr
         have HR2 := Lib.hid hr
         have hte : (Lib.trimLeftB (kw iK) 48).isEmpty = false := by simp [ht]
         obtain ⟨T, hT⟩ : ∃ T, T = Lib.trimLeftB (kw iK) 48 := ⟨_, rfl⟩
         rw [← hT] at hte ht
         have HT := Lib.hid hT
         clear hr hT
         go_wp2_with (first
          | ((with_reducible refine aH (f := 47) rfl ?_); refine bN (some 66) rfl rfl Tryz.func47 (by kernel_rfl) rfl #[.pointer (some ⟨B, 0, none⟩)] rfl (by (try simp only [List.map_toArray, List.map_cons, List.map_nil]); first | done | rfl) ?_; (with_reducible refine (Tryz.Builder_String_any B B (kw iK) _ HBI2.out HSZ.out).mono ?_); rintro e w21 ⟨rfl, hb⟩; refine ⟨_, rfl, ?_⟩; have HB21 := Lib.hid hb; clear hb)
          | ((with_reducible refine aH (f := 128) rfl ?_); refine bN (some 67) rfl rfl Tryz.func128 (by kernel_rfl) rfl #[.string ⟨(kw iK).toArray⟩, .string ⟨#[48]⟩] rfl (by (try simp only [List.map_toArray, List.map_cons, List.map_nil]); first | done | rfl) ?_; (with_reducible refine (Tryz.strings_TrimLeft_one ⟨(kw iK).toArray⟩ 48 (by decide) _).mono ?_); rintro e w22 ⟨rfl, rfl⟩; refine ⟨_, rfl, ?_⟩; (try (have e_ := HT.out; simp only at e_)); rw [show Lib.trimLeftB (kw iK) 48 = T from HT.out.symm]))
         go_ret2
         exact ⟨by rw [← HR2.out, ← HT.out]; rfl, aj HB.out (by rw [← HEQ.out]; exact HBB.out.trans HB21.out)⟩
     ·rw [if_neg cz] at H
      exact absurd H (by simp)
 ·rw [if_neg c4] at H
  have iQ : (bR == 0) = false := beq_eq_false_iff_ne.mpr c4
  have jv : (bR != 0) = true := bne_iff_ne.mpr c4
  simp only [Option.some.injEq, Prod.mk.injEq] at H
  obtain ⟨rfl, rfl⟩ := H
  go_enter Tryz.func118, Tryz.ntmps118
  go_wp2_with (first | ((with_reducible refine aH (f := 123) rfl ?_); refine bN (some 19) rfl rfl Tryz.func123 (by kernel_rfl) rfl #[.int .i64 a1] rfl qt ?_; (with_reducible refine (jl.calls a1 bR _ A3.out).mono ?_); rintro e w' ⟨rfl, ⟨nd, rfl⟩⟩; refine ⟨_, rfl, ?_⟩))
  go_ret2
  exact ⟨by first | rfl | (simp [errW_none, errW_some] <;> rfl) | (simp [*, errW_none, errW_some] <;> rfl), by repeat (first | (with_reducible first | exact HB.out | apply au | apply ai | apply ak) | exact HB.out)⟩
end Go.Proofs.YteidaijpaijgpaaGreatDoor.P
end
section
namespace Go.Proofs.YteidaijpaijgpaaGreatDoor.P
open Go.RowKit Go.Proofs.YteidaijpaijgpaaGreatDoorW.ay Go.Proofs.YteidaijpaijgpaaGreatDoorW.aQ Go.Proofs.YteidaijpaijgpaaGreatDoorW.aZ
attribute [local go_sem] bz bA bP bQ bq bu bB bC
set_option linter.unusedVariables false
set_option linter.unusedSimpArgs false
def dx.f (k : Nat) (l0 : List Int) : Option (ByteArray) := (dP.f k l0 10).bind fun xn => (some xn.1)
theorem dx.mono : ∀ a0 k, LeO (dx.f k a0) (dx.f (k + 1) a0) := by
 intro a0 k
 unfold dx.f
 repeat' first
   | (with_reducible exact dP.mono _ _ _)
   | (with_reducible exact LeO.refl _)
   | (with_reducible exact LeO.none _)
   | (with_reducible refine LeO.ite ?_ ?_)
   | (with_reducible refine LeO.bind ?_ (fun _ => ?_))
   | exact dP.mono _ _ _
   | exact LeO.none _
   | refine LeO.ite ?_ ?_
   | refine LeO.bind ?_ (fun _ => ?_)
set_option maxHeartbeats 8000000 in
set_option maxRecDepth 100000 in
theorem dx.calls (k : Nat) (A0 : Option Addr) (c0 : Nat) (l0 : List Int) (r : ByteArray) (w : World) (hr0 : Kd.C (Kd.int .u64) w A0 l0.length l0) (hc0 : l0.length ≤ c0) (h : dx.f k l0 = some r) :
  Calls Tryz.prog 110 #[.slice A0 l0.length c0] w fun e w' => e = .returned (.string r) ∧ Below w.heap.size w w' := by
 have HR0 := ae.mk hr0
 have HC0 := ae.mk hc0
 clear hr0 hc0
 have HB := ae.mk (Below.refl w.heap.size w)
 have H : ((dP.f k l0 10).bind fun xn => (some xn.1)) = some r := h
 clear h
 replace H := Option.bind_eq_some_iff.mp H
 obtain ⟨⟨bR, aJ⟩, A20, H⟩ := H
 replace H : (some bR) = some r := H
 have A2 := ae.mk A20
 clear A20
 obtain rfl := Option.some.inj H
 go_enter Tryz.func110, Tryz.ntmps110
 go_wp2_with (first | ((with_reducible refine aH (f := 118) rfl ?_); refine bN (some 7) rfl rfl Tryz.func118 (by kernel_rfl) rfl #[.slice A0 l0.length c0, .int .i64 10] rfl qt ?_; (with_reducible refine (dP.calls k _ _ l0 10 bR aJ _ ?aX ?aY A2.out).mono ?_); (case aX => exact qs (HR0.out)); (case aY => exact HC0.out); rintro e w3 ⟨rfl, hb⟩; refine ⟨_, rfl, ?_⟩; replace HB := ae.mk (aj (qw HB) hb); (try clear hb); (try clear hb2); (try clear hk); (try clear hi)))
 go_ret
 exact ⟨by first | rfl | (simp [errW_none, errW_some] <;> rfl) | (simp [*, errW_none, errW_some] <;> rfl), by repeat (first | (with_reducible first | exact HB.out | apply au | apply ai | apply ak) | exact HB.out)⟩
end Go.Proofs.YteidaijpaijgpaaGreatDoor.P
end
section
namespace Go.Proofs.YteidaijpaijgpaaGreatDoor.P
open Go.RowKit Go.Proofs.YteidaijpaijgpaaGreatDoorW.ay Go.Proofs.YteidaijpaijgpaaGreatDoorW.aQ Go.Proofs.YteidaijpaijgpaaGreatDoorW.aZ
attribute [local go_sem] bz bA bP bQ bq bu bB bC
set_option linter.unusedVariables false
set_option linter.unusedSimpArgs false
def gL.f (k : Nat) (l0 : List Int) : Option (Int) := (dx.f k l0).bind fun bR => (some (bR.size : Int))
theorem gL.mono : ∀ a0 k, LeO (gL.f k a0) (gL.f (k + 1) a0) := by
 intro a0 k
 unfold gL.f
 repeat' first
   | (with_reducible exact dx.mono _ _)
   | (with_reducible exact LeO.refl _)
   | (with_reducible exact LeO.none _)
   | (with_reducible refine LeO.ite ?_ ?_)
   | (with_reducible refine LeO.bind ?_ (fun _ => ?_))
   | exact dx.mono _ _
   | exact LeO.none _
   | refine LeO.ite ?_ ?_
   | refine LeO.bind ?_ (fun _ => ?_)
set_option maxHeartbeats 8000000 in
set_option maxRecDepth 100000 in
theorem gL.calls (k : Nat) (A0 : Option Addr) (c0 : Nat) (l0 : List Int) (r : Int) (w : World) (hr0 : Kd.C (Kd.int .u64) w A0 l0.length l0) (hc0 : l0.length ≤ c0) (h : gL.f k l0 = some r) :
  Calls Tryz.prog 114 #[.slice A0 l0.length c0] w fun e w' => e = .returned (.int .i64 r) ∧ Below w.heap.size w w' := by
 have HR0 := ae.mk hr0
 have HC0 := ae.mk hc0
 clear hr0 hc0
 have HB := ae.mk (Below.refl w.heap.size w)
 have H : ((dx.f k l0).bind fun bR => (some (bR.size : Int))) = some r := h
 clear h
 replace H := Option.bind_eq_some_iff.mp H
 obtain ⟨bR, A20, H⟩ := H
 replace H : (some (bR.size : Int)) = some r := H
 have A2 := ae.mk A20
 clear A20
 obtain rfl := Option.some.inj H
 go_enter Tryz.func114, Tryz.ntmps114
 go_wp2_with (first | ((with_reducible refine aH (f := 110) rfl ?_); refine bN (some 4) rfl rfl Tryz.func110 (by kernel_rfl) rfl #[.slice A0 l0.length c0] rfl qt ?_; (with_reducible refine (dx.calls k _ _ l0 bR _ ?aX ?aY A2.out).mono ?_); (case aX => exact qs (HR0.out)); (case aY => exact HC0.out); rintro e w3 ⟨rfl, hb⟩; refine ⟨_, rfl, ?_⟩; replace HB := ae.mk (aj (qw HB) hb); (try clear hb); (try clear hb2); (try clear hk); (try clear hi)))
 go_ret
 exact ⟨by first | rfl | (simp [errW_none, errW_some] <;> rfl) | (simp [*, errW_none, errW_some] <;> rfl), by repeat (first | (with_reducible first | exact HB.out | apply au | apply ai | apply ak) | exact HB.out)⟩
end Go.Proofs.YteidaijpaijgpaaGreatDoor.P
end
section
namespace Go.Proofs.YteidaijpaijgpaaGreatDoor.P
open Go.RowKit Go.Proofs.YteidaijpaijgpaaGreatDoorW.ay Go.Proofs.YteidaijpaijgpaaGreatDoorW.aQ Go.Proofs.YteidaijpaijgpaaGreatDoorW.aZ
attribute [local go_sem] bz bA bP bQ bq bu bB bC
set_option linter.unusedVariables false
set_option linter.unusedSimpArgs false
def fZ.f (k : Nat) (aD : Bool) (cK : List Int) (eU : List Int) : Option (Int) := (gL.f k eU).bind fun aJ => (some aJ)
theorem fZ.mono : ∀ a0 a1 a2 k, LeO (fZ.f k a0 a1 a2) (fZ.f (k + 1) a0 a1 a2) := by
 intro a0 a1 a2 k
 unfold fZ.f
 repeat' first
   | (with_reducible exact gL.mono _ _)
   | (with_reducible exact LeO.refl _)
   | (with_reducible exact LeO.none _)
   | (with_reducible refine LeO.ite ?_ ?_)
   | (with_reducible refine LeO.bind ?_ (fun _ => ?_))
   | exact gL.mono _ _
   | exact LeO.none _
   | refine LeO.ite ?_ ?_
   | refine LeO.bind ?_ (fun _ => ?_)
set_option maxHeartbeats 8000000 in
set_option maxRecDepth 100000 in
theorem fZ.calls (k : Nat) (aD : Bool) (gq : Option Addr) (c0_1 : Nat) (cK : List Int) (iT : Option Addr) (c0_2 : Nat) (eU : List Int) (r : Int) (w : World) (hr0_1 : Kd.C (Kd.int .u64) w gq cK.length cK) (hc0_1 : cK.length ≤ c0_1) (hr0_2 : Kd.C (Kd.int .u64) w iT eU.length eU) (hc0_2 : eU.length ≤ c0_2) (h : fZ.f k aD cK eU = some r) :
  Calls Tryz.prog 99 #[.agg #[.bool aD, .slice gq cK.length c0_1, .slice iT eU.length c0_2]] w fun e w' => e = .returned (.int .i64 r) ∧ Below w.heap.size w w' := by
 have hu72 := Tryz.underlying72
 have kH := ae.mk hr0_1
 have kI := ae.mk hc0_1
 clear hr0_1 hc0_1
 have mP := ae.mk hr0_2
 have mQ := ae.mk hc0_2
 clear hr0_2 hc0_2
 have HB := ae.mk (Below.refl w.heap.size w)
 have H : ((gL.f k eU).bind fun aJ => (some aJ)) = some r := h
 clear h
 replace H := Option.bind_eq_some_iff.mp H
 obtain ⟨aJ, A20, H⟩ := H
 replace H : (some aJ) = some r := H
 have A2 := ae.mk A20
 clear A20
 obtain rfl := Option.some.inj H
 go_enter Tryz.func99, Tryz.ntmps99
 go_wp2_with (first | ((with_reducible refine bg (N := 1) rfl ?_); refine bE ?hg (N := 1) ?hd (cs := #[.bool aD, .slice gq cK.length c0_1, .slice iT eU.length c0_2]) (t := 72) ?hr ?_; (case hd => rfl); (case hg => rfl); (case hr => first | (go_simp; done) | (go_simp; rfl)); intro av hg w3 hbox hb; have ag := ae.mk (hbox); have GW101 := qge HB hg; have dh := qge HB hg; replace HB := ae.mk (aj (qw HB) hb); clear hb hbox hg; have hcz4_0 : w3.cell? ⟨av, 0, none⟩ = some (.bool aD) := (af ag.out 0).trans rfl; have hcz4_1 : w3.cell? ⟨av, 1, none⟩ = some (.slice gq cK.length c0_1) := (af ag.out 1).trans rfl; have hcz4_2 : w3.cell? ⟨av, 2, none⟩ = some (.slice iT eU.length c0_2) := (af ag.out 2).trans rfl; have hfz4_0 := ah ag.out 0; have hfz4_1 := ah ag.out 1; have hfz4_2 := ah ag.out 2) | ((with_reducible refine aH (f := 114) rfl ?_); refine bN (some 5) rfl rfl Tryz.func114 (by kernel_rfl) rfl #[.slice iT eU.length c0_2] rfl qt ?_; (with_reducible refine (gL.calls k _ _ eU aJ _ ?aX ?aY A2.out).mono ?_); (case aX => exact qs ((Kd.dC mP.out HB.out))); (case aY => exact mQ.out); rintro e w5 ⟨rfl, hb⟩; refine ⟨_, rfl, ?_⟩; replace ag := qbb ag hb; replace HB := ae.mk (aj (qw HB) hb); (try clear hb); (try clear hb2); (try clear hk); (try clear hi)))
 go_ret
 exact ⟨by first | rfl | (simp [errW_none, errW_some] <;> rfl) | (simp [*, errW_none, errW_some] <;> rfl), by repeat (first | (with_reducible first | exact HB.out | apply au | apply ai | apply ak | refine bn ?_ dh.out) | exact HB.out)⟩
end Go.Proofs.YteidaijpaijgpaaGreatDoor.P
end
section
namespace Go.Proofs.YteidaijpaijgpaaGreatDoor.P
open Go.RowKit Go.Proofs.YteidaijpaijgpaaGreatDoorW.ay Go.Proofs.YteidaijpaijgpaaGreatDoorW.aQ Go.Proofs.YteidaijpaijgpaaGreatDoorW.aZ
attribute [local go_sem] bz bA bP bQ bq bu bB bC
set_option linter.unusedVariables false
set_option linter.unusedSimpArgs false
def gI.f (k : Nat) (aD : ByteArray) (aA : ByteArray) (bU : ByteArray) (bf : Bool) (fG : List Int) (jN : List Int) : Option (Bool) := (gM.f aD).bind fun aJ => (if aJ = true then (some true) else ((fZ.f k bf fG jN).bind fun bJ => (some (decide (9 < bJ)))))
theorem gI.mono : ∀ a0 a1 a2 a3 a4 a5 k, LeO (gI.f k a0 a1 a2 a3 a4 a5) (gI.f (k + 1) a0 a1 a2 a3 a4 a5) := by
 intro a0 a1 a2 a3 a4 a5 k
 unfold gI.f
 repeat' first
   | (with_reducible exact fZ.mono _ _ _ _)
   | (with_reducible exact LeO.refl _)
   | (with_reducible exact LeO.none _)
   | (with_reducible refine LeO.ite ?_ ?_)
   | (with_reducible refine LeO.bind ?_ (fun _ => ?_))
   | exact fZ.mono _ _ _ _
   | exact LeO.none _
   | refine LeO.ite ?_ ?_
   | refine LeO.bind ?_ (fun _ => ?_)
set_option maxHeartbeats 8000000 in
set_option maxRecDepth 100000 in
theorem gI.calls (k : Nat) (aD : ByteArray) (aA : ByteArray) (bU : ByteArray) (bf : Bool) (je : Option Addr) (c0_4 : Nat) (fG : List Int) (oz : Option Addr) (c0_5 : Nat) (jN : List Int) (r : Bool) (w : World) (hr0_4 : Kd.C (Kd.int .u64) w je fG.length fG) (hc0_4 : fG.length ≤ c0_4) (hr0_5 : Kd.C (Kd.int .u64) w oz jN.length jN) (hc0_5 : jN.length ≤ c0_5) (h : gI.f k aD aA bU bf fG jN = some r) :
  Calls Tryz.prog 75 #[.agg #[.string aD, .string aA, .string bU, .bool bf, .slice je fG.length c0_4, .slice oz jN.length c0_5]] w fun e w' => e = .returned (.bool r) ∧ Below w.heap.size w w' := by
 have hu74 := Tryz.underlying74
 have hu72 := Tryz.underlying72
 have nI := ae.mk hr0_4
 have nJ := ae.mk hc0_4
 clear hr0_4 hc0_4
 have xq := ae.mk hr0_5
 have xu := ae.mk hc0_5
 clear hr0_5 hc0_5
 have HB := ae.mk (Below.refl w.heap.size w)
 have H : ((gM.f aD).bind fun aJ => (if aJ = true then (some true) else ((fZ.f k bf fG jN).bind fun bJ => (some (decide (9 < bJ)))))) = some r := h
 clear h
 replace H := Option.bind_eq_some_iff.mp H
 obtain ⟨aJ, A20, H⟩ := H
 replace H : (if aJ = true then (some true) else ((fZ.f k bf fG jN).bind fun bJ => (some (decide (9 < bJ))))) = some r := H
 have A2 := ae.mk A20
 clear A20
 by_cases c3 : aJ = true
 ·subst c3
  have H1 : (some true) = some r := by rw [if_pos rfl] at H; exact H
  clear H
  have H := H1
  clear H1
  obtain rfl := Option.some.inj H
  go_enter Tryz.func75, Tryz.ntmps75
  go_wp2_with (first | ((with_reducible refine bg (N := 1) rfl ?_); refine bE ?hg (N := 1) ?hd (cs := #[.string aD, .string aA, .string bU, .bool bf, .slice je fG.length c0_4, .slice oz jN.length c0_5]) (t := 74) ?hr ?_; (case hd => rfl); (case hg => rfl); (case hr => first | (go_simp; done) | (go_simp; rfl)); intro av hg w4 hbox hb; have ag := ae.mk (hbox); have GW101 := qge HB hg; have dh := qge HB hg; replace HB := ae.mk (aj (qw HB) hb); clear hb hbox hg; have hcz5_0 : w4.cell? ⟨av, 0, none⟩ = some (.string aD) := (af ag.out 0).trans rfl; have hcz5_1 : w4.cell? ⟨av, 1, none⟩ = some (.string aA) := (af ag.out 1).trans rfl; have hcz5_2 : w4.cell? ⟨av, 2, none⟩ = some (.string bU) := (af ag.out 2).trans rfl; have hcz5_3 : w4.cell? ⟨av, 3, none⟩ = some (.bool bf) := (af ag.out 3).trans rfl; have hcz5_4 : w4.cell? ⟨av, 4, none⟩ = some (.slice je fG.length c0_4) := (af ag.out 4).trans rfl; have hcz5_5 : w4.cell? ⟨av, 5, none⟩ = some (.slice oz jN.length c0_5) := (af ag.out 5).trans rfl; have hfz5_0 := ah ag.out 0; have hfz5_1 := ah ag.out 1; have hfz5_2 := ah ag.out 2; have hfz5_3 := ah ag.out 3; have hfz5_4 := ah ag.out 4; have hfz5_5 := ah ag.out 5) | ((with_reducible refine aH (f := 71) rfl ?_); refine bN (some 5) rfl rfl Tryz.func71 (by kernel_rfl) rfl #[.string aD] rfl qt ?_; (with_reducible refine (gM.calls aD true _ A2.out).mono ?_); rintro e w' ⟨rfl, ⟨nd, rfl⟩⟩; refine ⟨_, rfl, ?_⟩))
  go_ret
  exact ⟨by first | rfl | (simp [errW_none, errW_some] <;> rfl) | (simp [*, errW_none, errW_some] <;> rfl), by repeat (first | (with_reducible first | exact HB.out | apply au | apply ai | apply ak | refine bn ?_ dh.out) | exact HB.out)⟩
 ·replace c3 := Bool.eq_false_iff.mpr c3
  subst c3
  have H1 : ((fZ.f k bf fG jN).bind fun bJ => (some (decide (9 < bJ)))) = some r := by rw [if_neg (show ¬ (false = true) by decide)] at H; exact H
  clear H
  have H := H1
  clear H1
  replace H := Option.bind_eq_some_iff.mp H
  obtain ⟨bJ, A60, H⟩ := H
  replace H : (some (decide (9 < bJ))) = some r := H
  have A6 := ae.mk A60
  clear A60
  obtain rfl := Option.some.inj H
  go_enter Tryz.func75, Tryz.ntmps75
  go_wp2_with (first | ((with_reducible refine bg (N := 1) rfl ?_); refine bE ?hg (N := 1) ?hd (cs := #[.string aD, .string aA, .string bU, .bool bf, .slice je fG.length c0_4, .slice oz jN.length c0_5]) (t := 74) ?hr ?_; (case hd => rfl); (case hg => rfl); (case hr => first | (go_simp; done) | (go_simp; rfl)); intro av hg w7 hbox hb; have ag := ae.mk (hbox); have GW101 := qge HB hg; have dh := qge HB hg; replace HB := ae.mk (aj (qw HB) hb); clear hb hbox hg; have hcz8_0 : w7.cell? ⟨av, 0, none⟩ = some (.string aD) := (af ag.out 0).trans rfl; have hcz8_1 : w7.cell? ⟨av, 1, none⟩ = some (.string aA) := (af ag.out 1).trans rfl; have hcz8_2 : w7.cell? ⟨av, 2, none⟩ = some (.string bU) := (af ag.out 2).trans rfl; have hcz8_3 : w7.cell? ⟨av, 3, none⟩ = some (.bool bf) := (af ag.out 3).trans rfl; have hcz8_4 : w7.cell? ⟨av, 4, none⟩ = some (.slice je fG.length c0_4) := (af ag.out 4).trans rfl; have hcz8_5 : w7.cell? ⟨av, 5, none⟩ = some (.slice oz jN.length c0_5) := (af ag.out 5).trans rfl; have hfz8_0 := ah ag.out 0; have hfz8_1 := ah ag.out 1; have hfz8_2 := ah ag.out 2; have hfz8_3 := ah ag.out 3; have hfz8_4 := ah ag.out 4; have hfz8_5 := ah ag.out 5) | ((with_reducible refine aH (f := 71) rfl ?_); refine bN (some 5) rfl rfl Tryz.func71 (by kernel_rfl) rfl #[.string aD] rfl qt ?_; (with_reducible refine (gM.calls aD false _ A2.out).mono ?_); rintro e w' ⟨rfl, ⟨nd, rfl⟩⟩; refine ⟨_, rfl, ?_⟩) | (go_at_call 99; (with_reducible refine (fZ.calls k bf _ _ fG _ _ jN bJ _ ?aX ?aY ?jK ?jL A6.out).mono ?_); (case aX => repeat (first | exact (Kd.dC nI.out (qw HB)) | (with_reducible refine Kd.oH ?_ _) | (with_reducible refine Kd.oI ?_ _) | (with_reducible refine Kd.qF ?_))); (case aY => exact nJ.out); (case jK => repeat (first | exact (Kd.dC xq.out (qw HB)) | (with_reducible refine Kd.oH ?_ _) | (with_reducible refine Kd.oI ?_ _) | (with_reducible refine Kd.qF ?_))); (case jL => exact xu.out); rintro e w9 ⟨rfl, hb⟩; replace ag := qbb ag hb; replace HB := ae.mk (aj (qw HB) hb); (try clear hb); (try clear hb2); (try clear hk); (try clear hi)))
  go_ret
  exact ⟨by first | rfl | (simp [errW_none, errW_some] <;> rfl) | (simp [*, errW_none, errW_some] <;> rfl), by repeat (first | (with_reducible first | exact HB.out | apply au | apply ai | apply ak | refine bn ?_ dh.out) | exact HB.out)⟩
end Go.Proofs.YteidaijpaijgpaaGreatDoor.P
end
section
namespace Go.Proofs.YteidaijpaijgpaaGreatDoor.P
open Go.RowKit Go.Proofs.YteidaijpaijgpaaGreatDoorW.ay Go.Proofs.YteidaijpaijgpaaGreatDoorW.aQ Go.Proofs.YteidaijpaijgpaaGreatDoorW.aZ
attribute [local go_sem] bz bA bP bQ bq bu bB bC
set_option linter.unusedVariables false
set_option linter.unusedSimpArgs false
def dW.l0 : Nat → List (S74) → Int → Int → Option (Int)
 | 0, _, _, _ => none
 | k + 1, x0, x7, x8 => if x8 < x7 then (if 0 ≤ x8 then (if x8 < (x0.length : Int) then ((gI.f k ((bS x0 x8).f0) ((bS x0 x8).f1) ((bS x0 x8).f2) ((bS x0 x8).f3.f0.f0) ((bS x0 x8).f3.f0.f1) ((bS x0 x8).f3.f1)).bind fun aJ => (if aJ = true then (some x8) else (dW.l0 k x0 x7 (wrap64 (x8 + 1))))) else (none)) else (none)) else (some (-1))
def dW.f (k : Nat) (l0 : List (S74)) (a1 : Bool) : Option (Int) := dW.l0 k l0 (l0.length : Int) 0
theorem dW.dF : ∀ k, (∀ y0 y1 y2, LeO (dW.l0 k y0 y1 y2) (dW.l0 (k + 1) y0 y1 y2))
 | 0 => fun _ _ _ r h => by simp [dW.l0] at h
 | k + 1 => by
  have ih0 := dW.dF k
  ·intro y0 y1 y2
   unfold dW.l0
   repeat' first
   | (with_reducible exact ih0 _ _ _)
   | (with_reducible exact gI.mono _ _ _ _ _ _ _)
   | (with_reducible exact LeO.refl _)
   | (with_reducible exact LeO.none _)
   | (with_reducible refine LeO.ite ?_ ?_)
   | (with_reducible refine LeO.bind ?_ (fun _ => ?_))
   | exact ih0 _ _ _
   | exact gI.mono _ _ _ _ _ _ _
   | exact LeO.none _
   | refine LeO.ite ?_ ?_
   | refine LeO.bind ?_ (fun _ => ?_)
theorem dW.mono : ∀ a0 a1 k, LeO (dW.f k a0 a1) (dW.f (k + 1) a0 a1) := by
 intro a0 a1 k
 have ih0 := dW.dF k
 unfold dW.f
 repeat' first
   | (with_reducible exact ih0 _ _ _)
   | (with_reducible exact gI.mono _ _ _ _ _ _ _)
   | (with_reducible exact LeO.refl _)
   | (with_reducible exact LeO.none _)
   | (with_reducible refine LeO.ite ?_ ?_)
   | (with_reducible refine LeO.bind ?_ (fun _ => ?_))
   | exact ih0 _ _ _
   | exact gI.mono _ _ _ _ _ _ _
   | exact LeO.none _
   | refine LeO.ite ?_ ?_
   | refine LeO.bind ?_ (fun _ => ?_)
set_option maxHeartbeats 8000000 in
set_option maxRecDepth 100000 in
theorem dW.calls (k : Nat) (A0 : Option Addr) (c0 : Nat) (l0 : List (S74)) (a1 : Bool) (r : Int) (w : World) (hr0 : Kd.C k74 w A0 l0.length l0) (hc0 : l0.length ≤ c0) (h : dW.f k l0 a1 = some r) :
  Calls Tryz.prog 98 #[.slice A0 l0.length c0, .func (.func 75) #[] #[]] w fun e w' => e = .returned (.int .i64 r) ∧ Below w.heap.size w w' := by
 have hu74 := Tryz.underlying74
 have HR0 := ae.mk hr0
 have HC0 := ae.mk hc0
 clear hr0 hc0
 have HB := ae.mk (Below.refl w.heap.size w)
 have H : (dW.l0 k l0 (l0.length : Int) 0) = some r := h
 clear h
 have H' := ae.mk H
 clear H
 go_enter Tryz.func98, Tryz.ntmps98
 go_wp2
 go_loopg [8] k (fun kq v8 w' => ∃ (aW : Int), v8 = .int .i64 aW ∧ ae (dW.l0 kq l0 (l0.length : Int) aW = some r) ∧ ae (kq ≤ k) ∧ ae (Below w.heap.size w w'))
 case atStart => exact ⟨(0), (by first | rfl | (simp; done) | (simp [*]; done)), H', ⟨Nat.le_refl _⟩, ⟨by repeat (first | (with_reducible first | exact HB.out | apply au | apply ai | apply ak) | exact HB.out)⟩⟩
 case round =>
  clear H'
  try clear p2
  obtain ⟨aW, rfl, HA, HK1, HB⟩ := hrel
  cases gk with
  | zero => exact absurd HA.out (by simp [dW.l0])
  | succ k1 =>
   have H := HA.out
   clear HA
   simp only [dW.l0] at H
   by_cases c3 : aW < (l0.length : Int)
   ·rw [if_pos c3] at H
    have gN : decide (aW < (l0.length : Int)) = true := decide_eq_true c3
    clear c3
    by_cases c4 : 0 ≤ aW
    ·rw [if_pos c4] at H
     have iQ : decide (0 ≤ aW) = true := decide_eq_true c4
     clear c4
     by_cases c5 : aW < (l0.length : Int)
     ·rw [if_pos c5] at H
      have jG : decide (aW < (l0.length : Int)) = true := decide_eq_true c5
      clear c5
      replace H := Option.bind_eq_some_iff.mp H
      obtain ⟨aJ, A60, H⟩ := H
      replace H : (if aJ = true then (some aW) else (dW.l0 k1 l0 (l0.length : Int) (wrap64 (aW + 1)))) = some r := H
      have A6 := ae.mk A60
      clear A60
      by_cases c7 : aJ = true
      ·subst c7
       have H1 : (some aW) = some r := by rw [if_pos rfl] at H; exact H
       clear H
       have H := H1
       clear H1
       obtain rfl := Option.some.inj H
       have p101 : 0 ≤ (aW : Int) := of_decide_eq_true qa
       have q101 : aW < (l0.length : Int) := of_decide_eq_true qa
       obtain ⟨ad101, ng, c101_4, tZ, c101_5, e101, hx101_0, hx101_1, hx101_2, hx101_3, hx101_4, hx101_5, hl101_4, hi101_4, hl101_5, hi101_5⟩ := tu HR0.out aW p101 q101
       cases e101
       replace hx101_0 := (HB.out.cell (World.block_lt_of_cell? w _ hx101_0)).trans hx101_0
       replace hx101_1 := (HB.out.cell (World.block_lt_of_cell? w _ hx101_1)).trans hx101_1
       replace hx101_2 := (HB.out.cell (World.block_lt_of_cell? w _ hx101_2)).trans hx101_2
       replace hx101_3 := (HB.out.cell (World.block_lt_of_cell? w _ hx101_3)).trans hx101_3
       replace hx101_4 := (HB.out.cell (World.block_lt_of_cell? w _ hx101_4)).trans hx101_4
       replace hx101_5 := (HB.out.cell (World.block_lt_of_cell? w _ hx101_5)).trans hx101_5
       have lG := ae.mk hi101_4
       have lH := ae.mk hl101_4
       clear hi101_4 hl101_4
       have qU := ae.mk hi101_5
       have qV := ae.mk hl101_5
       clear hi101_5 hl101_5
       replace p101 := eq_true p101
       replace q101 := eq_true q101
       go_wp2_with (first | ((with_reducible refine Go.Proofs.YteidaijpaijgpaaGreatDoorV.eG (s := 11) rfl ?_); refine Go.Proofs.YteidaijpaijgpaaGreatDoorV.gW (some 16) rfl rfl Tryz.func75 (by kernel_rfl) rfl #[.agg #[.string ((bS l0 aW).f0), .string ((bS l0 aW).f1), .string ((bS l0 aW).f2), .bool ((bS l0 aW).f3.f0.f0), .slice ng ((bS l0 aW).f3.f0.f1).length c101_4, .slice tZ ((bS l0 aW).f3.f1).length c101_5]] rfl qt ?_; (with_reducible refine (gI.calls k1 ((bS l0 aW).f0) ((bS l0 aW).f1) ((bS l0 aW).f2) ((bS l0 aW).f3.f0.f0) _ _ ((bS l0 aW).f3.f0.f1) _ _ ((bS l0 aW).f3.f1) true _ ?aX ?aY ?jK ?jL A6.out).mono ?_); (case aX => exact qs ((Kd.dC lG.out HB.out))); (case aY => exact lH.out); (case jK => exact qs ((Kd.dC qU.out HB.out))); (case jL => exact qV.out); rintro e w8 ⟨rfl, hb⟩; refine ⟨_, rfl, ?_⟩; replace HB := ae.mk (aj (qw HB) hb); (try clear hb); (try clear hb2); (try clear hk); (try clear hi)))
       go_ret
       exact ⟨by first | rfl | (simp [errW_none, errW_some] <;> rfl) | (simp [*, errW_none, errW_some] <;> rfl), by repeat (first | (with_reducible first | exact HB.out | apply au | apply ai | apply ak) | exact HB.out)⟩
      ·replace c7 := Bool.eq_false_iff.mpr c7
       subst c7
       have H1 : (dW.l0 k1 l0 (l0.length : Int) (wrap64 (aW + 1))) = some r := by rw [if_neg (show ¬ (false = true) by decide)] at H; exact H
       clear H
       have H := H1
       clear H1
       have H' := ae.mk H
       clear H
       have p101 : 0 ≤ (aW : Int) := of_decide_eq_true qa
       have q101 : aW < (l0.length : Int) := of_decide_eq_true qa
       obtain ⟨ad101, ng, c101_4, tZ, c101_5, e101, hx101_0, hx101_1, hx101_2, hx101_3, hx101_4, hx101_5, hl101_4, hi101_4, hl101_5, hi101_5⟩ := tu HR0.out aW p101 q101
       cases e101
       replace hx101_0 := (HB.out.cell (World.block_lt_of_cell? w _ hx101_0)).trans hx101_0
       replace hx101_1 := (HB.out.cell (World.block_lt_of_cell? w _ hx101_1)).trans hx101_1
       replace hx101_2 := (HB.out.cell (World.block_lt_of_cell? w _ hx101_2)).trans hx101_2
       replace hx101_3 := (HB.out.cell (World.block_lt_of_cell? w _ hx101_3)).trans hx101_3
       replace hx101_4 := (HB.out.cell (World.block_lt_of_cell? w _ hx101_4)).trans hx101_4
       replace hx101_5 := (HB.out.cell (World.block_lt_of_cell? w _ hx101_5)).trans hx101_5
       have lG := ae.mk hi101_4
       have lH := ae.mk hl101_4
       clear hi101_4 hl101_4
       have qU := ae.mk hi101_5
       have qV := ae.mk hl101_5
       clear hi101_5 hl101_5
       replace p101 := eq_true p101
       replace q101 := eq_true q101
       go_wp2_with (first | ((with_reducible refine Go.Proofs.YteidaijpaijgpaaGreatDoorV.eG (s := 11) rfl ?_); refine Go.Proofs.YteidaijpaijgpaaGreatDoorV.gW (some 16) rfl rfl Tryz.func75 (by kernel_rfl) rfl #[.agg #[.string ((bS l0 aW).f0), .string ((bS l0 aW).f1), .string ((bS l0 aW).f2), .bool ((bS l0 aW).f3.f0.f0), .slice ng ((bS l0 aW).f3.f0.f1).length c101_4, .slice tZ ((bS l0 aW).f3.f1).length c101_5]] rfl qt ?_; (with_reducible refine (gI.calls k1 ((bS l0 aW).f0) ((bS l0 aW).f1) ((bS l0 aW).f2) ((bS l0 aW).f3.f0.f0) _ _ ((bS l0 aW).f3.f0.f1) _ _ ((bS l0 aW).f3.f1) false _ ?aX ?aY ?jK ?jL A6.out).mono ?_); (case aX => exact qs ((Kd.dC lG.out HB.out))); (case aY => exact lH.out); (case jK => exact qs ((Kd.dC qU.out HB.out))); (case jL => exact qV.out); rintro e w9 ⟨rfl, hb⟩; refine ⟨_, rfl, ?_⟩; replace HB := ae.mk (aj (qw HB) hb); (try clear hb); (try clear hb2); (try clear hk); (try clear hi)))
       go_roundg k1
       case measure => have := HK1.out; omega
       case rel => exact ⟨(wrap64 (aW + 1)), (by first | rfl | (simp; done) | (simp [*]; done)), H', ⟨by have := HK1.out; omega⟩, ⟨by repeat (first | (with_reducible first | exact HB.out | apply au | apply ai | apply ak) | exact HB.out)⟩⟩
     ·rw [if_neg c5] at H
      exact absurd H (by simp)
    ·rw [if_neg c4] at H
     exact absurd H (by simp)
   ·rw [if_neg c3] at H
    have gN : decide (aW < (l0.length : Int)) = false := decide_eq_false c3
    clear c3
    obtain rfl := Option.some.inj H
    go_wp2
    go_ret
    exact ⟨by first | rfl | (simp [errW_none, errW_some] <;> rfl) | (simp [*, errW_none, errW_some] <;> rfl), by repeat (first | (with_reducible first | exact HB.out | apply au | apply ai | apply ak) | exact HB.out)⟩
end Go.Proofs.YteidaijpaijgpaaGreatDoor.P
end
section
namespace Go.Proofs.YteidaijpaijgpaaGreatDoor.P
open Go.RowKit Go.Proofs.YteidaijpaijgpaaGreatDoorW.ay Go.Proofs.YteidaijpaijgpaaGreatDoorW.aQ Go.Proofs.YteidaijpaijgpaaGreatDoorW.aZ
attribute [local go_sem] bz bA bP bQ bq bu bB bC
set_option linter.unusedVariables false
set_option linter.unusedSimpArgs false
def fO.f (k : Nat) (l0 : List (S74)) (a1 : Bool) : Option (Bool) := (dW.f k l0 a1).bind fun bR => (some (decide (0 ≤ bR)))
theorem fO.mono : ∀ a0 a1 k, LeO (fO.f k a0 a1) (fO.f (k + 1) a0 a1) := by
 intro a0 a1 k
 unfold fO.f
 repeat' first
   | (with_reducible exact dW.mono _ _ _)
   | (with_reducible exact LeO.refl _)
   | (with_reducible exact LeO.none _)
   | (with_reducible refine LeO.ite ?_ ?_)
   | (with_reducible refine LeO.bind ?_ (fun _ => ?_))
   | exact dW.mono _ _ _
   | exact LeO.none _
   | refine LeO.ite ?_ ?_
   | refine LeO.bind ?_ (fun _ => ?_)
set_option maxHeartbeats 8000000 in
set_option maxRecDepth 100000 in
theorem fO.calls (k : Nat) (A0 : Option Addr) (c0 : Nat) (l0 : List (S74)) (a1 : Bool) (r : Bool) (w : World) (hr0 : Kd.C k74 w A0 l0.length l0) (hc0 : l0.length ≤ c0) (h : fO.f k l0 a1 = some r) :
  Calls Tryz.prog 74 #[.slice A0 l0.length c0, .func (.func 75) #[] #[]] w fun e w' => e = .returned (.bool r) ∧ Below w.heap.size w w' := by
 have HR0 := ae.mk hr0
 have HC0 := ae.mk hc0
 clear hr0 hc0
 have HB := ae.mk (Below.refl w.heap.size w)
 have H : ((dW.f k l0 a1).bind fun bR => (some (decide (0 ≤ bR)))) = some r := h
 clear h
 replace H := Option.bind_eq_some_iff.mp H
 obtain ⟨bR, A30, H⟩ := H
 replace H : (some (decide (0 ≤ bR))) = some r := H
 have A3 := ae.mk A30
 clear A30
 obtain rfl := Option.some.inj H
 go_enter Tryz.func74, Tryz.ntmps74
 go_wp2_with (first | ((with_reducible refine aH (f := 98) rfl ?_); refine bN (some 7) rfl rfl Tryz.func98 (by kernel_rfl) rfl #[.slice A0 l0.length c0, .func (.func 75) #[] #[]] rfl qt ?_; (with_reducible refine (dW.calls k _ _ l0 a1 bR _ ?aX ?aY A3.out).mono ?_); (case aX => exact qs (HR0.out)); (case aY => exact HC0.out); rintro e w4 ⟨rfl, hb⟩; refine ⟨_, rfl, ?_⟩; replace HB := ae.mk (aj (qw HB) hb); (try clear hb); (try clear hb2); (try clear hk); (try clear hi)))
 go_ret
 exact ⟨by first | rfl | (simp [errW_none, errW_some] <;> rfl) | (simp [*, errW_none, errW_some] <;> rfl), by repeat (first | (with_reducible first | exact HB.out | apply au | apply ai | apply ak) | exact HB.out)⟩
end Go.Proofs.YteidaijpaijgpaaGreatDoor.P
end
section
namespace Go.Proofs.YteidaijpaijgpaaGreatDoor.P
open Go.RowKit Go.Proofs.YteidaijpaijgpaaGreatDoorW.ay Go.Proofs.YteidaijpaijgpaaGreatDoorW.aQ Go.Proofs.YteidaijpaijgpaaGreatDoorW.aZ
attribute [local go_sem] bz bA bP bQ bq bu bB bC
set_option linter.unusedVariables false
set_option linter.unusedSimpArgs false
def jX.f (aD : ByteArray) (cK : List (S25)) : Option (Bool) := (gM.f aD).bind fun aJ => (if aJ = true then (some true) else (some (decide (8 < (cK.length : Int)))))
set_option maxHeartbeats 8000000 in
set_option maxRecDepth 100000 in
theorem jX.calls (aD : ByteArray) (gq : Option Addr) (c0_1 : Nat) (cK : List (S25)) (r : Bool) (w : World) (hr0_1 : Kd.C k25 w gq cK.length cK) (hc0_1 : cK.length ≤ c0_1) (h : jX.f aD cK = some r) :
  Calls Tryz.prog 73 #[.agg #[.string aD, .slice gq cK.length c0_1]] w fun e w' => e = .returned (.bool r) ∧ Below w.heap.size w w' := by
 have hu66 := Tryz.underlying66
 have kH := ae.mk hr0_1
 have kI := ae.mk hc0_1
 clear hr0_1 hc0_1
 have HB := ae.mk (Below.refl w.heap.size w)
 have H : ((gM.f aD).bind fun aJ => (if aJ = true then (some true) else (some (decide (8 < (cK.length : Int)))))) = some r := h
 clear h
 replace H := Option.bind_eq_some_iff.mp H
 obtain ⟨aJ, A20, H⟩ := H
 replace H : (if aJ = true then (some true) else (some (decide (8 < (cK.length : Int))))) = some r := H
 have A2 := ae.mk A20
 clear A20
 by_cases c3 : aJ = true
 ·subst c3
  have H1 : (some true) = some r := by rw [if_pos rfl] at H; exact H
  clear H
  have H := H1
  clear H1
  obtain rfl := Option.some.inj H
  go_enter Tryz.func73, Tryz.ntmps73
  go_wp2_with (first | ((with_reducible refine bg (N := 1) rfl ?_); (try (refine eY (by rfl) ?_; dsimp only)); refine bE ?hg (N := 1) ?hd (cs := #[.string aD, .slice gq cK.length c0_1]) (t := 66) ?hr ?_; (case hd => rfl); (case hg => rfl); (case hr => first | (go_simp; done) | (go_simp; rfl)); intro av hg w4 hbox hb; have ag := ae.mk (hbox); have GW101 := qge HB hg; have dh := qge HB hg; replace HB := ae.mk (aj (qw HB) hb); clear hb hbox hg; have hcz5_0 : w4.cell? ⟨av, 0, none⟩ = some (.string aD) := (af ag.out 0).trans rfl; have hcz5_1 : w4.cell? ⟨av, 1, none⟩ = some (.slice gq cK.length c0_1) := (af ag.out 1).trans rfl; have hfz5_0 := ah ag.out 0; have hfz5_1 := ah ag.out 1) | ((with_reducible refine aH (f := 71) rfl ?_); refine bN (some 5) rfl rfl Tryz.func71 (by kernel_rfl) rfl #[.string aD] rfl qt ?_; (with_reducible refine (gM.calls aD true _ A2.out).mono ?_); rintro e w' ⟨rfl, ⟨nd, rfl⟩⟩; refine ⟨_, rfl, ?_⟩))
  go_ret
  exact ⟨by first | rfl | (simp [errW_none, errW_some] <;> rfl) | (simp [*, errW_none, errW_some] <;> rfl), by repeat (first | (with_reducible first | exact HB.out | apply au | apply ai | apply ak | refine bn ?_ dh.out) | exact HB.out)⟩
 ·replace c3 := Bool.eq_false_iff.mpr c3
  subst c3
  have H1 : (some (decide (8 < (cK.length : Int)))) = some r := by rw [if_neg (show ¬ (false = true) by decide)] at H; exact H
  clear H
  have H := H1
  clear H1
  obtain rfl := Option.some.inj H
  go_enter Tryz.func73, Tryz.ntmps73
  go_wp2_with (first | ((with_reducible refine bg (N := 1) rfl ?_); (try (refine eY (by rfl) ?_; dsimp only)); refine bE ?hg (N := 1) ?hd (cs := #[.string aD, .slice gq cK.length c0_1]) (t := 66) ?hr ?_; (case hd => rfl); (case hg => rfl); (case hr => first | (go_simp; done) | (go_simp; rfl)); intro av hg w6 hbox hb; have ag := ae.mk (hbox); have GW101 := qge HB hg; have dh := qge HB hg; replace HB := ae.mk (aj (qw HB) hb); clear hb hbox hg; have hcz7_0 : w6.cell? ⟨av, 0, none⟩ = some (.string aD) := (af ag.out 0).trans rfl; have hcz7_1 : w6.cell? ⟨av, 1, none⟩ = some (.slice gq cK.length c0_1) := (af ag.out 1).trans rfl; have hfz7_0 := ah ag.out 0; have hfz7_1 := ah ag.out 1) | ((with_reducible refine aH (f := 71) rfl ?_); refine bN (some 5) rfl rfl Tryz.func71 (by kernel_rfl) rfl #[.string aD] rfl qt ?_; (with_reducible refine (gM.calls aD false _ A2.out).mono ?_); rintro e w' ⟨rfl, ⟨nd, rfl⟩⟩; refine ⟨_, rfl, ?_⟩))
  go_ret
  exact ⟨by first | rfl | (simp [errW_none, errW_some] <;> rfl) | (simp [*, errW_none, errW_some] <;> rfl), by repeat (first | (with_reducible first | exact HB.out | apply au | apply ai | apply ak | refine bn ?_ dh.out) | exact HB.out)⟩
end Go.Proofs.YteidaijpaijgpaaGreatDoor.P
end
section
namespace Go.Proofs.YteidaijpaijgpaaGreatDoor.P
open Go.RowKit Go.Proofs.YteidaijpaijgpaaGreatDoorW.ay Go.Proofs.YteidaijpaijgpaaGreatDoorW.aQ Go.Proofs.YteidaijpaijgpaaGreatDoorW.aZ
attribute [local go_sem] bz bA bP bQ bq bu bB bC
set_option linter.unusedVariables false
set_option linter.unusedSimpArgs false
def dX.l0 : Nat → List (S66) → Int → Int → Option (Int)
 | 0, _, _, _ => none
 | k + 1, x0, x7, x8 => if x8 < x7 then (if 0 ≤ x8 then (if x8 < (x0.length : Int) then ((jX.f ((gU x0 x8).f0) ((gU x0 x8).f1)).bind fun aJ => (if aJ = true then (some x8) else (dX.l0 k x0 x7 (wrap64 (x8 + 1))))) else (none)) else (none)) else (some (-1))
def dX.f (k : Nat) (l0 : List (S66)) (a1 : Bool) : Option (Int) := dX.l0 k l0 (l0.length : Int) 0
theorem dX.dF : ∀ k, (∀ y0 y1 y2, LeO (dX.l0 k y0 y1 y2) (dX.l0 (k + 1) y0 y1 y2))
 | 0 => fun _ _ _ r h => by simp [dX.l0] at h
 | k + 1 => by
  have ih0 := dX.dF k
  ·intro y0 y1 y2
   unfold dX.l0
   repeat' first
   | (with_reducible exact ih0 _ _ _)
   | (with_reducible exact LeO.refl _)
   | (with_reducible exact LeO.none _)
   | (with_reducible refine LeO.ite ?_ ?_)
   | (with_reducible refine LeO.bind ?_ (fun _ => ?_))
   | exact ih0 _ _ _
   | exact LeO.none _
   | refine LeO.ite ?_ ?_
   | refine LeO.bind ?_ (fun _ => ?_)
theorem dX.mono : ∀ a0 a1 k, LeO (dX.f k a0 a1) (dX.f (k + 1) a0 a1) := by
 intro a0 a1 k
 have ih0 := dX.dF k
 unfold dX.f
 repeat' first
   | (with_reducible exact ih0 _ _ _)
   | (with_reducible exact LeO.refl _)
   | (with_reducible exact LeO.none _)
   | (with_reducible refine LeO.ite ?_ ?_)
   | (with_reducible refine LeO.bind ?_ (fun _ => ?_))
   | exact ih0 _ _ _
   | exact LeO.none _
   | refine LeO.ite ?_ ?_
   | refine LeO.bind ?_ (fun _ => ?_)
set_option maxHeartbeats 8000000 in
set_option maxRecDepth 100000 in
theorem dX.calls (k : Nat) (A0 : Option Addr) (c0 : Nat) (l0 : List (S66)) (a1 : Bool) (r : Int) (w : World) (hr0 : Kd.C k66 w A0 l0.length l0) (hc0 : l0.length ≤ c0) (h : dX.f k l0 a1 = some r) :
  Calls Tryz.prog 97 #[.slice A0 l0.length c0, .func (.func 73) #[] #[]] w fun e w' => e = .returned (.int .i64 r) ∧ Below w.heap.size w w' := by
 have hu66 := Tryz.underlying66
 have HR0 := ae.mk hr0
 have HC0 := ae.mk hc0
 clear hr0 hc0
 have HB := ae.mk (Below.refl w.heap.size w)
 have H : (dX.l0 k l0 (l0.length : Int) 0) = some r := h
 clear h
 have H' := ae.mk H
 clear H
 go_enter Tryz.func97, Tryz.ntmps97
 go_wp2
 go_loopg [8] k (fun kq v8 w' => ∃ (aW : Int), v8 = .int .i64 aW ∧ ae (dX.l0 kq l0 (l0.length : Int) aW = some r) ∧ ae (kq ≤ k) ∧ ae (Below w.heap.size w w'))
 case atStart => exact ⟨(0), (by first | rfl | (simp; done) | (simp [*]; done)), H', ⟨Nat.le_refl _⟩, ⟨by repeat (first | (with_reducible first | exact HB.out | apply au | apply ai | apply ak) | exact HB.out)⟩⟩
 case round =>
  clear H'
  try clear p2
  obtain ⟨aW, rfl, HA, HK1, HB⟩ := hrel
  cases gk with
  | zero => exact absurd HA.out (by simp [dX.l0])
  | succ k1 =>
   have H := HA.out
   clear HA
   simp only [dX.l0] at H
   by_cases c3 : aW < (l0.length : Int)
   ·rw [if_pos c3] at H
    have gN : decide (aW < (l0.length : Int)) = true := decide_eq_true c3
    clear c3
    by_cases c4 : 0 ≤ aW
    ·rw [if_pos c4] at H
     have iQ : decide (0 ≤ aW) = true := decide_eq_true c4
     clear c4
     by_cases c5 : aW < (l0.length : Int)
     ·rw [if_pos c5] at H
      have jG : decide (aW < (l0.length : Int)) = true := decide_eq_true c5
      clear c5
      replace H := Option.bind_eq_some_iff.mp H
      obtain ⟨aJ, A60, H⟩ := H
      replace H : (if aJ = true then (some aW) else (dX.l0 k1 l0 (l0.length : Int) (wrap64 (aW + 1)))) = some r := H
      have A6 := ae.mk A60
      clear A60
      by_cases c7 : aJ = true
      ·subst c7
       have H1 : (some aW) = some r := by rw [if_pos rfl] at H; exact H
       clear H
       have H := H1
       clear H1
       obtain rfl := Option.some.inj H
       have p101 : 0 ≤ (aW : Int) := of_decide_eq_true qa
       have q101 : aW < (l0.length : Int) := of_decide_eq_true qa
       obtain ⟨ad101, ni, c101_1, e101, hx101_0, hx101_1, hl101_1, hi101_1⟩ := tq HR0.out aW p101 q101
       cases e101
       replace hx101_0 := (HB.out.cell (World.block_lt_of_cell? w _ hx101_0)).trans hx101_0
       replace hx101_1 := (HB.out.cell (World.block_lt_of_cell? w _ hx101_1)).trans hx101_1
       have lI := ae.mk hi101_1
       have lJ := ae.mk hl101_1
       clear hi101_1 hl101_1
       replace p101 := eq_true p101
       replace q101 := eq_true q101
       go_wp2_with (first | ((with_reducible refine Go.Proofs.YteidaijpaijgpaaGreatDoorV.eG (s := 11) rfl ?_); refine Go.Proofs.YteidaijpaijgpaaGreatDoorV.gW (some 16) rfl rfl Tryz.func73 (by kernel_rfl) rfl #[.agg #[.string ((gU l0 aW).f0), .slice ni ((gU l0 aW).f1).length c101_1]] rfl qt ?_; (with_reducible refine (jX.calls ((gU l0 aW).f0) _ _ ((gU l0 aW).f1) true _ ?aX ?aY A6.out).mono ?_); (case aX => exact qs ((Kd.dC lI.out HB.out))); (case aY => exact lJ.out); rintro e w8 ⟨rfl, hb⟩; refine ⟨_, rfl, ?_⟩; replace HB := ae.mk (aj (qw HB) hb); (try clear hb); (try clear hb2); (try clear hk); (try clear hi)))
       go_ret
       exact ⟨by first | rfl | (simp [errW_none, errW_some] <;> rfl) | (simp [*, errW_none, errW_some] <;> rfl), by repeat (first | (with_reducible first | exact HB.out | apply au | apply ai | apply ak) | exact HB.out)⟩
      ·replace c7 := Bool.eq_false_iff.mpr c7
       subst c7
       have H1 : (dX.l0 k1 l0 (l0.length : Int) (wrap64 (aW + 1))) = some r := by rw [if_neg (show ¬ (false = true) by decide)] at H; exact H
       clear H
       have H := H1
       clear H1
       have H' := ae.mk H
       clear H
       have p101 : 0 ≤ (aW : Int) := of_decide_eq_true qa
       have q101 : aW < (l0.length : Int) := of_decide_eq_true qa
       obtain ⟨ad101, ni, c101_1, e101, hx101_0, hx101_1, hl101_1, hi101_1⟩ := tq HR0.out aW p101 q101
       cases e101
       replace hx101_0 := (HB.out.cell (World.block_lt_of_cell? w _ hx101_0)).trans hx101_0
       replace hx101_1 := (HB.out.cell (World.block_lt_of_cell? w _ hx101_1)).trans hx101_1
       have lI := ae.mk hi101_1
       have lJ := ae.mk hl101_1
       clear hi101_1 hl101_1
       replace p101 := eq_true p101
       replace q101 := eq_true q101
       go_wp2_with (first | ((with_reducible refine Go.Proofs.YteidaijpaijgpaaGreatDoorV.eG (s := 11) rfl ?_); refine Go.Proofs.YteidaijpaijgpaaGreatDoorV.gW (some 16) rfl rfl Tryz.func73 (by kernel_rfl) rfl #[.agg #[.string ((gU l0 aW).f0), .slice ni ((gU l0 aW).f1).length c101_1]] rfl qt ?_; (with_reducible refine (jX.calls ((gU l0 aW).f0) _ _ ((gU l0 aW).f1) false _ ?aX ?aY A6.out).mono ?_); (case aX => exact qs ((Kd.dC lI.out HB.out))); (case aY => exact lJ.out); rintro e w9 ⟨rfl, hb⟩; refine ⟨_, rfl, ?_⟩; replace HB := ae.mk (aj (qw HB) hb); (try clear hb); (try clear hb2); (try clear hk); (try clear hi)))
       go_roundg k1
       case measure => have := HK1.out; omega
       case rel => exact ⟨(wrap64 (aW + 1)), (by first | rfl | (simp; done) | (simp [*]; done)), H', ⟨by have := HK1.out; omega⟩, ⟨by repeat (first | (with_reducible first | exact HB.out | apply au | apply ai | apply ak) | exact HB.out)⟩⟩
     ·rw [if_neg c5] at H
      exact absurd H (by simp)
    ·rw [if_neg c4] at H
     exact absurd H (by simp)
   ·rw [if_neg c3] at H
    have gN : decide (aW < (l0.length : Int)) = false := decide_eq_false c3
    clear c3
    obtain rfl := Option.some.inj H
    go_wp2
    go_ret
    exact ⟨by first | rfl | (simp [errW_none, errW_some] <;> rfl) | (simp [*, errW_none, errW_some] <;> rfl), by repeat (first | (with_reducible first | exact HB.out | apply au | apply ai | apply ak) | exact HB.out)⟩
end Go.Proofs.YteidaijpaijgpaaGreatDoor.P
end
section
namespace Go.Proofs.YteidaijpaijgpaaGreatDoor.P
open Go.RowKit Go.Proofs.YteidaijpaijgpaaGreatDoorW.ay Go.Proofs.YteidaijpaijgpaaGreatDoorW.aQ Go.Proofs.YteidaijpaijgpaaGreatDoorW.aZ
attribute [local go_sem] bz bA bP bQ bq bu bB bC
set_option linter.unusedVariables false
set_option linter.unusedSimpArgs false
def fU.f (k : Nat) (l0 : List (S66)) (a1 : Bool) : Option (Bool) := (dX.f k l0 a1).bind fun bR => (some (decide (0 ≤ bR)))
theorem fU.mono : ∀ a0 a1 k, LeO (fU.f k a0 a1) (fU.f (k + 1) a0 a1) := by
 intro a0 a1 k
 unfold fU.f
 repeat' first
   | (with_reducible exact dX.mono _ _ _)
   | (with_reducible exact LeO.refl _)
   | (with_reducible exact LeO.none _)
   | (with_reducible refine LeO.ite ?_ ?_)
   | (with_reducible refine LeO.bind ?_ (fun _ => ?_))
   | exact dX.mono _ _ _
   | exact LeO.none _
   | refine LeO.ite ?_ ?_
   | refine LeO.bind ?_ (fun _ => ?_)
set_option maxHeartbeats 8000000 in
set_option maxRecDepth 100000 in
theorem fU.calls (k : Nat) (A0 : Option Addr) (c0 : Nat) (l0 : List (S66)) (a1 : Bool) (r : Bool) (w : World) (hr0 : Kd.C k66 w A0 l0.length l0) (hc0 : l0.length ≤ c0) (h : fU.f k l0 a1 = some r) :
  Calls Tryz.prog 72 #[.slice A0 l0.length c0, .func (.func 73) #[] #[]] w fun e w' => e = .returned (.bool r) ∧ Below w.heap.size w w' := by
 have HR0 := ae.mk hr0
 have HC0 := ae.mk hc0
 clear hr0 hc0
 have HB := ae.mk (Below.refl w.heap.size w)
 have H : ((dX.f k l0 a1).bind fun bR => (some (decide (0 ≤ bR)))) = some r := h
 clear h
 replace H := Option.bind_eq_some_iff.mp H
 obtain ⟨bR, A30, H⟩ := H
 replace H : (some (decide (0 ≤ bR))) = some r := H
 have A3 := ae.mk A30
 clear A30
 obtain rfl := Option.some.inj H
 go_enter Tryz.func72, Tryz.ntmps72
 go_wp2_with (first | ((with_reducible refine aH (f := 97) rfl ?_); refine bN (some 7) rfl rfl Tryz.func97 (by kernel_rfl) rfl #[.slice A0 l0.length c0, .func (.func 73) #[] #[]] rfl qt ?_; (with_reducible refine (dX.calls k _ _ l0 a1 bR _ ?aX ?aY A3.out).mono ?_); (case aX => exact qs (HR0.out)); (case aY => exact HC0.out); rintro e w4 ⟨rfl, hb⟩; refine ⟨_, rfl, ?_⟩; replace HB := ae.mk (aj (qw HB) hb); (try clear hb); (try clear hb2); (try clear hk); (try clear hi)))
 go_ret
 exact ⟨by first | rfl | (simp [errW_none, errW_some] <;> rfl) | (simp [*, errW_none, errW_some] <;> rfl), by repeat (first | (with_reducible first | exact HB.out | apply au | apply ai | apply ak) | exact HB.out)⟩
end Go.Proofs.YteidaijpaijgpaaGreatDoor.P
end
section
namespace Go.Proofs.YteidaijpaijgpaaGreatDoor.P
open Go.RowKit Go.Proofs.YteidaijpaijgpaaGreatDoorW.ay Go.Proofs.YteidaijpaijgpaaGreatDoorW.aQ Go.Proofs.YteidaijpaijgpaaGreatDoorW.aZ
set_option linter.unusedVariables false
def iE.f (k : Nat) (aD : ByteArray) (aA : Int) (bU : Int) (bf : Bool) (fG : List (List (S55))) : Option (List ByteArray) := none
theorem iE.mono : ∀ a0 a1 a2 a3 a4 k, LeO (iE.f k a0 a1 a2 a3 a4) (iE.f (k + 1) a0 a1 a2 a3 a4) := by
 intro a0 a1 a2 a3 a4 k
 exact LeO.refl _
theorem iE.calls (k : Nat) (aD : ByteArray) (aA : Int) (bU : Int) (bf : Bool) (je : Option Addr) (c0_4 : Nat) (fG : List (List (S55))) (r : List ByteArray) (w : World) (hr0_4 : Kd.C (Kd.slice 55 k55) w je fG.length fG) (hc0_4 : fG.length ≤ c0_4) (h : iE.f k aD aA bU bf fG = some r) :
  Calls Tryz.prog 18 #[.agg #[.string aD, .int .u32 aA, .int .i64 bU, .bool bf, .slice je fG.length c0_4]] w fun e w' => ∃ v0_ : Value, e = .returned (v0_) ∧ Kd.R Kd.string 9 w' w.heap.size (fun _ => True) v0_ r ∧ Below w.heap.size w w' := by
 cases h
end Go.Proofs.YteidaijpaijgpaaGreatDoor.P
end
section
namespace Go.Proofs.YteidaijpaijgpaaGreatDoor.P
open Go.RowKit Go.Proofs.YteidaijpaijgpaaGreatDoorW.ay Go.Proofs.YteidaijpaijgpaaGreatDoorW.aQ Go.Proofs.YteidaijpaijgpaaGreatDoorW.aZ
attribute [local go_sem] bz bA bP bQ bq bu bB bC
set_option linter.unusedVariables false
set_option linter.unusedSimpArgs false
def iX.f (aD : ByteArray) (aA : Int) : Option (Bool) := some (decide (1000 < aA))
set_option maxHeartbeats 8000000 in
set_option maxRecDepth 100000 in
theorem iX.calls (aD : ByteArray) (aA : Int) (r : Bool) (w : World) (h : iX.f aD aA = some r) :
  Calls Tryz.prog 104 #[.agg #[.string aD, .int .i64 aA]] w fun e w' => e = .returned (.bool r) ∧ Below w.heap.size w w' := by
 have hu55 := Tryz.underlying55
 have HB := ae.mk (Below.refl w.heap.size w)
 have H : (some (decide (1000 < aA))) = some r := h
 clear h
 obtain rfl := Option.some.inj H
 go_enter Tryz.func104, Tryz.ntmps104
 go_wp2_with (first | ((with_reducible refine bg (N := 1) rfl ?_); refine bE ?hg (N := 1) ?hd (cs := #[.string aD, .int .i64 aA]) (t := 55) ?hr ?_; (case hd => rfl); (case hg => rfl); (case hr => first | (go_simp; done) | (go_simp; rfl)); intro av hg w2 hbox hb; have ag := ae.mk (hbox); have GW101 := qge HB hg; have dh := qge HB hg; replace HB := ae.mk (aj (qw HB) hb); clear hb hbox hg; have hcz3_0 : w2.cell? ⟨av, 0, none⟩ = some (.string aD) := (af ag.out 0).trans rfl; have hcz3_1 : w2.cell? ⟨av, 1, none⟩ = some (.int .i64 aA) := (af ag.out 1).trans rfl; have hfz3_0 := ah ag.out 0; have hfz3_1 := ah ag.out 1))
 go_ret
 exact ⟨by first | rfl | (simp [errW_none, errW_some] <;> rfl) | (simp [*, errW_none, errW_some] <;> rfl), by repeat (first | (with_reducible first | exact HB.out | apply au | apply ai | apply ak | refine bn ?_ dh.out) | exact HB.out)⟩
end Go.Proofs.YteidaijpaijgpaaGreatDoor.P
end
section
namespace Go.Proofs.YteidaijpaijgpaaGreatDoor.P
open Go.RowKit Go.Proofs.YteidaijpaijgpaaGreatDoorW.ay Go.Proofs.YteidaijpaijgpaaGreatDoorW.aQ Go.Proofs.YteidaijpaijgpaaGreatDoorW.aZ
attribute [local go_sem] bz bA bP bQ bq bu bB bC
set_option linter.unusedVariables false
set_option linter.unusedSimpArgs false
def dY.l0 : Nat → List (S55) → Int → Int → Option (Int)
 | 0, _, _, _ => none
 | k + 1, x0, x7, x8 => if x8 < x7 then (if 0 ≤ x8 then (if x8 < (x0.length : Int) then ((iX.f ((iq x0 x8).f0) ((iq x0 x8).f1)).bind fun aJ => (if aJ = true then (some x8) else (dY.l0 k x0 x7 (wrap64 (x8 + 1))))) else (none)) else (none)) else (some (-1))
def dY.f (k : Nat) (l0 : List (S55)) (a1 : Bool) : Option (Int) := dY.l0 k l0 (l0.length : Int) 0
theorem dY.dF : ∀ k, (∀ y0 y1 y2, LeO (dY.l0 k y0 y1 y2) (dY.l0 (k + 1) y0 y1 y2))
 | 0 => fun _ _ _ r h => by simp [dY.l0] at h
 | k + 1 => by
  have ih0 := dY.dF k
  ·intro y0 y1 y2
   unfold dY.l0
   repeat' first
   | (with_reducible exact ih0 _ _ _)
   | (with_reducible exact LeO.refl _)
   | (with_reducible exact LeO.none _)
   | (with_reducible refine LeO.ite ?_ ?_)
   | (with_reducible refine LeO.bind ?_ (fun _ => ?_))
   | exact ih0 _ _ _
   | exact LeO.none _
   | refine LeO.ite ?_ ?_
   | refine LeO.bind ?_ (fun _ => ?_)
theorem dY.mono : ∀ a0 a1 k, LeO (dY.f k a0 a1) (dY.f (k + 1) a0 a1) := by
 intro a0 a1 k
 have ih0 := dY.dF k
 unfold dY.f
 repeat' first
   | (with_reducible exact ih0 _ _ _)
   | (with_reducible exact LeO.refl _)
   | (with_reducible exact LeO.none _)
   | (with_reducible refine LeO.ite ?_ ?_)
   | (with_reducible refine LeO.bind ?_ (fun _ => ?_))
   | exact ih0 _ _ _
   | exact LeO.none _
   | refine LeO.ite ?_ ?_
   | refine LeO.bind ?_ (fun _ => ?_)
set_option maxHeartbeats 8000000 in
set_option maxRecDepth 100000 in
theorem dY.calls (k : Nat) (A0 : Option Addr) (c0 : Nat) (l0 : List (S55)) (a1 : Bool) (r : Int) (w : World) (hr0 : Kd.C k55 w A0 l0.length l0) (hc0 : l0.length ≤ c0) (h : dY.f k l0 a1 = some r) :
  Calls Tryz.prog 116 #[.slice A0 l0.length c0, .func (.func 104) #[] #[]] w fun e w' => e = .returned (.int .i64 r) ∧ Below w.heap.size w w' := by
 have hu55 := Tryz.underlying55
 have HR0 := ae.mk hr0
 have HC0 := ae.mk hc0
 clear hr0 hc0
 have HB := ae.mk (Below.refl w.heap.size w)
 have H : (dY.l0 k l0 (l0.length : Int) 0) = some r := h
 clear h
 have H' := ae.mk H
 clear H
 go_enter Tryz.func116, Tryz.ntmps116
 go_wp2
 go_loopg [8] k (fun kq v8 w' => ∃ (aW : Int), v8 = .int .i64 aW ∧ ae (dY.l0 kq l0 (l0.length : Int) aW = some r) ∧ ae (kq ≤ k) ∧ ae (Below w.heap.size w w'))
 case atStart => exact ⟨(0), (by first | rfl | (simp; done) | (simp [*]; done)), H', ⟨Nat.le_refl _⟩, ⟨by repeat (first | (with_reducible first | exact HB.out | apply au | apply ai | apply ak) | exact HB.out)⟩⟩
 case round =>
  clear H'
  try clear c1
  try clear p2
  obtain ⟨aW, rfl, HA, HK1, HB⟩ := hrel
  cases gk with
  | zero => exact absurd HA.out (by simp [dY.l0])
  | succ k1 =>
   have H := HA.out
   clear HA
   simp only [dY.l0] at H
   by_cases c3 : aW < (l0.length : Int)
   ·rw [if_pos c3] at H
    have gN : decide (aW < (l0.length : Int)) = true := decide_eq_true c3
    clear c3
    by_cases c4 : 0 ≤ aW
    ·rw [if_pos c4] at H
     have iQ : decide (0 ≤ aW) = true := decide_eq_true c4
     clear c4
     by_cases c5 : aW < (l0.length : Int)
     ·rw [if_pos c5] at H
      have jG : decide (aW < (l0.length : Int)) = true := decide_eq_true c5
      clear c5
      replace H := Option.bind_eq_some_iff.mp H
      obtain ⟨aJ, A60, H⟩ := H
      replace H : (if aJ = true then (some aW) else (dY.l0 k1 l0 (l0.length : Int) (wrap64 (aW + 1)))) = some r := H
      have A6 := ae.mk A60
      clear A60
      by_cases c7 : aJ = true
      ·subst c7
       have H1 : (some aW) = some r := by rw [if_pos rfl] at H; exact H
       clear H
       have H := H1
       clear H1
       obtain rfl := Option.some.inj H
       have p101 : 0 ≤ (aW : Int) := of_decide_eq_true qa
       have q101 : aW < (l0.length : Int) := of_decide_eq_true qa
       obtain ⟨ad101, e101, hx101_0, hx101_1⟩ := sZ HR0.out aW p101 q101
       cases e101
       replace hx101_0 := (HB.out.cell (World.block_lt_of_cell? w _ hx101_0)).trans hx101_0
       replace hx101_1 := (HB.out.cell (World.block_lt_of_cell? w _ hx101_1)).trans hx101_1
       replace p101 := eq_true p101
       replace q101 := eq_true q101
       go_wp2_with (first | ((with_reducible refine Go.Proofs.YteidaijpaijgpaaGreatDoorV.eG (s := 11) rfl ?_); refine Go.Proofs.YteidaijpaijgpaaGreatDoorV.gW (some 16) rfl rfl Tryz.func104 (by kernel_rfl) rfl #[.agg #[.string ((iq l0 aW).f0), .int .i64 ((iq l0 aW).f1)]] rfl qt ?_; (with_reducible refine (iX.calls ((iq l0 aW).f0) ((iq l0 aW).f1) true _ A6.out).mono ?_); rintro e w8 ⟨rfl, hb⟩; refine ⟨_, rfl, ?_⟩; replace HB := ae.mk (aj (qw HB) hb); (try clear hb); (try clear hb2); (try clear hk); (try clear hi)))
       go_ret
       exact ⟨by first | rfl | (simp [errW_none, errW_some] <;> rfl) | (simp [*, errW_none, errW_some] <;> rfl), by repeat (first | (with_reducible first | exact HB.out | apply au | apply ai | apply ak) | exact HB.out)⟩
      ·replace c7 := Bool.eq_false_iff.mpr c7
       subst c7
       have H1 : (dY.l0 k1 l0 (l0.length : Int) (wrap64 (aW + 1))) = some r := by rw [if_neg (show ¬ (false = true) by decide)] at H; exact H
       clear H
       have H := H1
       clear H1
       have H' := ae.mk H
       clear H
       have p101 : 0 ≤ (aW : Int) := of_decide_eq_true qa
       have q101 : aW < (l0.length : Int) := of_decide_eq_true qa
       obtain ⟨ad101, e101, hx101_0, hx101_1⟩ := sZ HR0.out aW p101 q101
       cases e101
       replace hx101_0 := (HB.out.cell (World.block_lt_of_cell? w _ hx101_0)).trans hx101_0
       replace hx101_1 := (HB.out.cell (World.block_lt_of_cell? w _ hx101_1)).trans hx101_1
       replace p101 := eq_true p101
       replace q101 := eq_true q101
       go_wp2_with (first | ((with_reducible refine Go.Proofs.YteidaijpaijgpaaGreatDoorV.eG (s := 11) rfl ?_); refine Go.Proofs.YteidaijpaijgpaaGreatDoorV.gW (some 16) rfl rfl Tryz.func104 (by kernel_rfl) rfl #[.agg #[.string ((iq l0 aW).f0), .int .i64 ((iq l0 aW).f1)]] rfl qt ?_; (with_reducible refine (iX.calls ((iq l0 aW).f0) ((iq l0 aW).f1) false _ A6.out).mono ?_); rintro e w9 ⟨rfl, hb⟩; refine ⟨_, rfl, ?_⟩; replace HB := ae.mk (aj (qw HB) hb); (try clear hb); (try clear hb2); (try clear hk); (try clear hi)))
       go_roundg k1
       case measure => have := HK1.out; omega
       case rel => exact ⟨(wrap64 (aW + 1)), (by first | rfl | (simp; done) | (simp [*]; done)), H', ⟨by have := HK1.out; omega⟩, ⟨by repeat (first | (with_reducible first | exact HB.out | apply au | apply ai | apply ak) | exact HB.out)⟩⟩
     ·rw [if_neg c5] at H
      exact absurd H (by simp)
    ·rw [if_neg c4] at H
     exact absurd H (by simp)
   ·rw [if_neg c3] at H
    have gN : decide (aW < (l0.length : Int)) = false := decide_eq_false c3
    clear c3
    obtain rfl := Option.some.inj H
    go_wp2
    go_ret
    exact ⟨by first | rfl | (simp [errW_none, errW_some] <;> rfl) | (simp [*, errW_none, errW_some] <;> rfl), by repeat (first | (with_reducible first | exact HB.out | apply au | apply ai | apply ak) | exact HB.out)⟩
end Go.Proofs.YteidaijpaijgpaaGreatDoor.P
end
section
namespace Go.Proofs.YteidaijpaijgpaaGreatDoor.P
open Go.RowKit Go.Proofs.YteidaijpaijgpaaGreatDoorW.ay Go.Proofs.YteidaijpaijgpaaGreatDoorW.aQ Go.Proofs.YteidaijpaijgpaaGreatDoorW.aZ
attribute [local go_sem] bz bA bP bQ bq bu bB bC
set_option linter.unusedVariables false
set_option linter.unusedSimpArgs false
def ig.f (k : Nat) (l0 : List (S55)) (a1 : Bool) : Option (Bool) := (dY.f k l0 a1).bind fun bR => (some (decide (0 ≤ bR)))
theorem ig.mono : ∀ a0 a1 k, LeO (ig.f k a0 a1) (ig.f (k + 1) a0 a1) := by
 intro a0 a1 k
 unfold ig.f
 repeat' first
   | (with_reducible exact dY.mono _ _ _)
   | (with_reducible exact LeO.refl _)
   | (with_reducible exact LeO.none _)
   | (with_reducible refine LeO.ite ?_ ?_)
   | (with_reducible refine LeO.bind ?_ (fun _ => ?_))
   | exact dY.mono _ _ _
   | exact LeO.none _
   | refine LeO.ite ?_ ?_
   | refine LeO.bind ?_ (fun _ => ?_)
set_option maxHeartbeats 8000000 in
set_option maxRecDepth 100000 in
theorem ig.calls (k : Nat) (A0 : Option Addr) (c0 : Nat) (l0 : List (S55)) (a1 : Bool) (r : Bool) (w : World) (hr0 : Kd.C k55 w A0 l0.length l0) (hc0 : l0.length ≤ c0) (h : ig.f k l0 a1 = some r) :
  Calls Tryz.prog 103 #[.slice A0 l0.length c0, .func (.func 104) #[] #[]] w fun e w' => e = .returned (.bool r) ∧ Below w.heap.size w w' := by
 have HR0 := ae.mk hr0
 have HC0 := ae.mk hc0
 clear hr0 hc0
 have HB := ae.mk (Below.refl w.heap.size w)
 have H : ((dY.f k l0 a1).bind fun bR => (some (decide (0 ≤ bR)))) = some r := h
 clear h
 replace H := Option.bind_eq_some_iff.mp H
 obtain ⟨bR, A30, H⟩ := H
 replace H : (some (decide (0 ≤ bR))) = some r := H
 have A3 := ae.mk A30
 clear A30
 obtain rfl := Option.some.inj H
 go_enter Tryz.func103, Tryz.ntmps103
 go_wp2_with (first | ((with_reducible refine aH (f := 116) rfl ?_); refine bN (some 7) rfl rfl Tryz.func116 (by kernel_rfl) rfl #[.slice A0 l0.length c0, .func (.func 104) #[] #[]] rfl qt ?_; (with_reducible refine (dY.calls k _ _ l0 a1 bR _ ?aX ?aY A3.out).mono ?_); (case aX => exact qs (HR0.out)); (case aY => exact HC0.out); rintro e w4 ⟨rfl, hb⟩; refine ⟨_, rfl, ?_⟩; replace HB := ae.mk (aj (qw HB) hb); (try clear hb); (try clear hb2); (try clear hk); (try clear hi)))
 go_ret
 exact ⟨by first | rfl | (simp [errW_none, errW_some] <;> rfl) | (simp [*, errW_none, errW_some] <;> rfl), by repeat (first | (with_reducible first | exact HB.out | apply au | apply ai | apply ak) | exact HB.out)⟩
end Go.Proofs.YteidaijpaijgpaaGreatDoor.P
end
section
namespace Go.Proofs.YteidaijpaijgpaaGreatDoor.P
open Go.RowKit Go.Proofs.YteidaijpaijgpaaGreatDoorW.ay Go.Proofs.YteidaijpaijgpaaGreatDoorW.aQ Go.Proofs.YteidaijpaijgpaaGreatDoorW.aZ
attribute [local go_sem] bz bA bP bQ bq bu bB bC
set_option linter.unusedVariables false
set_option linter.unusedSimpArgs false
def fM.f (k : Nat) (l0 : List (S55)) : Option (Bool) := (ig.f k l0 tH).bind fun bR => (some bR)
theorem fM.mono : ∀ a0 k, LeO (fM.f k a0) (fM.f (k + 1) a0) := by
 intro a0 k
 unfold fM.f
 repeat' first
   | (with_reducible exact ig.mono _ _ _)
   | (with_reducible exact LeO.refl _)
   | (with_reducible exact LeO.none _)
   | (with_reducible refine LeO.ite ?_ ?_)
   | (with_reducible refine LeO.bind ?_ (fun _ => ?_))
   | exact ig.mono _ _ _
   | exact LeO.none _
   | refine LeO.ite ?_ ?_
   | refine LeO.bind ?_ (fun _ => ?_)
set_option maxHeartbeats 8000000 in
set_option maxRecDepth 100000 in
theorem fM.calls (k : Nat) (A0 : Option Addr) (c0 : Nat) (l0 : List (S55)) (r : Bool) (w : World) (hr0 : Kd.C k55 w A0 l0.length l0) (hc0 : l0.length ≤ c0) (h : fM.f k l0 = some r) :
  Calls Tryz.prog 102 #[.slice A0 l0.length c0] w fun e w' => e = .returned (.bool r) ∧ Below w.heap.size w w' := by
 have HR0 := ae.mk hr0
 have HC0 := ae.mk hc0
 clear hr0 hc0
 have HB := ae.mk (Below.refl w.heap.size w)
 have H : ((ig.f k l0 tH).bind fun bR => (some bR)) = some r := h
 clear h
 replace H := Option.bind_eq_some_iff.mp H
 obtain ⟨bR, A20, H⟩ := H
 replace H : (some bR) = some r := H
 have A2 := ae.mk A20
 clear A20
 obtain rfl := Option.some.inj H
 go_enter Tryz.func102, Tryz.ntmps102
 go_wp2_with (first | ((with_reducible refine aH (f := 103) rfl ?_); refine bN (some 4) rfl rfl Tryz.func103 (by kernel_rfl) rfl #[.slice A0 l0.length c0, .func (.func 104) #[] #[]] rfl qt ?_; (with_reducible refine (ig.calls k _ _ l0 tH bR _ ?aX ?aY A2.out).mono ?_); (case aX => exact qs (HR0.out)); (case aY => exact HC0.out); rintro e w3 ⟨rfl, hb⟩; refine ⟨_, rfl, ?_⟩; replace HB := ae.mk (aj (qw HB) hb); (try clear hb); (try clear hb2); (try clear hk); (try clear hi)))
 go_ret
 exact ⟨by first | rfl | (simp [errW_none, errW_some] <;> rfl) | (simp [*, errW_none, errW_some] <;> rfl), by repeat (first | (with_reducible first | exact HB.out | apply au | apply ai | apply ak) | exact HB.out)⟩
end Go.Proofs.YteidaijpaijgpaaGreatDoor.P
end
section
namespace Go.Proofs.YteidaijpaijgpaaGreatDoor.P
open Go.RowKit Go.Proofs.YteidaijpaijgpaaGreatDoorW.ay Go.Proofs.YteidaijpaijgpaaGreatDoorW.aQ Go.Proofs.YteidaijpaijgpaaGreatDoorW.aZ
attribute [local go_sem] bz bA bP bQ bq bu bB bC
set_option linter.unusedVariables false
set_option linter.unusedSimpArgs false
def dZ.l0 : Nat → List (List (S55)) → Int → Int → Option (Int)
 | 0, _, _, _ => none
 | k + 1, x0, x7, x8 => if x8 < x7 then (if 0 ≤ x8 then (if x8 < (x0.length : Int) then ((fM.f k (lM x0 x8)).bind fun aJ => (if aJ = true then (some x8) else (dZ.l0 k x0 x7 (wrap64 (x8 + 1))))) else (none)) else (none)) else (some (-1))
def dZ.f (k : Nat) (l0 : List (List (S55))) (a1 : Bool) : Option (Int) := dZ.l0 k l0 (l0.length : Int) 0
theorem dZ.dF : ∀ k, (∀ y0 y1 y2, LeO (dZ.l0 k y0 y1 y2) (dZ.l0 (k + 1) y0 y1 y2))
 | 0 => fun _ _ _ r h => by simp [dZ.l0] at h
 | k + 1 => by
  have ih0 := dZ.dF k
  ·intro y0 y1 y2
   unfold dZ.l0
   repeat' first
   | (with_reducible exact ih0 _ _ _)
   | (with_reducible exact fM.mono _ _)
   | (with_reducible exact LeO.refl _)
   | (with_reducible exact LeO.none _)
   | (with_reducible refine LeO.ite ?_ ?_)
   | (with_reducible refine LeO.bind ?_ (fun _ => ?_))
   | exact ih0 _ _ _
   | exact fM.mono _ _
   | exact LeO.none _
   | refine LeO.ite ?_ ?_
   | refine LeO.bind ?_ (fun _ => ?_)
theorem dZ.mono : ∀ a0 a1 k, LeO (dZ.f k a0 a1) (dZ.f (k + 1) a0 a1) := by
 intro a0 a1 k
 have ih0 := dZ.dF k
 unfold dZ.f
 repeat' first
   | (with_reducible exact ih0 _ _ _)
   | (with_reducible exact fM.mono _ _)
   | (with_reducible exact LeO.refl _)
   | (with_reducible exact LeO.none _)
   | (with_reducible refine LeO.ite ?_ ?_)
   | (with_reducible refine LeO.bind ?_ (fun _ => ?_))
   | exact ih0 _ _ _
   | exact fM.mono _ _
   | exact LeO.none _
   | refine LeO.ite ?_ ?_
   | refine LeO.bind ?_ (fun _ => ?_)
set_option maxHeartbeats 8000000 in
set_option maxRecDepth 100000 in
theorem dZ.calls (k : Nat) (A0 : Option Addr) (c0 : Nat) (l0 : List (List (S55))) (a1 : Bool) (r : Int) (w : World) (hr0 : Kd.C (Kd.slice 55 k55) w A0 l0.length l0) (hc0 : l0.length ≤ c0) (h : dZ.f k l0 a1 = some r) :
  Calls Tryz.prog 115 #[.slice A0 l0.length c0, .func (.func 102) #[] #[]] w fun e w' => e = .returned (.int .i64 r) ∧ Below w.heap.size w w' := by
 have HR0 := ae.mk hr0
 have HC0 := ae.mk hc0
 clear hr0 hc0
 have HB := ae.mk (Below.refl w.heap.size w)
 have H : (dZ.l0 k l0 (l0.length : Int) 0) = some r := h
 clear h
 have H' := ae.mk H
 clear H
 go_enter Tryz.func115, Tryz.ntmps115
 go_wp2
 go_loopg [8] k (fun kq v8 w' => ∃ (aW : Int), v8 = .int .i64 aW ∧ ae (dZ.l0 kq l0 (l0.length : Int) aW = some r) ∧ ae (kq ≤ k) ∧ ae (Below w.heap.size w w'))
 case atStart => exact ⟨(0), (by first | rfl | (simp; done) | (simp [*]; done)), H', ⟨Nat.le_refl _⟩, ⟨by repeat (first | (with_reducible first | exact HB.out | apply au | apply ai | apply ak) | exact HB.out)⟩⟩
 case round =>
  clear H'
  try clear c1
  try clear p2
  obtain ⟨aW, rfl, HA, HK1, HB⟩ := hrel
  cases gk with
  | zero => exact absurd HA.out (by simp [dZ.l0])
  | succ k1 =>
   have H := HA.out
   clear HA
   simp only [dZ.l0] at H
   by_cases c3 : aW < (l0.length : Int)
   ·rw [if_pos c3] at H
    have gN : decide (aW < (l0.length : Int)) = true := decide_eq_true c3
    clear c3
    by_cases c4 : 0 ≤ aW
    ·rw [if_pos c4] at H
     have iQ : decide (0 ≤ aW) = true := decide_eq_true c4
     clear c4
     by_cases c5 : aW < (l0.length : Int)
     ·rw [if_pos c5] at H
      have jG : decide (aW < (l0.length : Int)) = true := decide_eq_true c5
      clear c5
      replace H := Option.bind_eq_some_iff.mp H
      obtain ⟨aJ, A60, H⟩ := H
      replace H : (if aJ = true then (some aW) else (dZ.l0 k1 l0 (l0.length : Int) (wrap64 (aW + 1)))) = some r := H
      have A6 := ae.mk A60
      clear A60
      by_cases c7 : aJ = true
      ·subst c7
       have H1 : (some aW) = some r := by rw [if_pos rfl] at H; exact H
       clear H
       have H := H1
       clear H1
       obtain rfl := Option.some.inj H
       have p101 : 0 ≤ (aW : Int) := of_decide_eq_true qa
       have q101 : aW < (l0.length : Int) := of_decide_eq_true qa
       obtain ⟨ad101, uf, c101_0, e101, hx101_0, hl101_0, hi101_0⟩ := wu HR0.out aW p101 q101
       cases e101
       replace hx101_0 := (HB.out.cell (World.block_lt_of_cell? w _ hx101_0)).trans hx101_0
       have qW := ae.mk hi101_0
       have qX := ae.mk hl101_0
       clear hi101_0 hl101_0
       replace p101 := eq_true p101
       replace q101 := eq_true q101
       go_wp2_with (first | ((with_reducible refine Go.Proofs.YteidaijpaijgpaaGreatDoorV.eG (s := 11) rfl ?_); refine Go.Proofs.YteidaijpaijgpaaGreatDoorV.gW (some 16) rfl rfl Tryz.func102 (by kernel_rfl) rfl #[.slice uf (lM l0 aW).length c101_0] rfl qt ?_; (with_reducible refine (fM.calls k1 _ _ (lM l0 aW) true _ ?aX ?aY A6.out).mono ?_); (case aX => exact qs ((Kd.dC qW.out HB.out))); (case aY => exact qX.out); rintro e w8 ⟨rfl, hb⟩; refine ⟨_, rfl, ?_⟩; replace HB := ae.mk (aj (qw HB) hb); (try clear hb); (try clear hb2); (try clear hk); (try clear hi)))
       go_ret
       exact ⟨by first | rfl | (simp [errW_none, errW_some] <;> rfl) | (simp [*, errW_none, errW_some] <;> rfl), by repeat (first | (with_reducible first | exact HB.out | apply au | apply ai | apply ak) | exact HB.out)⟩
      ·replace c7 := Bool.eq_false_iff.mpr c7
       subst c7
       have H1 : (dZ.l0 k1 l0 (l0.length : Int) (wrap64 (aW + 1))) = some r := by rw [if_neg (show ¬ (false = true) by decide)] at H; exact H
       clear H
       have H := H1
       clear H1
       have H' := ae.mk H
       clear H
       have p101 : 0 ≤ (aW : Int) := of_decide_eq_true qa
       have q101 : aW < (l0.length : Int) := of_decide_eq_true qa
       obtain ⟨ad101, uf, c101_0, e101, hx101_0, hl101_0, hi101_0⟩ := wu HR0.out aW p101 q101
       cases e101
       replace hx101_0 := (HB.out.cell (World.block_lt_of_cell? w _ hx101_0)).trans hx101_0
       have qW := ae.mk hi101_0
       have qX := ae.mk hl101_0
       clear hi101_0 hl101_0
       replace p101 := eq_true p101
       replace q101 := eq_true q101
       go_wp2_with (first | ((with_reducible refine Go.Proofs.YteidaijpaijgpaaGreatDoorV.eG (s := 11) rfl ?_); refine Go.Proofs.YteidaijpaijgpaaGreatDoorV.gW (some 16) rfl rfl Tryz.func102 (by kernel_rfl) rfl #[.slice uf (lM l0 aW).length c101_0] rfl qt ?_; (with_reducible refine (fM.calls k1 _ _ (lM l0 aW) false _ ?aX ?aY A6.out).mono ?_); (case aX => exact qs ((Kd.dC qW.out HB.out))); (case aY => exact qX.out); rintro e w9 ⟨rfl, hb⟩; refine ⟨_, rfl, ?_⟩; replace HB := ae.mk (aj (qw HB) hb); (try clear hb); (try clear hb2); (try clear hk); (try clear hi)))
       go_roundg k1
       case measure => have := HK1.out; omega
       case rel => exact ⟨(wrap64 (aW + 1)), (by first | rfl | (simp; done) | (simp [*]; done)), H', ⟨by have := HK1.out; omega⟩, ⟨by repeat (first | (with_reducible first | exact HB.out | apply au | apply ai | apply ak) | exact HB.out)⟩⟩
     ·rw [if_neg c5] at H
      exact absurd H (by simp)
    ·rw [if_neg c4] at H
     exact absurd H (by simp)
   ·rw [if_neg c3] at H
    have gN : decide (aW < (l0.length : Int)) = false := decide_eq_false c3
    clear c3
    obtain rfl := Option.some.inj H
    go_wp2
    go_ret
    exact ⟨by first | rfl | (simp [errW_none, errW_some] <;> rfl) | (simp [*, errW_none, errW_some] <;> rfl), by repeat (first | (with_reducible first | exact HB.out | apply au | apply ai | apply ak) | exact HB.out)⟩
end Go.Proofs.YteidaijpaijgpaaGreatDoor.P
end
section
namespace Go.Proofs.YteidaijpaijgpaaGreatDoor.P
open Go.RowKit Go.Proofs.YteidaijpaijgpaaGreatDoorW.ay Go.Proofs.YteidaijpaijgpaaGreatDoorW.aQ Go.Proofs.YteidaijpaijgpaaGreatDoorW.aZ
attribute [local go_sem] bz bA bP bQ bq bu bB bC
set_option linter.unusedVariables false
set_option linter.unusedSimpArgs false
def gP.f (k : Nat) (l0 : List (List (S55))) (a1 : Bool) : Option (Bool) := (dZ.f k l0 a1).bind fun bR => (some (decide (0 ≤ bR)))
theorem gP.mono : ∀ a0 a1 k, LeO (gP.f k a0 a1) (gP.f (k + 1) a0 a1) := by
 intro a0 a1 k
 unfold gP.f
 repeat' first
   | (with_reducible exact dZ.mono _ _ _)
   | (with_reducible exact LeO.refl _)
   | (with_reducible exact LeO.none _)
   | (with_reducible refine LeO.ite ?_ ?_)
   | (with_reducible refine LeO.bind ?_ (fun _ => ?_))
   | exact dZ.mono _ _ _
   | exact LeO.none _
   | refine LeO.ite ?_ ?_
   | refine LeO.bind ?_ (fun _ => ?_)
set_option maxHeartbeats 8000000 in
set_option maxRecDepth 100000 in
theorem gP.calls (k : Nat) (A0 : Option Addr) (c0 : Nat) (l0 : List (List (S55))) (a1 : Bool) (r : Bool) (w : World) (hr0 : Kd.C (Kd.slice 55 k55) w A0 l0.length l0) (hc0 : l0.length ≤ c0) (h : gP.f k l0 a1 = some r) :
  Calls Tryz.prog 101 #[.slice A0 l0.length c0, .func (.func 102) #[] #[]] w fun e w' => e = .returned (.bool r) ∧ Below w.heap.size w w' := by
 have HR0 := ae.mk hr0
 have HC0 := ae.mk hc0
 clear hr0 hc0
 have HB := ae.mk (Below.refl w.heap.size w)
 have H : ((dZ.f k l0 a1).bind fun bR => (some (decide (0 ≤ bR)))) = some r := h
 clear h
 replace H := Option.bind_eq_some_iff.mp H
 obtain ⟨bR, A30, H⟩ := H
 replace H : (some (decide (0 ≤ bR))) = some r := H
 have A3 := ae.mk A30
 clear A30
 obtain rfl := Option.some.inj H
 go_enter Tryz.func101, Tryz.ntmps101
 go_wp2_with (first | ((with_reducible refine aH (f := 115) rfl ?_); refine bN (some 7) rfl rfl Tryz.func115 (by kernel_rfl) rfl #[.slice A0 l0.length c0, .func (.func 102) #[] #[]] rfl qt ?_; (with_reducible refine (dZ.calls k _ _ l0 a1 bR _ ?aX ?aY A3.out).mono ?_); (case aX => exact qs (HR0.out)); (case aY => exact HC0.out); rintro e w4 ⟨rfl, hb⟩; refine ⟨_, rfl, ?_⟩; replace HB := ae.mk (aj (qw HB) hb); (try clear hb); (try clear hb2); (try clear hk); (try clear hi)))
 go_ret
 exact ⟨by first | rfl | (simp [errW_none, errW_some] <;> rfl) | (simp [*, errW_none, errW_some] <;> rfl), by repeat (first | (with_reducible first | exact HB.out | apply au | apply ai | apply ak) | exact HB.out)⟩
end Go.Proofs.YteidaijpaijgpaaGreatDoor.P
end
section
namespace Go.Proofs.YteidaijpaijgpaaGreatDoor.P
open Go.RowKit Go.Proofs.YteidaijpaijgpaaGreatDoorW.ay Go.Proofs.YteidaijpaijgpaaGreatDoorW.aQ Go.Proofs.YteidaijpaijgpaaGreatDoorW.aZ
attribute [local go_sem] bz bA bP bQ bq bu bB bC
set_option linter.unusedVariables false
set_option linter.unusedSimpArgs false
def gJ.f (k : Nat) (aD : ByteArray) (aA : Int) (bU : Int) (bf : Bool) (fG : List (List (S55))) : Option (Bool) := if (fG.length : Int) > 4 then (some true) else ((iE.f k aD aA bU bf fG).bind fun aJ => (if (aJ.length : Int) > 8 then (some true) else ((gP.f k fG qK).bind fun t105 => (some t105))))
theorem gJ.mono : ∀ a0 a1 a2 a3 a4 k, LeO (gJ.f k a0 a1 a2 a3 a4) (gJ.f (k + 1) a0 a1 a2 a3 a4) := by
 intro a0 a1 a2 a3 a4 k
 unfold gJ.f
 repeat' first
   | (with_reducible exact gP.mono _ _ _)
   | (with_reducible exact iE.mono _ _ _ _ _ _)
   | (with_reducible exact LeO.refl _)
   | (with_reducible exact LeO.none _)
   | (with_reducible refine LeO.ite ?_ ?_)
   | (with_reducible refine LeO.bind ?_ (fun _ => ?_))
   | exact gP.mono _ _ _
   | exact iE.mono _ _ _ _ _ _
   | exact LeO.none _
   | refine LeO.ite ?_ ?_
   | refine LeO.bind ?_ (fun _ => ?_)
set_option maxHeartbeats 8000000 in
set_option maxRecDepth 100000 in
theorem gJ.calls (k : Nat) (aD : ByteArray) (aA : Int) (bU : Int) (bf : Bool) (je : Option Addr) (c0_4 : Nat) (fG : List (List (S55))) (r : Bool) (w : World) (hr0_4 : Kd.C (Kd.slice 55 k55) w je fG.length fG) (hc0_4 : fG.length ≤ c0_4) (h : gJ.f k aD aA bU bf fG = some r) :
  Calls Tryz.prog 77 #[.agg #[.string aD, .int .u32 aA, .int .i64 bU, .bool bf, .slice je fG.length c0_4]] w fun e w' => e = .returned (.bool r) ∧ Below w.heap.size w w' := by
 have hu28 := Tryz.underlying28
 have nI := ae.mk hr0_4
 have nJ := ae.mk hc0_4
 clear hr0_4 hc0_4
 have HB := ae.mk (Below.refl w.heap.size w)
 have H : (if (fG.length : Int) > 4 then (some true) else ((iE.f k aD aA bU bf fG).bind fun aJ => (if (aJ.length : Int) > 8 then (some true) else ((gP.f k fG qK).bind fun t105 => (some t105))))) = some r := h
 clear h
 by_cases c2 : (fG.length : Int) > 4
 ·rw [if_pos c2] at H
  have jF : decide (4 < (fG.length : Int)) = true := decide_eq_true c2
  have mI : decide (4 < fG.length) = true := decide_eq_true (by omega)
  clear c2
  obtain rfl := Option.some.inj H
  go_enter Tryz.func77, Tryz.ntmps77
  go_wp2_with (first | ((with_reducible refine bg (N := 1) rfl ?_); (try (refine eY (by rfl) ?_; dsimp only)); refine bE ?hg (N := 1) ?hd (cs := #[.string aD, .int .u32 aA, .int .i64 bU, .bool bf, .slice je fG.length c0_4]) (t := 28) ?hr ?_; (case hd => rfl); (case hg => rfl); (case hr => first | (go_simp; done) | (go_simp; rfl)); intro av hg w3 hbox hb; have ag := ae.mk (hbox); have GW101 := qge HB hg; have dh := qge HB hg; replace HB := ae.mk (aj (qw HB) hb); clear hb hbox hg; have hcz4_0 : w3.cell? ⟨av, 0, none⟩ = some (.string aD) := (af ag.out 0).trans rfl; have hcz4_1 : w3.cell? ⟨av, 1, none⟩ = some (.int .u32 aA) := (af ag.out 1).trans rfl; have hcz4_2 : w3.cell? ⟨av, 2, none⟩ = some (.int .i64 bU) := (af ag.out 2).trans rfl; have hcz4_3 : w3.cell? ⟨av, 3, none⟩ = some (.bool bf) := (af ag.out 3).trans rfl; have hcz4_4 : w3.cell? ⟨av, 4, none⟩ = some (.slice je fG.length c0_4) := (af ag.out 4).trans rfl; have hfz4_0 := ah ag.out 0; have hfz4_1 := ah ag.out 1; have hfz4_2 := ah ag.out 2; have hfz4_3 := ah ag.out 3; have hfz4_4 := ah ag.out 4))
  go_ret
  exact ⟨by first | rfl | (simp [errW_none, errW_some] <;> rfl) | (simp [*, errW_none, errW_some] <;> rfl), by repeat (first | (with_reducible first | exact HB.out | apply au | apply ai | apply ak | refine bn ?_ dh.out) | exact HB.out)⟩
 ·rw [if_neg c2] at H
  have jF : decide (4 < (fG.length : Int)) = false := decide_eq_false c2
  have mI : decide (4 < fG.length) = false := decide_eq_false (by omega)
  clear c2
  replace H := Option.bind_eq_some_iff.mp H
  obtain ⟨aJ, A50, H⟩ := H
  replace H : (if (aJ.length : Int) > 8 then (some true) else ((gP.f k fG qK).bind fun t105 => (some t105))) = some r := H
  have A5 := ae.mk A50
  clear A50
  by_cases c6 : (aJ.length : Int) > 8
  ·rw [if_pos c6] at H
   have kE : decide (8 < (aJ.length : Int)) = true := decide_eq_true c6
   have tK : decide (8 < aJ.length) = true := decide_eq_true (by omega)
   clear c6
   obtain rfl := Option.some.inj H
   go_enter Tryz.func77, Tryz.ntmps77
   go_wp2_with (first | ((with_reducible refine bg (N := 1) rfl ?_); (try (refine eY (by rfl) ?_; dsimp only)); refine bE ?hg (N := 1) ?hd (cs := #[.string aD, .int .u32 aA, .int .i64 bU, .bool bf, .slice je fG.length c0_4]) (t := 28) ?hr ?_; (case hd => rfl); (case hg => rfl); (case hr => first | (go_simp; done) | (go_simp; rfl)); intro av hg w7 hbox hb; have ag := ae.mk (hbox); have GW101 := qge HB hg; have dh := qge HB hg; replace HB := ae.mk (aj (qw HB) hb); clear hb hbox hg; have hcz8_0 : w7.cell? ⟨av, 0, none⟩ = some (.string aD) := (af ag.out 0).trans rfl; have hcz8_1 : w7.cell? ⟨av, 1, none⟩ = some (.int .u32 aA) := (af ag.out 1).trans rfl; have hcz8_2 : w7.cell? ⟨av, 2, none⟩ = some (.int .i64 bU) := (af ag.out 2).trans rfl; have hcz8_3 : w7.cell? ⟨av, 3, none⟩ = some (.bool bf) := (af ag.out 3).trans rfl; have hcz8_4 : w7.cell? ⟨av, 4, none⟩ = some (.slice je fG.length c0_4) := (af ag.out 4).trans rfl; have hfz8_0 := ah ag.out 0; have hfz8_1 := ah ag.out 1; have hfz8_2 := ah ag.out 2; have hfz8_3 := ah ag.out 3; have hfz8_4 := ah ag.out 4) | (go_at_call 18; (with_reducible refine (iE.calls k aD aA bU bf _ _ fG aJ _ ?aX ?aY A5.out).mono ?_); (case aX => exact qs ((Kd.dC nI.out HB.out))); (case aY => exact nJ.out); rintro e w9 ⟨v103, rfl, ho0, hb⟩; have fF := ae.mk (Kd.dI ho0 (bi (qw HB))); replace ag := qbb ag hb; replace HB := ae.mk (aj (qw HB) hb); (try clear hb); (try clear hb2); (try clear hk); (try clear hi); (try clear ho0); obtain ⟨Ba, Bb, yn⟩ := Kd.dM fF.out; subst yn))
   go_ret
   exact ⟨by first | rfl | (simp [errW_none, errW_some] <;> rfl) | (simp [*, errW_none, errW_some] <;> rfl), by repeat (first | (with_reducible first | exact HB.out | apply au | apply ai | apply ak | refine bn ?_ dh.out) | exact HB.out)⟩
  ·rw [if_neg c6] at H
   have kE : decide (8 < (aJ.length : Int)) = false := decide_eq_false c6
   have tK : decide (8 < aJ.length) = false := decide_eq_false (by omega)
   clear c6
   replace H := Option.bind_eq_some_iff.mp H
   obtain ⟨t105, A110, H⟩ := H
   replace H : (some t105) = some r := H
   have A11 := ae.mk A110
   clear A110
   obtain rfl := Option.some.inj H
   go_enter Tryz.func77, Tryz.ntmps77
   go_wp2_with (first | ((with_reducible refine bg (N := 1) rfl ?_); (try (refine eY (by rfl) ?_; dsimp only)); refine bE ?hg (N := 1) ?hd (cs := #[.string aD, .int .u32 aA, .int .i64 bU, .bool bf, .slice je fG.length c0_4]) (t := 28) ?hr ?_; (case hd => rfl); (case hg => rfl); (case hr => first | (go_simp; done) | (go_simp; rfl)); intro av hg w12 hbox hb; have ag := ae.mk (hbox); have GW101 := qge HB hg; have dh := qge HB hg; replace HB := ae.mk (aj (qw HB) hb); clear hb hbox hg; have hcz13_0 : w12.cell? ⟨av, 0, none⟩ = some (.string aD) := (af ag.out 0).trans rfl; have hcz13_1 : w12.cell? ⟨av, 1, none⟩ = some (.int .u32 aA) := (af ag.out 1).trans rfl; have hcz13_2 : w12.cell? ⟨av, 2, none⟩ = some (.int .i64 bU) := (af ag.out 2).trans rfl; have hcz13_3 : w12.cell? ⟨av, 3, none⟩ = some (.bool bf) := (af ag.out 3).trans rfl; have hcz13_4 : w12.cell? ⟨av, 4, none⟩ = some (.slice je fG.length c0_4) := (af ag.out 4).trans rfl; have hfz13_0 := ah ag.out 0; have hfz13_1 := ah ag.out 1; have hfz13_2 := ah ag.out 2; have hfz13_3 := ah ag.out 3; have hfz13_4 := ah ag.out 4) | (go_at_call 18; (with_reducible refine (iE.calls k aD aA bU bf _ _ fG aJ _ ?aX ?aY A5.out).mono ?_); (case aX => exact qs ((Kd.dC nI.out HB.out))); (case aY => exact nJ.out); rintro e w14 ⟨v103, rfl, ho0, hb⟩; have fF := ae.mk (Kd.dI ho0 (bi (qw HB))); replace ag := qbb ag hb; replace HB := ae.mk (aj (qw HB) hb); (try clear hb); (try clear hb2); (try clear hk); (try clear hi); (try clear ho0); obtain ⟨Ey, Ez, Ci⟩ := Kd.dM fF.out; subst Ci; have hcz16_0 : w14.cell? ⟨av, 0, none⟩ = some (.string aD) := (af ag.out 0).trans rfl; have hcz16_1 : w14.cell? ⟨av, 1, none⟩ = some (.int .u32 aA) := (af ag.out 1).trans rfl; have hcz16_2 : w14.cell? ⟨av, 2, none⟩ = some (.int .i64 bU) := (af ag.out 2).trans rfl; have hcz16_3 : w14.cell? ⟨av, 3, none⟩ = some (.bool bf) := (af ag.out 3).trans rfl; have hcz16_4 : w14.cell? ⟨av, 4, none⟩ = some (.slice je fG.length c0_4) := (af ag.out 4).trans rfl; have hfz16_0 := ah ag.out 0; have hfz16_1 := ah ag.out 1; have hfz16_2 := ah ag.out 2; have hfz16_3 := ah ag.out 3; have hfz16_4 := ah ag.out 4) | ((with_reducible refine aH (f := 101) rfl ?_); refine bN (some 15) rfl rfl Tryz.func101 (by kernel_rfl) rfl #[.slice je fG.length c0_4, .func (.func 102) #[] #[]] rfl qt ?_; (with_reducible refine (gP.calls k _ _ fG qK t105 _ ?aX ?aY A11.out).mono ?_); (case aX => exact qs ((Kd.dC nI.out HB.out))); (case aY => exact nJ.out); rintro e w17 ⟨rfl, hb⟩; refine ⟨_, rfl, ?_⟩; replace fF := ae.mk (Kd.bD (qr fF) hb); replace ag := qbb ag hb; replace HB := ae.mk (aj (qw HB) hb); (try clear hb); (try clear hb2); (try clear hk); (try clear hi)))
   go_ret
   exact ⟨by first | rfl | (simp [errW_none, errW_some] <;> rfl) | (simp [*, errW_none, errW_some] <;> rfl), by repeat (first | (with_reducible first | exact HB.out | apply au | apply ai | apply ak | refine bn ?_ dh.out) | exact HB.out)⟩
end Go.Proofs.YteidaijpaijgpaaGreatDoor.P
end
section
namespace Go.Proofs.YteidaijpaijgpaaGreatDoor.P
open Go.RowKit Go.Proofs.YteidaijpaijgpaaGreatDoorW.ay Go.Proofs.YteidaijpaijgpaaGreatDoorW.aQ Go.Proofs.YteidaijpaijgpaaGreatDoorW.aZ
attribute [local go_sem] bz bA bP bQ bq bu bB bC
set_option linter.unusedVariables false
set_option linter.unusedSimpArgs false
def dJ.l0 : Nat → List (S28) → Int → Int → Option (Int)
 | 0, _, _, _ => none
 | k + 1, x0, x7, x8 => if x8 < x7 then (if 0 ≤ x8 then (if x8 < (x0.length : Int) then ((gJ.f k ((dB x0 x8).f0) ((dB x0 x8).f1.f0) ((dB x0 x8).f1.f1) ((dB x0 x8).f2) ((dB x0 x8).f3)).bind fun aJ => (if aJ = true then (some x8) else (dJ.l0 k x0 x7 (wrap64 (x8 + 1))))) else (none)) else (none)) else (some (-1))
def dJ.f (k : Nat) (l0 : List (S28)) (a1 : Bool) : Option (Int) := dJ.l0 k l0 (l0.length : Int) 0
theorem dJ.dF : ∀ k, (∀ y0 y1 y2, LeO (dJ.l0 k y0 y1 y2) (dJ.l0 (k + 1) y0 y1 y2))
 | 0 => fun _ _ _ r h => by simp [dJ.l0] at h
 | k + 1 => by
  have ih0 := dJ.dF k
  ·intro y0 y1 y2
   unfold dJ.l0
   repeat' first
   | (with_reducible exact ih0 _ _ _)
   | (with_reducible exact gJ.mono _ _ _ _ _ _)
   | (with_reducible exact LeO.refl _)
   | (with_reducible exact LeO.none _)
   | (with_reducible refine LeO.ite ?_ ?_)
   | (with_reducible refine LeO.bind ?_ (fun _ => ?_))
   | exact ih0 _ _ _
   | exact gJ.mono _ _ _ _ _ _
   | exact LeO.none _
   | refine LeO.ite ?_ ?_
   | refine LeO.bind ?_ (fun _ => ?_)
theorem dJ.mono : ∀ a0 a1 k, LeO (dJ.f k a0 a1) (dJ.f (k + 1) a0 a1) := by
 intro a0 a1 k
 have ih0 := dJ.dF k
 unfold dJ.f
 repeat' first
   | (with_reducible exact ih0 _ _ _)
   | (with_reducible exact gJ.mono _ _ _ _ _ _)
   | (with_reducible exact LeO.refl _)
   | (with_reducible exact LeO.none _)
   | (with_reducible refine LeO.ite ?_ ?_)
   | (with_reducible refine LeO.bind ?_ (fun _ => ?_))
   | exact ih0 _ _ _
   | exact gJ.mono _ _ _ _ _ _
   | exact LeO.none _
   | refine LeO.ite ?_ ?_
   | refine LeO.bind ?_ (fun _ => ?_)
set_option maxHeartbeats 8000000 in
set_option maxRecDepth 100000 in
theorem dJ.calls (k : Nat) (A0 : Option Addr) (c0 : Nat) (l0 : List (S28)) (a1 : Bool) (r : Int) (w : World) (hr0 : Kd.C k28 w A0 l0.length l0) (hc0 : l0.length ≤ c0) (h : dJ.f k l0 a1 = some r) :
  Calls Tryz.prog 100 #[.slice A0 l0.length c0, .func (.func 77) #[] #[]] w fun e w' => e = .returned (.int .i64 r) ∧ Below w.heap.size w w' := by
 have hu28 := Tryz.underlying28
 have HR0 := ae.mk hr0
 have HC0 := ae.mk hc0
 clear hr0 hc0
 have HB := ae.mk (Below.refl w.heap.size w)
 have H : (dJ.l0 k l0 (l0.length : Int) 0) = some r := h
 clear h
 have H' := ae.mk H
 clear H
 go_enter Tryz.func100, Tryz.ntmps100
 go_wp2
 go_loopg [8] k (fun kq v8 w' => ∃ (aW : Int), v8 = .int .i64 aW ∧ ae (dJ.l0 kq l0 (l0.length : Int) aW = some r) ∧ ae (kq ≤ k) ∧ ae (Below w.heap.size w w'))
 case atStart => exact ⟨(0), (by first | rfl | (simp; done) | (simp [*]; done)), H', ⟨Nat.le_refl _⟩, ⟨by repeat (first | (with_reducible first | exact HB.out | apply au | apply ai | apply ak) | exact HB.out)⟩⟩
 case round =>
  clear H'
  try clear c1
  try clear p2
  obtain ⟨aW, rfl, HA, HK1, HB⟩ := hrel
  cases gk with
  | zero => exact absurd HA.out (by simp [dJ.l0])
  | succ k1 =>
   have H := HA.out
   clear HA
   simp only [dJ.l0] at H
   by_cases c3 : aW < (l0.length : Int)
   ·rw [if_pos c3] at H
    have gN : decide (aW < (l0.length : Int)) = true := decide_eq_true c3
    clear c3
    by_cases c4 : 0 ≤ aW
    ·rw [if_pos c4] at H
     have iQ : decide (0 ≤ aW) = true := decide_eq_true c4
     clear c4
     by_cases c5 : aW < (l0.length : Int)
     ·rw [if_pos c5] at H
      have jG : decide (aW < (l0.length : Int)) = true := decide_eq_true c5
      clear c5
      replace H := Option.bind_eq_some_iff.mp H
      obtain ⟨aJ, A60, H⟩ := H
      replace H : (if aJ = true then (some aW) else (dJ.l0 k1 l0 (l0.length : Int) (wrap64 (aW + 1)))) = some r := H
      have A6 := ae.mk A60
      clear A60
      by_cases c7 : aJ = true
      ·subst c7
       have H1 : (some aW) = some r := by rw [if_pos rfl] at H; exact H
       clear H
       have H := H1
       clear H1
       obtain rfl := Option.some.inj H
       have p101 : 0 ≤ (aW : Int) := of_decide_eq_true qa
       have q101 : aW < (l0.length : Int) := of_decide_eq_true qa
       obtain ⟨ad101, ng, c101_4, e101, hx101_0, hx101_1, hx101_2, hx101_3, hx101_4, hl101_4, hi101_4⟩ := tC HR0.out aW p101 q101
       cases e101
       replace hx101_0 := (HB.out.cell (World.block_lt_of_cell? w _ hx101_0)).trans hx101_0
       replace hx101_1 := (HB.out.cell (World.block_lt_of_cell? w _ hx101_1)).trans hx101_1
       replace hx101_2 := (HB.out.cell (World.block_lt_of_cell? w _ hx101_2)).trans hx101_2
       replace hx101_3 := (HB.out.cell (World.block_lt_of_cell? w _ hx101_3)).trans hx101_3
       replace hx101_4 := (HB.out.cell (World.block_lt_of_cell? w _ hx101_4)).trans hx101_4
       have lG := ae.mk hi101_4
       have lH := ae.mk hl101_4
       clear hi101_4 hl101_4
       replace p101 := eq_true p101
       replace q101 := eq_true q101
       go_wp2_with (first | ((with_reducible refine Go.Proofs.YteidaijpaijgpaaGreatDoorV.eG (s := 11) rfl ?_); refine Go.Proofs.YteidaijpaijgpaaGreatDoorV.gW (some 16) rfl rfl Tryz.func77 (by kernel_rfl) rfl #[.agg #[.string ((dB l0 aW).f0), .int .u32 ((dB l0 aW).f1.f0), .int .i64 ((dB l0 aW).f1.f1), .bool ((dB l0 aW).f2), .slice ng ((dB l0 aW).f3).length c101_4]] rfl qt ?_; (with_reducible refine (gJ.calls k1 ((dB l0 aW).f0) ((dB l0 aW).f1.f0) ((dB l0 aW).f1.f1) ((dB l0 aW).f2) _ _ ((dB l0 aW).f3) true _ ?aX ?aY A6.out).mono ?_); (case aX => exact qs ((Kd.dC lG.out HB.out))); (case aY => exact lH.out); rintro e w8 ⟨rfl, hb⟩; refine ⟨_, rfl, ?_⟩; replace HB := ae.mk (aj (qw HB) hb); (try clear hb); (try clear hb2); (try clear hk); (try clear hi)))
       go_ret
       exact ⟨by first | rfl | (simp [errW_none, errW_some] <;> rfl) | (simp [*, errW_none, errW_some] <;> rfl), by repeat (first | (with_reducible first | exact HB.out | apply au | apply ai | apply ak) | exact HB.out)⟩
      ·replace c7 := Bool.eq_false_iff.mpr c7
       subst c7
       have H1 : (dJ.l0 k1 l0 (l0.length : Int) (wrap64 (aW + 1))) = some r := by rw [if_neg (show ¬ (false = true) by decide)] at H; exact H
       clear H
       have H := H1
       clear H1
       have H' := ae.mk H
       clear H
       have p101 : 0 ≤ (aW : Int) := of_decide_eq_true qa
       have q101 : aW < (l0.length : Int) := of_decide_eq_true qa
       obtain ⟨ad101, ng, c101_4, e101, hx101_0, hx101_1, hx101_2, hx101_3, hx101_4, hl101_4, hi101_4⟩ := tC HR0.out aW p101 q101
       cases e101
       replace hx101_0 := (HB.out.cell (World.block_lt_of_cell? w _ hx101_0)).trans hx101_0
       replace hx101_1 := (HB.out.cell (World.block_lt_of_cell? w _ hx101_1)).trans hx101_1
       replace hx101_2 := (HB.out.cell (World.block_lt_of_cell? w _ hx101_2)).trans hx101_2
       replace hx101_3 := (HB.out.cell (World.block_lt_of_cell? w _ hx101_3)).trans hx101_3
       replace hx101_4 := (HB.out.cell (World.block_lt_of_cell? w _ hx101_4)).trans hx101_4
       have lG := ae.mk hi101_4
       have lH := ae.mk hl101_4
       clear hi101_4 hl101_4
       replace p101 := eq_true p101
       replace q101 := eq_true q101
       go_wp2_with (first | ((with_reducible refine Go.Proofs.YteidaijpaijgpaaGreatDoorV.eG (s := 11) rfl ?_); refine Go.Proofs.YteidaijpaijgpaaGreatDoorV.gW (some 16) rfl rfl Tryz.func77 (by kernel_rfl) rfl #[.agg #[.string ((dB l0 aW).f0), .int .u32 ((dB l0 aW).f1.f0), .int .i64 ((dB l0 aW).f1.f1), .bool ((dB l0 aW).f2), .slice ng ((dB l0 aW).f3).length c101_4]] rfl qt ?_; (with_reducible refine (gJ.calls k1 ((dB l0 aW).f0) ((dB l0 aW).f1.f0) ((dB l0 aW).f1.f1) ((dB l0 aW).f2) _ _ ((dB l0 aW).f3) false _ ?aX ?aY A6.out).mono ?_); (case aX => exact qs ((Kd.dC lG.out HB.out))); (case aY => exact lH.out); rintro e w9 ⟨rfl, hb⟩; refine ⟨_, rfl, ?_⟩; replace HB := ae.mk (aj (qw HB) hb); (try clear hb); (try clear hb2); (try clear hk); (try clear hi)))
       go_roundg k1
       case measure => have := HK1.out; omega
       case rel => exact ⟨(wrap64 (aW + 1)), (by first | rfl | (simp; done) | (simp [*]; done)), H', ⟨by have := HK1.out; omega⟩, ⟨by repeat (first | (with_reducible first | exact HB.out | apply au | apply ai | apply ak) | exact HB.out)⟩⟩
     ·rw [if_neg c5] at H
      exact absurd H (by simp)
    ·rw [if_neg c4] at H
     exact absurd H (by simp)
   ·rw [if_neg c3] at H
    have gN : decide (aW < (l0.length : Int)) = false := decide_eq_false c3
    clear c3
    obtain rfl := Option.some.inj H
    go_wp2
    go_ret
    exact ⟨by first | rfl | (simp [errW_none, errW_some] <;> rfl) | (simp [*, errW_none, errW_some] <;> rfl), by repeat (first | (with_reducible first | exact HB.out | apply au | apply ai | apply ak) | exact HB.out)⟩
end Go.Proofs.YteidaijpaijgpaaGreatDoor.P
end
section
namespace Go.Proofs.YteidaijpaijgpaaGreatDoor.P
open Go.RowKit Go.Proofs.YteidaijpaijgpaaGreatDoorW.ay Go.Proofs.YteidaijpaijgpaaGreatDoorW.aQ Go.Proofs.YteidaijpaijgpaaGreatDoorW.aZ
attribute [local go_sem] bz bA bP bQ bq bu bB bC
set_option linter.unusedVariables false
set_option linter.unusedSimpArgs false
def fJ.f (k : Nat) (l0 : List (S28)) (a1 : Bool) : Option (Bool) := (dJ.f k l0 a1).bind fun bR => (some (decide (0 ≤ bR)))
theorem fJ.mono : ∀ a0 a1 k, LeO (fJ.f k a0 a1) (fJ.f (k + 1) a0 a1) := by
 intro a0 a1 k
 unfold fJ.f
 repeat' first
   | (with_reducible exact dJ.mono _ _ _)
   | (with_reducible exact LeO.refl _)
   | (with_reducible exact LeO.none _)
   | (with_reducible refine LeO.ite ?_ ?_)
   | (with_reducible refine LeO.bind ?_ (fun _ => ?_))
   | exact dJ.mono _ _ _
   | exact LeO.none _
   | refine LeO.ite ?_ ?_
   | refine LeO.bind ?_ (fun _ => ?_)
set_option maxHeartbeats 8000000 in
set_option maxRecDepth 100000 in
theorem fJ.calls (k : Nat) (A0 : Option Addr) (c0 : Nat) (l0 : List (S28)) (a1 : Bool) (r : Bool) (w : World) (hr0 : Kd.C k28 w A0 l0.length l0) (hc0 : l0.length ≤ c0) (h : fJ.f k l0 a1 = some r) :
  Calls Tryz.prog 76 #[.slice A0 l0.length c0, .func (.func 77) #[] #[]] w fun e w' => e = .returned (.bool r) ∧ Below w.heap.size w w' := by
 have HR0 := ae.mk hr0
 have HC0 := ae.mk hc0
 clear hr0 hc0
 have HB := ae.mk (Below.refl w.heap.size w)
 have H : ((dJ.f k l0 a1).bind fun bR => (some (decide (0 ≤ bR)))) = some r := h
 clear h
 replace H := Option.bind_eq_some_iff.mp H
 obtain ⟨bR, A30, H⟩ := H
 replace H : (some (decide (0 ≤ bR))) = some r := H
 have A3 := ae.mk A30
 clear A30
 obtain rfl := Option.some.inj H
 go_enter Tryz.func76, Tryz.ntmps76
 go_wp2_with (first | ((with_reducible refine aH (f := 100) rfl ?_); refine bN (some 7) rfl rfl Tryz.func100 (by kernel_rfl) rfl #[.slice A0 l0.length c0, .func (.func 77) #[] #[]] rfl qt ?_; (with_reducible refine (dJ.calls k _ _ l0 a1 bR _ ?aX ?aY A3.out).mono ?_); (case aX => exact qs (HR0.out)); (case aY => exact HC0.out); rintro e w4 ⟨rfl, hb⟩; refine ⟨_, rfl, ?_⟩; replace HB := ae.mk (aj (qw HB) hb); (try clear hb); (try clear hb2); (try clear hk); (try clear hi)))
 go_ret
 exact ⟨by first | rfl | (simp [errW_none, errW_some] <;> rfl) | (simp [*, errW_none, errW_some] <;> rfl), by repeat (first | (with_reducible first | exact HB.out | apply au | apply ai | apply ak) | exact HB.out)⟩
end Go.Proofs.YteidaijpaijgpaaGreatDoor.P
end
section
namespace Go.Proofs.YteidaijpaijgpaaGreatDoor.P
open Go.RowKit Go.Proofs.YteidaijpaijgpaaGreatDoorW.ay Go.Proofs.YteidaijpaijgpaaGreatDoorW.aQ Go.Proofs.YteidaijpaijgpaaGreatDoorW.aZ
attribute [local go_sem] bz bA bP bQ bq bu bB bC
set_option linter.unusedVariables false
set_option linter.unusedSimpArgs false
def cB.j0 : Nat → Bool → ByteArray → List (S66) → List (S74) → List (S28) → Option (Bool)
 | 0, _, _, _, _, _ => none
 | k + 1, x23, BH, yo, yt, yu => if x23 = true then (some true) else ((fU.f k yo rT).bind fun bJ => (if bJ = true then (some true) else ((fO.f k yt qz).bind fun bH => (if bH = true then (some true) else ((fJ.f k yu pE).bind fun t105 => (some t105))))))
def cB.f (k : Nat) (aD : ByteArray) (cK : List (S66)) (eU : List (S74)) (gF : List (S28)) : Option (Bool) := (gM.f aD).bind fun aJ => (if aJ = true then (cB.j0 k true aD cK eU gF) else (if (cK.length : Int) > 12 then (cB.j0 k true aD cK eU gF) else (if (eU.length : Int) > 40 then (cB.j0 k true aD cK eU gF) else (cB.j0 k (decide (60 < (gF.length : Int))) aD cK eU gF))))
theorem cB.dF : ∀ k, (∀ y0 y1 y2 y3 y4, LeO (cB.j0 k y0 y1 y2 y3 y4) (cB.j0 (k + 1) y0 y1 y2 y3 y4))
 | 0 => fun _ _ _ _ _ r h => by simp [cB.j0] at h
 | k + 1 => by
  have ih0 := cB.dF k
  ·intro y0 y1 y2 y3 y4
   unfold cB.j0
   repeat' first
   | (with_reducible exact ih0 _ _ _ _ _)
   | (with_reducible exact fO.mono _ _ _)
   | (with_reducible exact fU.mono _ _ _)
   | (with_reducible exact fJ.mono _ _ _)
   | (with_reducible exact LeO.refl _)
   | (with_reducible exact LeO.none _)
   | (with_reducible refine LeO.ite ?_ ?_)
   | (with_reducible refine LeO.bind ?_ (fun _ => ?_))
   | exact ih0 _ _ _ _ _
   | exact fO.mono _ _ _
   | exact fU.mono _ _ _
   | exact fJ.mono _ _ _
   | exact LeO.none _
   | refine LeO.ite ?_ ?_
   | refine LeO.bind ?_ (fun _ => ?_)
theorem cB.mono : ∀ a0 a1 a2 a3 k, LeO (cB.f k a0 a1 a2 a3) (cB.f (k + 1) a0 a1 a2 a3) := by
 intro a0 a1 a2 a3 k
 have ih0 := cB.dF k
 unfold cB.f
 repeat' first
   | (with_reducible exact ih0 _ _ _ _ _)
   | (with_reducible exact fO.mono _ _ _)
   | (with_reducible exact fU.mono _ _ _)
   | (with_reducible exact fJ.mono _ _ _)
   | (with_reducible exact LeO.refl _)
   | (with_reducible exact LeO.none _)
   | (with_reducible refine LeO.ite ?_ ?_)
   | (with_reducible refine LeO.bind ?_ (fun _ => ?_))
   | exact ih0 _ _ _ _ _
   | exact fO.mono _ _ _
   | exact fU.mono _ _ _
   | exact fJ.mono _ _ _
   | exact LeO.none _
   | refine LeO.ite ?_ ?_
   | refine LeO.bind ?_ (fun _ => ?_)
set_option maxHeartbeats 8000000 in
set_option maxRecDepth 100000 in
theorem cB.calls (k : Nat) (aD : ByteArray) (gq : Option Addr) (c0_1 : Nat) (cK : List (S66)) (iT : Option Addr) (c0_2 : Nat) (eU : List (S74)) (kL : Option Addr) (c0_3 : Nat) (gF : List (S28)) (r : Bool) (w : World) (hr0_1 : Kd.C k66 w gq cK.length cK) (hc0_1 : cK.length ≤ c0_1) (hr0_2 : Kd.C k74 w iT eU.length eU) (hc0_2 : eU.length ≤ c0_2) (hr0_3 : Kd.C k28 w kL gF.length gF) (hc0_3 : gF.length ≤ c0_3) (h : cB.f k aD cK eU gF = some r) :
  Calls Tryz.prog 39 #[.agg #[.string aD, .slice gq cK.length c0_1, .slice iT eU.length c0_2, .slice kL gF.length c0_3]] w fun e w' => e = .returned (.bool r) ∧ Below w.heap.size w w' := by
 have hu62 := Tryz.underlying62
 have kH := ae.mk hr0_1
 have kI := ae.mk hc0_1
 clear hr0_1 hc0_1
 have mP := ae.mk hr0_2
 have mQ := ae.mk hc0_2
 clear hr0_2 hc0_2
 have xw := ae.mk hr0_3
 have xx := ae.mk hc0_3
 clear hr0_3 hc0_3
 have HB := ae.mk (Below.refl w.heap.size w)
 have H : ((gM.f aD).bind fun aJ => (if aJ = true then (cB.j0 k true aD cK eU gF) else (if (cK.length : Int) > 12 then (cB.j0 k true aD cK eU gF) else (if (eU.length : Int) > 40 then (cB.j0 k true aD cK eU gF) else (cB.j0 k (decide (60 < (gF.length : Int))) aD cK eU gF))))) = some r := h
 clear h
 have HC2 := ae.mk H
 clear H
 go_enter Tryz.func39, Tryz.ntmps39
 go_upto_region 1 with (first | ((with_reducible refine bg (N := 1) rfl ?_); (try (refine eY (by rfl) ?_; dsimp only)); refine bE ?hg (N := 1) ?hd (cs := #[.string aD, .slice gq cK.length c0_1, .slice iT eU.length c0_2, .slice kL gF.length c0_3]) (t := 62) ?hr ?_; (case hd => rfl); (case hg => rfl); (case hr => first | (go_simp; done) | (go_simp; rfl)); intro av hg w3 hbox hb; have ag := ae.mk (hbox); have GW101 := qge HB hg; have dh := qge HB hg; replace HB := ae.mk (aj (qw HB) hb); clear hb hbox hg))
 (try simp only [Act.put, List.setIfInBounds_toArray, List.set_cons_zero, List.set_cons_succ])
 go_cut [23] (fun v23 wc => ∃ (kq : Nat) (uE : Bool), v23 = .bool uE ∧ ae (cB.j0 kq uE aD cK eU gF = some r) ∧ ae (kq ≤ k) ∧ ae (wc.heap[av]? = some (.cells #[.string aD, (.slice gq cK.length c0_1), (.slice iT eU.length c0_2), (.slice kL gF.length c0_3)] 62 (0, 0))) ∧ ae (Below w.heap.size w wc))
 case first =>
  have H := HC2.out
  clear HC2
  replace H := Option.bind_eq_some_iff.mp H
  obtain ⟨aJ, A40, H⟩ := H
  replace H : (if aJ = true then (cB.j0 k true aD cK eU gF) else (if (cK.length : Int) > 12 then (cB.j0 k true aD cK eU gF) else (if (eU.length : Int) > 40 then (cB.j0 k true aD cK eU gF) else (cB.j0 k (decide (60 < (gF.length : Int))) aD cK eU gF)))) = some r := H
  have A4 := ae.mk A40
  clear A40
  by_cases c5 : aJ = true
  ·subst c5
   have H1 : (cB.j0 k true aD cK eU gF) = some r := by rw [if_pos rfl] at H; exact H
   clear H
   have H := H1
   clear H1
   have H' := ae.mk H
   clear H
   have hcz6_0 : w3.cell? ⟨av, 0, none⟩ = some (.string aD) := (af ag.out 0).trans rfl
   have hcz6_1 : w3.cell? ⟨av, 1, none⟩ = some (.slice gq cK.length c0_1) := (af ag.out 1).trans rfl
   have hcz6_2 : w3.cell? ⟨av, 2, none⟩ = some (.slice iT eU.length c0_2) := (af ag.out 2).trans rfl
   have hcz6_3 : w3.cell? ⟨av, 3, none⟩ = some (.slice kL gF.length c0_3) := (af ag.out 3).trans rfl
   have hfz6_0 := ah ag.out 0
   have hfz6_1 := ah ag.out 1
   have hfz6_2 := ah ag.out 2
   have hfz6_3 := ah ag.out 3
   go_wp2_with (first | ((with_reducible refine aH (f := 71) rfl ?_); refine bN (some 5) rfl rfl Tryz.func71 (by kernel_rfl) rfl #[.string aD] rfl qt ?_; (with_reducible refine (gM.calls aD true _ A4.out).mono ?_); rintro e w' ⟨rfl, ⟨nd, rfl⟩⟩; refine ⟨_, rfl, ?_⟩))
   go_meet
   case rel => exact ⟨_, (true), (by first | rfl | (simp; done) | (simp [*]; done)), H', ⟨by first | omega | exact Nat.le_refl _⟩, ⟨by (with_reducible repeat (first | refine gz ?_ _ | refine dQ ?_ | refine gy ?_ _)); exact ag.out⟩, ⟨by repeat (first | (with_reducible first | exact HB.out | apply au | apply ai | apply ak | refine bn ?_ dh.out) | exact HB.out)⟩⟩
  ·replace c5 := Bool.eq_false_iff.mpr c5
   subst c5
   have H1 : (if (cK.length : Int) > 12 then (cB.j0 k true aD cK eU gF) else (if (eU.length : Int) > 40 then (cB.j0 k true aD cK eU gF) else (cB.j0 k (decide (60 < (gF.length : Int))) aD cK eU gF))) = some r := by rw [if_neg (show ¬ (false = true) by decide)] at H; exact H
   clear H
   have H := H1
   clear H1
   by_cases c7 : (cK.length : Int) > 12
   ·rw [if_pos c7] at H
    have jg : decide (12 < (cK.length : Int)) = true := decide_eq_true c7
    have oq : decide (12 < cK.length) = true := decide_eq_true (by omega)
    clear c7
    (first | rw [jg] | (simp only [jD, nA]; rw [jg]) | skip)
    have H' := ae.mk H
    clear H
    have hcz8_0 : w3.cell? ⟨av, 0, none⟩ = some (.string aD) := (af ag.out 0).trans rfl
    have hcz8_1 : w3.cell? ⟨av, 1, none⟩ = some (.slice gq cK.length c0_1) := (af ag.out 1).trans rfl
    have hcz8_2 : w3.cell? ⟨av, 2, none⟩ = some (.slice iT eU.length c0_2) := (af ag.out 2).trans rfl
    have hcz8_3 : w3.cell? ⟨av, 3, none⟩ = some (.slice kL gF.length c0_3) := (af ag.out 3).trans rfl
    have hfz8_0 := ah ag.out 0
    have hfz8_1 := ah ag.out 1
    have hfz8_2 := ah ag.out 2
    have hfz8_3 := ah ag.out 3
    go_wp2_with (first | ((with_reducible refine aH (f := 71) rfl ?_); refine bN (some 5) rfl rfl Tryz.func71 (by kernel_rfl) rfl #[.string aD] rfl qt ?_; (with_reducible refine (gM.calls aD false _ A4.out).mono ?_); rintro e w' ⟨rfl, ⟨nd, rfl⟩⟩; refine ⟨_, rfl, ?_⟩))
    go_meet
    case rel => exact ⟨_, (true), (by first | rfl | (simp; done) | (simp [*]; done)), H', ⟨by first | omega | exact Nat.le_refl _⟩, ⟨by (with_reducible repeat (first | refine gz ?_ _ | refine dQ ?_ | refine gy ?_ _)); exact ag.out⟩, ⟨by repeat (first | (with_reducible first | exact HB.out | apply au | apply ai | apply ak | refine bn ?_ dh.out) | exact HB.out)⟩⟩
   ·rw [if_neg c7] at H
    have jg : decide (12 < (cK.length : Int)) = false := decide_eq_false c7
    have oq : decide (12 < cK.length) = false := decide_eq_false (by omega)
    clear c7
    (first | rw [jg] | (simp only [jD, nA]; rw [jg]) | skip)
    by_cases c9 : (eU.length : Int) > 40
    ·rw [if_pos c9] at H
     have lT : decide (40 < (eU.length : Int)) = true := decide_eq_true c9
     have rV : decide (40 < eU.length) = true := decide_eq_true (by omega)
     clear c9
     have H' := ae.mk H
     clear H
     have hcz10_0 : w3.cell? ⟨av, 0, none⟩ = some (.string aD) := (af ag.out 0).trans rfl
     have hcz10_1 : w3.cell? ⟨av, 1, none⟩ = some (.slice gq cK.length c0_1) := (af ag.out 1).trans rfl
     have hcz10_2 : w3.cell? ⟨av, 2, none⟩ = some (.slice iT eU.length c0_2) := (af ag.out 2).trans rfl
     have hcz10_3 : w3.cell? ⟨av, 3, none⟩ = some (.slice kL gF.length c0_3) := (af ag.out 3).trans rfl
     have hfz10_0 := ah ag.out 0
     have hfz10_1 := ah ag.out 1
     have hfz10_2 := ah ag.out 2
     have hfz10_3 := ah ag.out 3
     go_wp2_with (first | ((with_reducible refine aH (f := 71) rfl ?_); refine bN (some 5) rfl rfl Tryz.func71 (by kernel_rfl) rfl #[.string aD] rfl qt ?_; (with_reducible refine (gM.calls aD false _ A4.out).mono ?_); rintro e w' ⟨rfl, ⟨nd, rfl⟩⟩; refine ⟨_, rfl, ?_⟩))
     go_meet
     case rel => exact ⟨_, (true), (by first | rfl | (simp; done) | (simp [*]; done)), H', ⟨by first | omega | exact Nat.le_refl _⟩, ⟨by (with_reducible repeat (first | refine gz ?_ _ | refine dQ ?_ | refine gy ?_ _)); exact ag.out⟩, ⟨by repeat (first | (with_reducible first | exact HB.out | apply au | apply ai | apply ak | refine bn ?_ dh.out) | exact HB.out)⟩⟩
    ·rw [if_neg c9] at H
     have lT : decide (40 < (eU.length : Int)) = false := decide_eq_false c9
     have rV : decide (40 < eU.length) = false := decide_eq_false (by omega)
     clear c9
     have H' := ae.mk H
     clear H
     have hcz11_0 : w3.cell? ⟨av, 0, none⟩ = some (.string aD) := (af ag.out 0).trans rfl
     have hcz11_1 : w3.cell? ⟨av, 1, none⟩ = some (.slice gq cK.length c0_1) := (af ag.out 1).trans rfl
     have hcz11_2 : w3.cell? ⟨av, 2, none⟩ = some (.slice iT eU.length c0_2) := (af ag.out 2).trans rfl
     have hcz11_3 : w3.cell? ⟨av, 3, none⟩ = some (.slice kL gF.length c0_3) := (af ag.out 3).trans rfl
     have hfz11_0 := ah ag.out 0
     have hfz11_1 := ah ag.out 1
     have hfz11_2 := ah ag.out 2
     have hfz11_3 := ah ag.out 3
     go_wp2_with (first | ((with_reducible refine aH (f := 71) rfl ?_); refine bN (some 5) rfl rfl Tryz.func71 (by kernel_rfl) rfl #[.string aD] rfl qt ?_; (with_reducible refine (gM.calls aD false _ A4.out).mono ?_); rintro e w' ⟨rfl, ⟨nd, rfl⟩⟩; refine ⟨_, rfl, ?_⟩))
     go_meet
     case rel => exact ⟨_, (decide (60 < (gF.length : Int))), (by first | rfl | (simp; done) | (simp [*]; done)), H', ⟨by first | omega | exact Nat.le_refl _⟩, ⟨by (with_reducible repeat (first | refine gz ?_ _ | refine dQ ?_ | refine gy ?_ _)); exact ag.out⟩, ⟨by repeat (first | (with_reducible first | exact HB.out | apply au | apply ai | apply ak | refine bn ?_ dh.out) | exact HB.out)⟩⟩
 case rest =>
  clear HC2
  try clear p2
  try clear c3
  try clear c5
  try clear c7
  try clear jg
  try clear oq
  try clear c9
  try clear lT
  try clear rV
  try clear hcz10_0
  try clear hcz10_1
  try clear hcz10_2
  try clear hcz10_3
  try clear hcz11_0
  try clear hcz11_1
  try clear hcz11_2
  try clear hcz11_3
  try clear hcz6_0
  try clear hcz6_1
  try clear hcz6_2
  try clear hcz6_3
  try clear hcz8_0
  try clear hcz8_1
  try clear hcz8_2
  try clear hcz8_3
  try clear hfz10_0
  try clear hfz10_1
  try clear hfz10_2
  try clear hfz10_3
  try clear hfz11_0
  try clear hfz11_1
  try clear hfz11_2
  try clear hfz11_3
  try clear hfz6_0
  try clear hfz6_1
  try clear hfz6_2
  try clear hfz6_3
  try clear hfz8_0
  try clear hfz8_1
  try clear hfz8_2
  try clear hfz8_3
  obtain ⟨kq, uE, rfl, HA, HJ1, ag, HB⟩ := hcut
  cases kq with
  | zero => exact absurd HA.out (by simp [cB.j0])
  | succ kj1 =>
   have H := HA.out
   clear HA
   simp only [cB.j0] at H
   by_cases c12 : uE = true
   ·subst c12
    have H1 : (some true) = some r := by rw [if_pos rfl] at H; exact H
    clear H
    have H := H1
    clear H1
    obtain rfl := Option.some.inj H
    go_wp2
    go_ret
    exact ⟨by first | rfl | (simp [errW_none, errW_some] <;> rfl) | (simp [*, errW_none, errW_some] <;> rfl), by repeat (first | (with_reducible first | exact HB.out | apply au | apply ai | apply ak | refine bn ?_ dh.out) | exact HB.out)⟩
   ·replace c12 := Bool.eq_false_iff.mpr c12
    subst c12
    have H1 : ((fU.f kj1 cK rT).bind fun bJ => (if bJ = true then (some true) else ((fO.f kj1 eU qz).bind fun bH => (if bH = true then (some true) else ((fJ.f kj1 gF pE).bind fun t105 => (some t105)))))) = some r := by rw [if_neg (show ¬ (false = true) by decide)] at H; exact H
    clear H
    have H := H1
    clear H1
    replace H := Option.bind_eq_some_iff.mp H
    obtain ⟨bJ, A130, H⟩ := H
    replace H : (if bJ = true then (some true) else ((fO.f kj1 eU qz).bind fun bH => (if bH = true then (some true) else ((fJ.f kj1 gF pE).bind fun t105 => (some t105))))) = some r := H
    have A13 := ae.mk A130
    clear A130
    by_cases c14 : bJ = true
    ·subst c14
     have H1 : (some true) = some r := by rw [if_pos rfl] at H; exact H
     clear H
     have H := H1
     clear H1
     obtain rfl := Option.some.inj H
     have hcz15_0 : wc.cell? ⟨av, 0, none⟩ = some (.string aD) := (af ag.out 0).trans rfl
     have hcz15_1 : wc.cell? ⟨av, 1, none⟩ = some (.slice gq cK.length c0_1) := (af ag.out 1).trans rfl
     have hcz15_2 : wc.cell? ⟨av, 2, none⟩ = some (.slice iT eU.length c0_2) := (af ag.out 2).trans rfl
     have hcz15_3 : wc.cell? ⟨av, 3, none⟩ = some (.slice kL gF.length c0_3) := (af ag.out 3).trans rfl
     have hfz15_0 := ah ag.out 0
     have hfz15_1 := ah ag.out 1
     have hfz15_2 := ah ag.out 2
     have hfz15_3 := ah ag.out 3
     go_wp2_with (first | ((with_reducible refine aH (f := 72) rfl ?_); refine bN (some 26) rfl rfl Tryz.func72 (by kernel_rfl) rfl #[.slice gq cK.length c0_1, .func (.func 73) #[] #[]] rfl qt ?_; (with_reducible refine (fU.calls kj1 _ _ cK rT true _ ?aX ?aY A13.out).mono ?_); (case aX => exact qs ((Kd.dC kH.out HB.out))); (case aY => exact kI.out); rintro e w16 ⟨rfl, hb⟩; refine ⟨_, rfl, ?_⟩; replace ag := qbb ag hb; replace HB := ae.mk (aj (qw HB) hb); (try clear hb); (try clear hb2); (try clear hk); (try clear hi)))
     go_ret
     exact ⟨by first | rfl | (simp [errW_none, errW_some] <;> rfl) | (simp [*, errW_none, errW_some] <;> rfl), by repeat (first | (with_reducible first | exact HB.out | apply au | apply ai | apply ak | refine bn ?_ dh.out) | exact HB.out)⟩
    ·replace c14 := Bool.eq_false_iff.mpr c14
     subst c14
     have H1 : ((fO.f kj1 eU qz).bind fun bH => (if bH = true then (some true) else ((fJ.f kj1 gF pE).bind fun t105 => (some t105)))) = some r := by rw [if_neg (show ¬ (false = true) by decide)] at H; exact H
     clear H
     have H := H1
     clear H1
     replace H := Option.bind_eq_some_iff.mp H
     obtain ⟨bH, A170, H⟩ := H
     replace H : (if bH = true then (some true) else ((fJ.f kj1 gF pE).bind fun t105 => (some t105))) = some r := H
     have A17 := ae.mk A170
     clear A170
     by_cases c18 : bH = true
     ·subst c18
      have H1 : (some true) = some r := by rw [if_pos rfl] at H; exact H
      clear H
      have H := H1
      clear H1
      obtain rfl := Option.some.inj H
      have hcz19_0 : wc.cell? ⟨av, 0, none⟩ = some (.string aD) := (af ag.out 0).trans rfl
      have hcz19_1 : wc.cell? ⟨av, 1, none⟩ = some (.slice gq cK.length c0_1) := (af ag.out 1).trans rfl
      have hcz19_2 : wc.cell? ⟨av, 2, none⟩ = some (.slice iT eU.length c0_2) := (af ag.out 2).trans rfl
      have hcz19_3 : wc.cell? ⟨av, 3, none⟩ = some (.slice kL gF.length c0_3) := (af ag.out 3).trans rfl
      have hfz19_0 := ah ag.out 0
      have hfz19_1 := ah ag.out 1
      have hfz19_2 := ah ag.out 2
      have hfz19_3 := ah ag.out 3
      go_wp2_with (first | ((with_reducible refine aH (f := 72) rfl ?_); refine bN (some 26) rfl rfl Tryz.func72 (by kernel_rfl) rfl #[.slice gq cK.length c0_1, .func (.func 73) #[] #[]] rfl qt ?_; (with_reducible refine (fU.calls kj1 _ _ cK rT false _ ?aX ?aY A13.out).mono ?_); (case aX => exact qs ((Kd.dC kH.out HB.out))); (case aY => exact kI.out); rintro e w20 ⟨rfl, hb⟩; refine ⟨_, rfl, ?_⟩; replace ag := qbb ag hb; replace HB := ae.mk (aj (qw HB) hb); (try clear hb); (try clear hb2); (try clear hk); (try clear hi); have hcz21_0 : w20.cell? ⟨av, 0, none⟩ = some (.string aD) := (af ag.out 0).trans rfl; have hcz21_1 : w20.cell? ⟨av, 1, none⟩ = some (.slice gq cK.length c0_1) := (af ag.out 1).trans rfl; have hcz21_2 : w20.cell? ⟨av, 2, none⟩ = some (.slice iT eU.length c0_2) := (af ag.out 2).trans rfl; have hcz21_3 : w20.cell? ⟨av, 3, none⟩ = some (.slice kL gF.length c0_3) := (af ag.out 3).trans rfl; have hfz21_0 := ah ag.out 0; have hfz21_1 := ah ag.out 1; have hfz21_2 := ah ag.out 2; have hfz21_3 := ah ag.out 3) | (go_at_call 74; (with_reducible refine (fO.calls kj1 _ _ eU qz true _ ?aX ?aY A17.out).mono ?_); (case aX => exact qs ((Kd.dC mP.out HB.out))); (case aY => exact mQ.out); rintro e w22 ⟨rfl, hb⟩; replace ag := qbb ag hb; replace HB := ae.mk (aj (qw HB) hb); (try clear hb); (try clear hb2); (try clear hk); (try clear hi)))
      go_ret
      exact ⟨by first | rfl | (simp [errW_none, errW_some] <;> rfl) | (simp [*, errW_none, errW_some] <;> rfl), by repeat (first | (with_reducible first | exact HB.out | apply au | apply ai | apply ak | refine bn ?_ dh.out) | exact HB.out)⟩
     ·replace c18 := Bool.eq_false_iff.mpr c18
      subst c18
      have H1 : ((fJ.f kj1 gF pE).bind fun t105 => (some t105)) = some r := by rw [if_neg (show ¬ (false = true) by decide)] at H; exact H
      clear H
      have H := H1
      clear H1
      replace H := Option.bind_eq_some_iff.mp H
      obtain ⟨t105, A230, H⟩ := H
      replace H : (some t105) = some r := H
      have A23 := ae.mk A230
      clear A230
      obtain rfl := Option.some.inj H
      have hcz24_0 : wc.cell? ⟨av, 0, none⟩ = some (.string aD) := (af ag.out 0).trans rfl
      have hcz24_1 : wc.cell? ⟨av, 1, none⟩ = some (.slice gq cK.length c0_1) := (af ag.out 1).trans rfl
      have hcz24_2 : wc.cell? ⟨av, 2, none⟩ = some (.slice iT eU.length c0_2) := (af ag.out 2).trans rfl
      have hcz24_3 : wc.cell? ⟨av, 3, none⟩ = some (.slice kL gF.length c0_3) := (af ag.out 3).trans rfl
      have hfz24_0 := ah ag.out 0
      have hfz24_1 := ah ag.out 1
      have hfz24_2 := ah ag.out 2
      have hfz24_3 := ah ag.out 3
      go_wp2_with (first | ((with_reducible refine aH (f := 72) rfl ?_); refine bN (some 26) rfl rfl Tryz.func72 (by kernel_rfl) rfl #[.slice gq cK.length c0_1, .func (.func 73) #[] #[]] rfl qt ?_; (with_reducible refine (fU.calls kj1 _ _ cK rT false _ ?aX ?aY A13.out).mono ?_); (case aX => exact qs ((Kd.dC kH.out HB.out))); (case aY => exact kI.out); rintro e w25 ⟨rfl, hb⟩; refine ⟨_, rfl, ?_⟩; replace ag := qbb ag hb; replace HB := ae.mk (aj (qw HB) hb); (try clear hb); (try clear hb2); (try clear hk); (try clear hi); have hcz26_0 : w25.cell? ⟨av, 0, none⟩ = some (.string aD) := (af ag.out 0).trans rfl; have hcz26_1 : w25.cell? ⟨av, 1, none⟩ = some (.slice gq cK.length c0_1) := (af ag.out 1).trans rfl; have hcz26_2 : w25.cell? ⟨av, 2, none⟩ = some (.slice iT eU.length c0_2) := (af ag.out 2).trans rfl; have hcz26_3 : w25.cell? ⟨av, 3, none⟩ = some (.slice kL gF.length c0_3) := (af ag.out 3).trans rfl; have hfz26_0 := ah ag.out 0; have hfz26_1 := ah ag.out 1; have hfz26_2 := ah ag.out 2; have hfz26_3 := ah ag.out 3) | (go_at_call 74; (with_reducible refine (fO.calls kj1 _ _ eU qz false _ ?aX ?aY A17.out).mono ?_); (case aX => exact qs ((Kd.dC mP.out HB.out))); (case aY => exact mQ.out); rintro e w27 ⟨rfl, hb⟩; replace ag := qbb ag hb; replace HB := ae.mk (aj (qw HB) hb); (try clear hb); (try clear hb2); (try clear hk); (try clear hi); have hcz28_0 : w27.cell? ⟨av, 0, none⟩ = some (.string aD) := (af ag.out 0).trans rfl; have hcz28_1 : w27.cell? ⟨av, 1, none⟩ = some (.slice gq cK.length c0_1) := (af ag.out 1).trans rfl; have hcz28_2 : w27.cell? ⟨av, 2, none⟩ = some (.slice iT eU.length c0_2) := (af ag.out 2).trans rfl; have hcz28_3 : w27.cell? ⟨av, 3, none⟩ = some (.slice kL gF.length c0_3) := (af ag.out 3).trans rfl; have hfz28_0 := ah ag.out 0; have hfz28_1 := ah ag.out 1; have hfz28_2 := ah ag.out 2; have hfz28_3 := ah ag.out 3) | (go_at_call 76; (with_reducible refine (fJ.calls kj1 _ _ gF pE t105 _ ?aX ?aY A23.out).mono ?_); (case aX => exact qs ((Kd.dC xw.out HB.out))); (case aY => exact xx.out); rintro e w29 ⟨rfl, hb⟩; replace ag := qbb ag hb; replace HB := ae.mk (aj (qw HB) hb); (try clear hb); (try clear hb2); (try clear hk); (try clear hi)))
      go_ret
      exact ⟨by first | rfl | (simp [errW_none, errW_some] <;> rfl) | (simp [*, errW_none, errW_some] <;> rfl), by repeat (first | (with_reducible first | exact HB.out | apply au | apply ai | apply ak | refine bn ?_ dh.out) | exact HB.out)⟩
end Go.Proofs.YteidaijpaijgpaaGreatDoor.P
end
section
namespace Go.Proofs.YteidaijpaijgpaaGreatDoor.P
open Go.RowKit Go.Proofs.YteidaijpaijgpaaGreatDoorW.ay Go.Proofs.YteidaijpaijgpaaGreatDoorW.aQ Go.Proofs.YteidaijpaijgpaaGreatDoorW.aZ
attribute [local go_sem] bz bA bP bQ bq bu bB bC
set_option linter.unusedVariables false
set_option linter.unusedSimpArgs false
def eO.l0 : Nat → List (S62) → Int → Int → Option (Int)
 | 0, _, _, _ => none
 | k + 1, x0, x7, x8 => if x8 < x7 then (if 0 ≤ x8 then (if x8 < (x0.length : Int) then ((cB.f k ((dS x0 x8).f0) ((dS x0 x8).f1) ((dS x0 x8).f2) ((dS x0 x8).f3)).bind fun aJ => (if aJ = true then (some x8) else (eO.l0 k x0 x7 (wrap64 (x8 + 1))))) else (none)) else (none)) else (some (-1))
def eO.f (k : Nat) (l0 : List (S62)) (a1 : Bool) : Option (Int) := eO.l0 k l0 (l0.length : Int) 0
theorem eO.dF : ∀ k, (∀ y0 y1 y2, LeO (eO.l0 k y0 y1 y2) (eO.l0 (k + 1) y0 y1 y2))
 | 0 => fun _ _ _ r h => by simp [eO.l0] at h
 | k + 1 => by
  have ih0 := eO.dF k
  ·intro y0 y1 y2
   unfold eO.l0
   repeat' first
   | (with_reducible exact ih0 _ _ _)
   | (with_reducible exact cB.mono _ _ _ _ _)
   | (with_reducible exact LeO.refl _)
   | (with_reducible exact LeO.none _)
   | (with_reducible refine LeO.ite ?_ ?_)
   | (with_reducible refine LeO.bind ?_ (fun _ => ?_))
   | exact ih0 _ _ _
   | exact cB.mono _ _ _ _ _
   | exact LeO.none _
   | refine LeO.ite ?_ ?_
   | refine LeO.bind ?_ (fun _ => ?_)
theorem eO.mono : ∀ a0 a1 k, LeO (eO.f k a0 a1) (eO.f (k + 1) a0 a1) := by
 intro a0 a1 k
 have ih0 := eO.dF k
 unfold eO.f
 repeat' first
   | (with_reducible exact ih0 _ _ _)
   | (with_reducible exact cB.mono _ _ _ _ _)
   | (with_reducible exact LeO.refl _)
   | (with_reducible exact LeO.none _)
   | (with_reducible refine LeO.ite ?_ ?_)
   | (with_reducible refine LeO.bind ?_ (fun _ => ?_))
   | exact ih0 _ _ _
   | exact cB.mono _ _ _ _ _
   | exact LeO.none _
   | refine LeO.ite ?_ ?_
   | refine LeO.bind ?_ (fun _ => ?_)
set_option maxHeartbeats 8000000 in
set_option maxRecDepth 100000 in
theorem eO.calls (k : Nat) (A0 : Option Addr) (c0 : Nat) (l0 : List (S62)) (a1 : Bool) (r : Int) (w : World) (hr0 : Kd.C k62 w A0 l0.length l0) (hc0 : l0.length ≤ c0) (h : eO.f k l0 a1 = some r) :
  Calls Tryz.prog 70 #[.slice A0 l0.length c0, .func (.func 39) #[] #[]] w fun e w' => e = .returned (.int .i64 r) ∧ Below w.heap.size w w' := by
 have hu62 := Tryz.underlying62
 have HR0 := ae.mk hr0
 have HC0 := ae.mk hc0
 clear hr0 hc0
 have HB := ae.mk (Below.refl w.heap.size w)
 have H : (eO.l0 k l0 (l0.length : Int) 0) = some r := h
 clear h
 have H' := ae.mk H
 clear H
 go_enter Tryz.func70, Tryz.ntmps70
 go_wp2
 go_loopg [8] k (fun kq v8 w' => ∃ (aW : Int), v8 = .int .i64 aW ∧ ae (eO.l0 kq l0 (l0.length : Int) aW = some r) ∧ ae (kq ≤ k) ∧ ae (Below w.heap.size w w'))
 case atStart => exact ⟨(0), (by first | rfl | (simp; done) | (simp [*]; done)), H', ⟨Nat.le_refl _⟩, ⟨by repeat (first | (with_reducible first | exact HB.out | apply au | apply ai | apply ak) | exact HB.out)⟩⟩
 case round =>
  clear H'
  try clear p2
  obtain ⟨aW, rfl, HA, HK1, HB⟩ := hrel
  cases gk with
  | zero => exact absurd HA.out (by simp [eO.l0])
  | succ k1 =>
   have H := HA.out
   clear HA
   simp only [eO.l0] at H
   by_cases c3 : aW < (l0.length : Int)
   ·rw [if_pos c3] at H
    have gN : decide (aW < (l0.length : Int)) = true := decide_eq_true c3
    clear c3
    by_cases c4 : 0 ≤ aW
    ·rw [if_pos c4] at H
     have iQ : decide (0 ≤ aW) = true := decide_eq_true c4
     clear c4
     by_cases c5 : aW < (l0.length : Int)
     ·rw [if_pos c5] at H
      have jG : decide (aW < (l0.length : Int)) = true := decide_eq_true c5
      clear c5
      replace H := Option.bind_eq_some_iff.mp H
      obtain ⟨aJ, A60, H⟩ := H
      replace H : (if aJ = true then (some aW) else (eO.l0 k1 l0 (l0.length : Int) (wrap64 (aW + 1)))) = some r := H
      have A6 := ae.mk A60
      clear A60
      by_cases c7 : aJ = true
      ·subst c7
       have H1 : (some aW) = some r := by rw [if_pos rfl] at H; exact H
       clear H
       have H := H1
       clear H1
       obtain rfl := Option.some.inj H
       have p101 : 0 ≤ (aW : Int) := of_decide_eq_true qa
       have q101 : aW < (l0.length : Int) := of_decide_eq_true qa
       obtain ⟨ad101, ni, c101_1, ug, c101_2, uh, c101_3, e101, hx101_0, hx101_1, hx101_2, hx101_3, hl101_1, hi101_1, hl101_2, hi101_2, hl101_3, hi101_3⟩ := tF HR0.out aW p101 q101
       cases e101
       replace hx101_0 := (HB.out.cell (World.block_lt_of_cell? w _ hx101_0)).trans hx101_0
       replace hx101_1 := (HB.out.cell (World.block_lt_of_cell? w _ hx101_1)).trans hx101_1
       replace hx101_2 := (HB.out.cell (World.block_lt_of_cell? w _ hx101_2)).trans hx101_2
       replace hx101_3 := (HB.out.cell (World.block_lt_of_cell? w _ hx101_3)).trans hx101_3
       have lI := ae.mk hi101_1
       have lJ := ae.mk hl101_1
       clear hi101_1 hl101_1
       have qY := ae.mk hi101_2
       have qZ := ae.mk hl101_2
       clear hi101_2 hl101_2
       have rf := ae.mk hi101_3
       have rq := ae.mk hl101_3
       clear hi101_3 hl101_3
       replace p101 := eq_true p101
       replace q101 := eq_true q101
       go_wp2_with (first | ((with_reducible refine Go.Proofs.YteidaijpaijgpaaGreatDoorV.eG (s := 11) rfl ?_); refine Go.Proofs.YteidaijpaijgpaaGreatDoorV.gW (some 16) rfl rfl Tryz.func39 (by kernel_rfl) rfl #[.agg #[.string ((dS l0 aW).f0), .slice ni ((dS l0 aW).f1).length c101_1, .slice ug ((dS l0 aW).f2).length c101_2, .slice uh ((dS l0 aW).f3).length c101_3]] rfl qt ?_; (with_reducible refine (cB.calls k1 ((dS l0 aW).f0) _ _ ((dS l0 aW).f1) _ _ ((dS l0 aW).f2) _ _ ((dS l0 aW).f3) true _ ?aX ?aY ?jK ?jL ?sD ?sF A6.out).mono ?_); (case aX => exact qs ((Kd.dC lI.out HB.out))); (case aY => exact lJ.out); (case jK => exact qs ((Kd.dC qY.out HB.out))); (case jL => exact qZ.out); (case sD => exact qs ((Kd.dC rf.out HB.out))); (case sF => exact rq.out); rintro e w8 ⟨rfl, hb⟩; refine ⟨_, rfl, ?_⟩; replace HB := ae.mk (aj (qw HB) hb); (try clear hb); (try clear hb2); (try clear hk); (try clear hi)))
       go_ret
       exact ⟨by first | rfl | (simp [errW_none, errW_some] <;> rfl) | (simp [*, errW_none, errW_some] <;> rfl), by repeat (first | (with_reducible first | exact HB.out | apply au | apply ai | apply ak) | exact HB.out)⟩
      ·replace c7 := Bool.eq_false_iff.mpr c7
       subst c7
       have H1 : (eO.l0 k1 l0 (l0.length : Int) (wrap64 (aW + 1))) = some r := by rw [if_neg (show ¬ (false = true) by decide)] at H; exact H
       clear H
       have H := H1
       clear H1
       have H' := ae.mk H
       clear H
       have p101 : 0 ≤ (aW : Int) := of_decide_eq_true qa
       have q101 : aW < (l0.length : Int) := of_decide_eq_true qa
       obtain ⟨ad101, ni, c101_1, ug, c101_2, uh, c101_3, e101, hx101_0, hx101_1, hx101_2, hx101_3, hl101_1, hi101_1, hl101_2, hi101_2, hl101_3, hi101_3⟩ := tF HR0.out aW p101 q101
       cases e101
       replace hx101_0 := (HB.out.cell (World.block_lt_of_cell? w _ hx101_0)).trans hx101_0
       replace hx101_1 := (HB.out.cell (World.block_lt_of_cell? w _ hx101_1)).trans hx101_1
       replace hx101_2 := (HB.out.cell (World.block_lt_of_cell? w _ hx101_2)).trans hx101_2
       replace hx101_3 := (HB.out.cell (World.block_lt_of_cell? w _ hx101_3)).trans hx101_3
       have lI := ae.mk hi101_1
       have lJ := ae.mk hl101_1
       clear hi101_1 hl101_1
       have qY := ae.mk hi101_2
       have qZ := ae.mk hl101_2
       clear hi101_2 hl101_2
       have rf := ae.mk hi101_3
       have rq := ae.mk hl101_3
       clear hi101_3 hl101_3
       replace p101 := eq_true p101
       replace q101 := eq_true q101
       go_wp2_with (first | ((with_reducible refine Go.Proofs.YteidaijpaijgpaaGreatDoorV.eG (s := 11) rfl ?_); refine Go.Proofs.YteidaijpaijgpaaGreatDoorV.gW (some 16) rfl rfl Tryz.func39 (by kernel_rfl) rfl #[.agg #[.string ((dS l0 aW).f0), .slice ni ((dS l0 aW).f1).length c101_1, .slice ug ((dS l0 aW).f2).length c101_2, .slice uh ((dS l0 aW).f3).length c101_3]] rfl qt ?_; (with_reducible refine (cB.calls k1 ((dS l0 aW).f0) _ _ ((dS l0 aW).f1) _ _ ((dS l0 aW).f2) _ _ ((dS l0 aW).f3) false _ ?aX ?aY ?jK ?jL ?sD ?sF A6.out).mono ?_); (case aX => exact qs ((Kd.dC lI.out HB.out))); (case aY => exact lJ.out); (case jK => exact qs ((Kd.dC qY.out HB.out))); (case jL => exact qZ.out); (case sD => exact qs ((Kd.dC rf.out HB.out))); (case sF => exact rq.out); rintro e w9 ⟨rfl, hb⟩; refine ⟨_, rfl, ?_⟩; replace HB := ae.mk (aj (qw HB) hb); (try clear hb); (try clear hb2); (try clear hk); (try clear hi)))
       go_roundg k1
       case measure => have := HK1.out; omega
       case rel => exact ⟨(wrap64 (aW + 1)), (by first | rfl | (simp; done) | (simp [*]; done)), H', ⟨by have := HK1.out; omega⟩, ⟨by repeat (first | (with_reducible first | exact HB.out | apply au | apply ai | apply ak) | exact HB.out)⟩⟩
     ·rw [if_neg c5] at H
      exact absurd H (by simp)
    ·rw [if_neg c4] at H
     exact absurd H (by simp)
   ·rw [if_neg c3] at H
    have gN : decide (aW < (l0.length : Int)) = false := decide_eq_false c3
    clear c3
    obtain rfl := Option.some.inj H
    go_wp2
    go_ret
    exact ⟨by first | rfl | (simp [errW_none, errW_some] <;> rfl) | (simp [*, errW_none, errW_some] <;> rfl), by repeat (first | (with_reducible first | exact HB.out | apply au | apply ai | apply ak) | exact HB.out)⟩
end Go.Proofs.YteidaijpaijgpaaGreatDoor.P
end
section
namespace Go.Proofs.YteidaijpaijgpaaGreatDoor.P
open Go.RowKit Go.Proofs.YteidaijpaijgpaaGreatDoorW.ay Go.Proofs.YteidaijpaijgpaaGreatDoorW.aQ Go.Proofs.YteidaijpaijgpaaGreatDoorW.aZ
attribute [local go_sem] bz bA bP bQ bq bu bB bC
set_option linter.unusedVariables false
set_option linter.unusedSimpArgs false
def iw.f (k : Nat) (l0 : List (S62)) (a1 : Bool) : Option (Bool) := (eO.f k l0 a1).bind fun bR => (some (decide (0 ≤ bR)))
theorem iw.mono : ∀ a0 a1 k, LeO (iw.f k a0 a1) (iw.f (k + 1) a0 a1) := by
 intro a0 a1 k
 unfold iw.f
 repeat' first
   | (with_reducible exact eO.mono _ _ _)
   | (with_reducible exact LeO.refl _)
   | (with_reducible exact LeO.none _)
   | (with_reducible refine LeO.ite ?_ ?_)
   | (with_reducible refine LeO.bind ?_ (fun _ => ?_))
   | exact eO.mono _ _ _
   | exact LeO.none _
   | refine LeO.ite ?_ ?_
   | refine LeO.bind ?_ (fun _ => ?_)
set_option maxHeartbeats 8000000 in
set_option maxRecDepth 100000 in
theorem iw.calls (k : Nat) (A0 : Option Addr) (c0 : Nat) (l0 : List (S62)) (a1 : Bool) (r : Bool) (w : World) (hr0 : Kd.C k62 w A0 l0.length l0) (hc0 : l0.length ≤ c0) (h : iw.f k l0 a1 = some r) :
  Calls Tryz.prog 38 #[.slice A0 l0.length c0, .func (.func 39) #[] #[]] w fun e w' => e = .returned (.bool r) ∧ Below w.heap.size w w' := by
 have HR0 := ae.mk hr0
 have HC0 := ae.mk hc0
 clear hr0 hc0
 have HB := ae.mk (Below.refl w.heap.size w)
 have H : ((eO.f k l0 a1).bind fun bR => (some (decide (0 ≤ bR)))) = some r := h
 clear h
 replace H := Option.bind_eq_some_iff.mp H
 obtain ⟨bR, A30, H⟩ := H
 replace H : (some (decide (0 ≤ bR))) = some r := H
 have A3 := ae.mk A30
 clear A30
 obtain rfl := Option.some.inj H
 go_enter Tryz.func38, Tryz.ntmps38
 go_wp2_with (first | ((with_reducible refine aH (f := 70) rfl ?_); refine bN (some 7) rfl rfl Tryz.func70 (by kernel_rfl) rfl #[.slice A0 l0.length c0, .func (.func 39) #[] #[]] rfl qt ?_; (with_reducible refine (eO.calls k _ _ l0 a1 bR _ ?aX ?aY A3.out).mono ?_); (case aX => exact qs (HR0.out)); (case aY => exact HC0.out); rintro e w4 ⟨rfl, hb⟩; refine ⟨_, rfl, ?_⟩; replace HB := ae.mk (aj (qw HB) hb); (try clear hb); (try clear hb2); (try clear hk); (try clear hi)))
 go_ret
 exact ⟨by first | rfl | (simp [errW_none, errW_some] <;> rfl) | (simp [*, errW_none, errW_some] <;> rfl), by repeat (first | (with_reducible first | exact HB.out | apply au | apply ai | apply ak) | exact HB.out)⟩
end Go.Proofs.YteidaijpaijgpaaGreatDoor.P
end
section
namespace Go.Proofs.YteidaijpaijgpaaGreatDoor.P
open Go.RowKit Go.Proofs.YteidaijpaijgpaaGreatDoorW.ay Go.Proofs.YteidaijpaijgpaaGreatDoorW.aQ Go.Proofs.YteidaijpaijgpaaGreatDoorW.aZ
attribute [local go_sem] bz bA bP bQ bq bu bB bC
set_option linter.unusedVariables false
set_option linter.unusedSimpArgs false
def fT.l0 : Nat → List Int → List Int → Int → Option (Int)
 | 0, _, _, _ => none
 | k + 1, x0, x1, x5 => if x5 ≥ 0 then (if 0 ≤ x5 then (if x5 < (x0.length : Int) then (if x5 < (x1.length : Int) then (if (rd x0 x5) < (rd x1 x5) then (some (-1)) else (if (rd x0 x5) > (rd x1 x5) then (some 1) else (fT.l0 k x0 x1 (wrap64 (x5 - 1))))) else (none)) else (none)) else (none)) else (some 0)
def fT.f (k : Nat) (l0 : List Int) (l1 : List Int) : Option (Int) := if (l0.length : Int) < (l1.length : Int) then (some (-1)) else (if (l0.length : Int) > (l1.length : Int) then (some 1) else (fT.l0 k l0 l1 (wrap64 ((l0.length : Int) - 1))))
theorem fT.dF : ∀ k, (∀ y0 y1 y2, LeO (fT.l0 k y0 y1 y2) (fT.l0 (k + 1) y0 y1 y2))
 | 0 => fun _ _ _ r h => by simp [fT.l0] at h
 | k + 1 => by
  have ih0 := fT.dF k
  ·intro y0 y1 y2
   unfold fT.l0
   repeat' first
   | (with_reducible exact ih0 _ _ _)
   | (with_reducible exact LeO.refl _)
   | (with_reducible exact LeO.none _)
   | (with_reducible refine LeO.ite ?_ ?_)
   | (with_reducible refine LeO.bind ?_ (fun _ => ?_))
   | exact ih0 _ _ _
   | exact LeO.none _
   | refine LeO.ite ?_ ?_
   | refine LeO.bind ?_ (fun _ => ?_)
theorem fT.mono : ∀ a0 a1 k, LeO (fT.f k a0 a1) (fT.f (k + 1) a0 a1) := by
 intro a0 a1 k
 have ih0 := fT.dF k
 unfold fT.f
 repeat' first
   | (with_reducible exact ih0 _ _ _)
   | (with_reducible exact LeO.refl _)
   | (with_reducible exact LeO.none _)
   | (with_reducible refine LeO.ite ?_ ?_)
   | (with_reducible refine LeO.bind ?_ (fun _ => ?_))
   | exact ih0 _ _ _
   | exact LeO.none _
   | refine LeO.ite ?_ ?_
   | refine LeO.bind ?_ (fun _ => ?_)
set_option maxHeartbeats 8000000 in
set_option maxRecDepth 100000 in
theorem fT.calls (k : Nat) (A0 : Option Addr) (c0 : Nat) (l0 : List Int) (A1 : Option Addr) (c1 : Nat) (l1 : List Int) (r : Int) (w : World) (hr0 : Kd.C (Kd.int .u64) w A0 l0.length l0) (hc0 : l0.length ≤ c0) (hr1 : Kd.C (Kd.int .u64) w A1 l1.length l1) (hc1 : l1.length ≤ c1) (h : fT.f k l0 l1 = some r) :
  Calls Tryz.prog 108 #[.slice A0 l0.length c0, .slice A1 l1.length c1] w fun e w' => e = .returned (.int .i64 r) ∧ eT w w' := by
 have HR0 := ae.mk hr0
 have HC0 := ae.mk hc0
 clear hr0 hc0
 have HR1 := ae.mk hr1
 have HC1 := ae.mk hc1
 clear hr1 hc1
 have H : (if (l0.length : Int) < (l1.length : Int) then (some (-1)) else (if (l0.length : Int) > (l1.length : Int) then (some 1) else (fT.l0 k l0 l1 (wrap64 ((l0.length : Int) - 1))))) = some r := h
 clear h
 by_cases c3 : (l0.length : Int) < (l1.length : Int)
 ·rw [if_pos c3] at H
  have gN : decide ((l0.length : Int) < (l1.length : Int)) = true := decide_eq_true c3
  have jk : decide (l0.length < l1.length) = true := decide_eq_true (Int.ofNat_lt.mp c3)
  clear c3
  obtain rfl := Option.some.inj H
  go_enter Tryz.func108, Tryz.ntmps108
  go_wp2
  repeat (go_quiet (fail); try go_wp2)
  go_ret
  exact ⟨by first | rfl | (simp; done) | (simp [*]; done), by repeat (first | exact eT.refl _ | apply eT.step)⟩
 ·rw [if_neg c3] at H
  have gN : decide ((l0.length : Int) < (l1.length : Int)) = false := decide_eq_false c3
  have jk : decide (l0.length < l1.length) = false := decide_eq_false (fun h => c3 (Int.ofNat_lt.mpr h))
  clear c3
  by_cases c4 : (l0.length : Int) > (l1.length : Int)
  ·rw [if_pos c4] at H
   have iQ : decide ((l1.length : Int) < (l0.length : Int)) = true := decide_eq_true c4
   have jv : decide (l1.length < l0.length) = true := decide_eq_true (Int.ofNat_lt.mp c4)
   clear c4
   obtain rfl := Option.some.inj H
   go_enter Tryz.func108, Tryz.ntmps108
   go_wp2
   repeat (go_quiet (fail); try go_wp2)
   go_ret
   exact ⟨by first | rfl | (simp; done) | (simp [*]; done), by repeat (first | exact eT.refl _ | apply eT.step)⟩
  ·rw [if_neg c4] at H
   have iQ : decide ((l1.length : Int) < (l0.length : Int)) = false := decide_eq_false c4
   have jv : decide (l1.length < l0.length) = false := decide_eq_false (fun h => c4 (Int.ofNat_lt.mpr h))
   clear c4
   have H' := ae.mk H
   clear H
   go_enter Tryz.func108, Tryz.ntmps108
   go_wp2
   repeat (go_quiet (fail); try go_wp2)
   go_loopg [5] k (fun kq v5 w' => ∃ (cZ : Int), v5 = .int .i64 cZ ∧ ae (fT.l0 kq l0 l1 cZ = some r) ∧ ae (kq ≤ k) ∧ eT w w')
   case atStart => exact ⟨(wrap64 ((l0.length : Int) - 1)), (by first | rfl | (simp; done) | (simp [*]; done)), H', ⟨Nat.le_refl _⟩, by repeat (first | exact eT.refl _ | apply eT.step)⟩
   case round =>
    clear H'
    try clear c1
    try clear p2
    try clear c3
    try clear gN
    try clear jk
    try clear c4
    try clear iQ
    try clear jv
    obtain ⟨cZ, rfl, HA, HK1, ⟨m1, rfl⟩⟩ := hrel
    cases gk with
    | zero => exact absurd HA.out (by simp [fT.l0])
    | succ k1 =>
     have H := HA.out
     clear HA
     simp only [fT.l0] at H
     by_cases c5 : cZ ≥ 0
     ·rw [if_pos c5] at H
      have jG : decide (0 ≤ cZ) = true := decide_eq_true c5
      clear c5
      by_cases c6 : 0 ≤ cZ
      ·rw [if_pos c6] at H
       have kE : decide (0 ≤ cZ) = true := decide_eq_true c6
       clear c6
       by_cases c7 : cZ < (l0.length : Int)
       ·rw [if_pos c7] at H
        have jg : decide (cZ < (l0.length : Int)) = true := decide_eq_true c7
        clear c7
        by_cases c8 : cZ < (l1.length : Int)
        ·rw [if_pos c8] at H
         have kK : decide (cZ < (l1.length : Int)) = true := decide_eq_true c8
         clear c8
         by_cases c9 : (rd l0 cZ) < (rd l1 cZ)
         ·rw [if_pos c9] at H
          have lT : decide ((rd l0 cZ) < (rd l1 cZ)) = true := decide_eq_true c9
          clear c9
          obtain rfl := Option.some.inj H
          have p101 : 0 ≤ (cZ : Int) := of_decide_eq_true qa
          have q101 : cZ < (l0.length : Int) := of_decide_eq_true qa
          obtain ⟨ad101, e101, hx101_0⟩ := Kd.jA HR0.out cZ p101 q101
          cases e101
          replace p101 := eq_true p101
          replace q101 := eq_true q101
          have p102 : 0 ≤ (cZ : Int) := of_decide_eq_true qa
          have q102 : cZ < (l1.length : Int) := of_decide_eq_true qa
          obtain ⟨ad102, e102, hx102_0⟩ := Kd.jA HR1.out cZ p102 q102
          cases e102
          replace p102 := eq_true p102
          replace q102 := eq_true q102
          go_wp2
          repeat (go_quiet (fail); try go_wp2)
          go_ret
          exact ⟨by first | rfl | (simp; done) | (simp [*]; done), by repeat (first | exact eT.refl _ | apply eT.step)⟩
         ·rw [if_neg c9] at H
          have lT : decide ((rd l0 cZ) < (rd l1 cZ)) = false := decide_eq_false c9
          clear c9
          by_cases c10 : (rd l0 cZ) > (rd l1 cZ)
          ·rw [if_pos c10] at H
           have yV : decide ((rd l1 cZ) < (rd l0 cZ)) = true := decide_eq_true c10
           clear c10
           obtain rfl := Option.some.inj H
           have p101 : 0 ≤ (cZ : Int) := of_decide_eq_true qa
           have q101 : cZ < (l0.length : Int) := of_decide_eq_true qa
           obtain ⟨ad101, e101, hx101_0⟩ := Kd.jA HR0.out cZ p101 q101
           cases e101
           replace p101 := eq_true p101
           replace q101 := eq_true q101
           have p102 : 0 ≤ (cZ : Int) := of_decide_eq_true qa
           have q102 : cZ < (l1.length : Int) := of_decide_eq_true qa
           obtain ⟨ad102, e102, hx102_0⟩ := Kd.jA HR1.out cZ p102 q102
           cases e102
           replace p102 := eq_true p102
           replace q102 := eq_true q102
           have p103 : 0 ≤ (cZ : Int) := of_decide_eq_true qa
           have q103 : cZ < (l0.length : Int) := of_decide_eq_true qa
           obtain ⟨ad103, e103, hx103_0⟩ := Kd.jA HR0.out cZ p103 q103
           obtain rfl : ad101 = ad103 := (by injection e103)
           replace p103 := eq_true p103
           replace q103 := eq_true q103
           have p104 : 0 ≤ (cZ : Int) := of_decide_eq_true qa
           have q104 : cZ < (l1.length : Int) := of_decide_eq_true qa
           obtain ⟨ad104, e104, hx104_0⟩ := Kd.jA HR1.out cZ p104 q104
           obtain rfl : ad102 = ad104 := (by injection e104)
           replace p104 := eq_true p104
           replace q104 := eq_true q104
           go_wp2
           repeat (go_quiet (fail); try go_wp2)
           go_ret
           exact ⟨by first | rfl | (simp; done) | (simp [*]; done), by repeat (first | exact eT.refl _ | apply eT.step)⟩
          ·rw [if_neg c10] at H
           have yV : decide ((rd l1 cZ) < (rd l0 cZ)) = false := decide_eq_false c10
           clear c10
           have H' := ae.mk H
           clear H
           have p101 : 0 ≤ (cZ : Int) := of_decide_eq_true qa
           have q101 : cZ < (l0.length : Int) := of_decide_eq_true qa
           obtain ⟨ad101, e101, hx101_0⟩ := Kd.jA HR0.out cZ p101 q101
           cases e101
           replace p101 := eq_true p101
           replace q101 := eq_true q101
           have p102 : 0 ≤ (cZ : Int) := of_decide_eq_true qa
           have q102 : cZ < (l1.length : Int) := of_decide_eq_true qa
           obtain ⟨ad102, e102, hx102_0⟩ := Kd.jA HR1.out cZ p102 q102
           cases e102
           replace p102 := eq_true p102
           replace q102 := eq_true q102
           have p103 : 0 ≤ (cZ : Int) := of_decide_eq_true qa
           have q103 : cZ < (l0.length : Int) := of_decide_eq_true qa
           obtain ⟨ad103, e103, hx103_0⟩ := Kd.jA HR0.out cZ p103 q103
           obtain rfl : ad101 = ad103 := (by injection e103)
           replace p103 := eq_true p103
           replace q103 := eq_true q103
           have p104 : 0 ≤ (cZ : Int) := of_decide_eq_true qa
           have q104 : cZ < (l1.length : Int) := of_decide_eq_true qa
           obtain ⟨ad104, e104, hx104_0⟩ := Kd.jA HR1.out cZ p104 q104
           obtain rfl : ad102 = ad104 := (by injection e104)
           replace p104 := eq_true p104
           replace q104 := eq_true q104
           go_wp2
           repeat (go_quiet (fail); try go_wp2)
           go_roundg k1
           case measure => have := HK1.out; omega
           case rel => exact ⟨(wrap64 (cZ - 1)), (by first | rfl | (simp; done) | (simp [*]; done)), H', ⟨by have := HK1.out; omega⟩, by repeat (first | exact eT.refl _ | apply eT.step)⟩
        ·rw [if_neg c8] at H
         exact absurd H (by simp)
       ·rw [if_neg c7] at H
        exact absurd H (by simp)
      ·rw [if_neg c6] at H
       exact absurd H (by simp)
     ·rw [if_neg c5] at H
      have jG : decide (0 ≤ cZ) = false := decide_eq_false c5
      clear c5
      obtain rfl := Option.some.inj H
      go_wp2
      repeat (go_quiet (fail); try go_wp2)
      go_ret
      exact ⟨by first | rfl | (simp; done) | (simp [*]; done), by repeat (first | exact eT.refl _ | apply eT.step)⟩
end Go.Proofs.YteidaijpaijgpaaGreatDoor.P
end
section
namespace Go.Proofs.YteidaijpaijgpaaGreatDoor.P
open Go.RowKit Go.Proofs.YteidaijpaijgpaaGreatDoorW.ay Go.Proofs.YteidaijpaijgpaaGreatDoorW.aQ Go.Proofs.YteidaijpaijgpaaGreatDoorW.aZ
attribute [local go_sem] bz bA bP bQ bq bu bB bC
set_option linter.unusedVariables false
set_option linter.unusedSimpArgs false
def jV.f (k : Nat) (a0 : Int) : Option (List Int) := (fo.f k (([Int.tmod a0 4294967296, a0 / 4294967296] : List Int))).bind fun bH => (some bH)
theorem jV.mono : ∀ a0 k, LeO (jV.f k a0) (jV.f (k + 1) a0) := by
 intro a0 k
 unfold jV.f
 repeat' first
   | (with_reducible exact fo.mono _ _)
   | (with_reducible exact LeO.refl _)
   | (with_reducible exact LeO.none _)
   | (with_reducible refine LeO.ite ?_ ?_)
   | (with_reducible refine LeO.bind ?_ (fun _ => ?_))
   | exact fo.mono _ _
   | exact LeO.none _
   | refine LeO.ite ?_ ?_
   | refine LeO.bind ?_ (fun _ => ?_)
set_option maxHeartbeats 8000000 in
set_option maxRecDepth 100000 in
theorem jV.calls (k : Nat) (a0 : Int) (r : List Int) (w : World) (h : jV.f k a0 = some r) :
  Calls Tryz.prog 109 #[.int .u64 a0] w fun e w' => ∃ v0_ : Value, e = .returned (v0_) ∧ Kd.R (Kd.int .u64) 96 w' w.heap.size (fun _ => True) v0_ r ∧ Below w.heap.size w w' := by
 have HB := ae.mk (Below.refl w.heap.size w)
 have H : ((fo.f k (([Int.tmod a0 4294967296, a0 / 4294967296] : List Int))).bind fun bH => (some bH)) = some r := h
 clear h
 obtain ⟨y101, hy101⟩ : ∃ y_ : List Int, y_ = (([Int.tmod a0 4294967296, a0 / 4294967296] : List Int)) := ⟨_, rfl⟩
 replace H : ((fo.f k y101).bind fun bH => (some bH)) = some r := by first | (rw [hy101]; with_reducible exact H) | (have H2_ := (Option.bind_some _ _).symm.trans H; rw [hy101]; with_reducible exact H2_) | (have H2_ := (Option.bind_some _ _).symm.trans H; with_reducible exact H2_) | with_reducible exact H | (rw [hy101]; exact H) | exact H
 have Ny101 := ae.mk hy101
 clear hy101
 replace H := Option.bind_eq_some_iff.mp H
 obtain ⟨bH, A20, H⟩ := H
 replace H : (some bH) = some r := H
 have A2 := ae.mk A20
 clear A20
 obtain rfl := Option.some.inj H
 go_enter Tryz.func109, Tryz.ntmps109
 go_wp2_with (first | ((with_reducible refine bg (N := 7) rfl ?_); refine Kd.jm (Kd.int .u64) _ 96 ?hg (N := 7) ?hd (xs := ([Int.tmod a0 4294967296, a0 / 4294967296] : List Int)) (inner := [.int .u64 (Int.tmod a0 4294967296), .int .u64 (a0 / 4294967296)]) (ok := fun _ => True) (okp := fun _ => True) ?hr ?hp (fun _ hk => hk) trivial (Below.refl _ _) (Nat.le_refl _) (by simp) ?_; (case hd => rfl); (case hg => rfl); (case hr => first | (go_simp; done) | (go_simp; rfl)); (case hp => exact (cu.one (show Kd.M (Kd.int .u64) _ _ _ (Int.tmod a0 4294967296) [.int .u64 (Int.tmod a0 4294967296)] from rfl) (cu.one (show Kd.M (Kd.int .u64) _ _ _ (a0 / 4294967296) [.int .u64 (a0 / 4294967296)] from rfl) (cu.none _ _)))); intro v102 w3 ho4 hb hg_ hnew_; clear hg_ hnew_; (first | rw [← Ny101.out] at ho4 | (simp only [Int.reduceToNat] at ho4; rw [← Ny101.out] at ho4)); have eX := ae.mk (Kd.dI ho4 (bi (qw HB))); replace HB := ae.mk (aj (qw HB) hb); clear hb ho4; obtain ⟨Ao5, co5, eo5⟩ := Kd.dM eX.out; subst eo5) | ((with_reducible refine aH (f := 117) rfl ?_); refine bN (some 8) rfl rfl Tryz.func117 (by kernel_rfl) rfl #[.slice Ao5 y101.length co5] rfl qt ?_; (with_reducible refine (fo.calls k (fun k_ => some k_ = (.slice Ao5 y101.length co5 : Value).ownBlock) (.slice Ao5 y101.length co5) y101 bH w _ ?aX ?aY A2.out).mono ?_); (case aX => repeat (first | (with_reducible first | exact HB.out | apply au | apply ai | apply ak) | exact HB.out)); (case aY => exact Kd.qI rfl eX.out); rintro e w6 ⟨v105, rfl, ho0, hb, hkp⟩; refine ⟨_, rfl, ?_⟩; have wL := ae.mk (Kd.gu (ok' := fun k_ => True) ho0 (fun k_ hk_ => trivial)); replace HB := ae.mk (hb); clear eX; (try clear hb); (try clear hkp); (try clear ho0)))
 go_ret
 exact ⟨_, by first | rfl | (simp [errW_none, errW_some] <;> rfl) | (simp [*, errW_none, errW_some] <;> rfl), by (with_reducible repeat (first | apply Kd.di | apply Kd.dm | apply Kd.dR)); exact wL.out, by repeat (first | (with_reducible first | exact HB.out | apply au | apply ai | apply ak) | exact HB.out)⟩
end Go.Proofs.YteidaijpaijgpaaGreatDoor.P
end
section
namespace Go.Proofs.YteidaijpaijgpaaGreatDoor.P
open Go.RowKit Go.Proofs.YteidaijpaijgpaaGreatDoorW.ay Go.Proofs.YteidaijpaijgpaaGreatDoorW.aQ Go.Proofs.YteidaijpaijgpaaGreatDoorW.aZ
attribute [local go_sem] bz bA bP bQ bq bu bB bC
set_option linter.unusedVariables false
set_option linter.unusedSimpArgs false
def gQ.f (k : Nat) (aD : Bool) (cK : List Int) : Option (ByteArray) := if aD = true then ((dx.f k cK).bind fun aJ => (if 1 + aJ.size ≤ 9223372036854775807 then (some ((⟨#[45]⟩ : ByteArray) ++ aJ)) else (none))) else ((dx.f k cK).bind fun bJ => (some bJ))
theorem gQ.mono : ∀ a0 a1 k, LeO (gQ.f k a0 a1) (gQ.f (k + 1) a0 a1) := by
 intro a0 a1 k
 unfold gQ.f
 repeat' first
   | (with_reducible exact dx.mono _ _)
   | (with_reducible exact LeO.refl _)
   | (with_reducible exact LeO.none _)
   | (with_reducible refine LeO.ite ?_ ?_)
   | (with_reducible refine LeO.bind ?_ (fun _ => ?_))
   | exact dx.mono _ _
   | exact LeO.none _
   | refine LeO.ite ?_ ?_
   | refine LeO.bind ?_ (fun _ => ?_)
set_option maxHeartbeats 8000000 in
set_option maxRecDepth 100000 in
theorem gQ.calls (k : Nat) (aD : Bool) (gq : Option Addr) (c0_1 : Nat) (cK : List Int) (r : ByteArray) (w : World) (hr0_1 : Kd.C (Kd.int .u64) w gq cK.length cK) (hc0_1 : cK.length ≤ c0_1) (h : gQ.f k aD cK = some r) :
  Calls Tryz.prog 107 #[.agg #[.bool aD, .slice gq cK.length c0_1]] w fun e w' => e = .returned (.string r) ∧ Below w.heap.size w w' := by
 have hu70 := Tryz.underlying70
 have kH := ae.mk hr0_1
 have kI := ae.mk hc0_1
 clear hr0_1 hc0_1
 have HB := ae.mk (Below.refl w.heap.size w)
 have H : (if aD = true then ((dx.f k cK).bind fun aJ => (if 1 + aJ.size ≤ 9223372036854775807 then (some ((⟨#[45]⟩ : ByteArray) ++ aJ)) else (none))) else ((dx.f k cK).bind fun bJ => (some bJ))) = some r := h
 clear h
 by_cases c2 : aD = true
 ·subst c2
  have H1 : ((dx.f k cK).bind fun aJ => (if 1 + aJ.size ≤ 9223372036854775807 then (some ((⟨#[45]⟩ : ByteArray) ++ aJ)) else (none))) = some r := by rw [if_pos rfl] at H; exact H
  clear H
  have H := H1
  clear H1
  replace H := Option.bind_eq_some_iff.mp H
  obtain ⟨aJ, A30, H⟩ := H
  replace H : (if 1 + aJ.size ≤ 9223372036854775807 then (some ((⟨#[45]⟩ : ByteArray) ++ aJ)) else (none)) = some r := H
  have A3 := ae.mk A30
  clear A30
  by_cases c4 : 1 + aJ.size ≤ 9223372036854775807
  ·rw [if_pos c4] at H
   have iQ := eq_true c4
   have jv : decide (1 + aJ.size ≤ 9223372036854775807) = true := decide_eq_true c4
   try have Ag : (9223372036854775807 < 1 + aJ.size) = False := eq_false (Nat.not_lt.2 c4)
   obtain rfl := Option.some.inj H
   go_enter Tryz.func107, Tryz.ntmps107
   go_wp2_with (first | ((with_reducible refine bg (N := 1) rfl ?_); refine bE ?hg (N := 1) ?hd (cs := #[.bool true, .slice gq cK.length c0_1]) (t := 70) ?hr ?_; (case hd => rfl); (case hg => rfl); (case hr => first | (go_simp; done) | (go_simp; rfl)); intro av hg w5 hbox hb; have ag := ae.mk (hbox); have GW101 := qge HB hg; have dh := qge HB hg; replace HB := ae.mk (aj (qw HB) hb); clear hb hbox hg; have hcz6_0 : w5.cell? ⟨av, 0, none⟩ = some (.bool true) := (af ag.out 0).trans rfl; have hcz6_1 : w5.cell? ⟨av, 1, none⟩ = some (.slice gq cK.length c0_1) := (af ag.out 1).trans rfl; have hfz6_0 := ah ag.out 0; have hfz6_1 := ah ag.out 1) | ((with_reducible refine aH (f := 110) rfl ?_); refine bN (some 7) rfl rfl Tryz.func110 (by kernel_rfl) rfl #[.slice gq cK.length c0_1] rfl qt ?_; (with_reducible refine (dx.calls k _ _ cK aJ _ ?aX ?aY A3.out).mono ?_); (case aX => exact qs ((Kd.dC kH.out HB.out))); (case aY => exact kI.out); rintro e w7 ⟨rfl, hb⟩; refine ⟨_, rfl, ?_⟩; replace ag := qbb ag hb; replace HB := ae.mk (aj (qw HB) hb); (try clear hb); (try clear hb2); (try clear hk); (try clear hi)))
   go_ret
   exact ⟨by first | rfl | (simp [errW_none, errW_some] <;> rfl) | (simp [*, errW_none, errW_some] <;> rfl), by repeat (first | (with_reducible first | exact HB.out | apply au | apply ai | apply ak | refine bn ?_ dh.out) | exact HB.out)⟩
  ·rw [if_neg c4] at H
   exact absurd H (by simp)
 ·replace c2 := Bool.eq_false_iff.mpr c2
  subst c2
  have H1 : ((dx.f k cK).bind fun bJ => (some bJ)) = some r := by rw [if_neg (show ¬ (false = true) by decide)] at H; exact H
  clear H
  have H := H1
  clear H1
  replace H := Option.bind_eq_some_iff.mp H
  obtain ⟨bJ, A80, H⟩ := H
  replace H : (some bJ) = some r := H
  have A8 := ae.mk A80
  clear A80
  obtain rfl := Option.some.inj H
  go_enter Tryz.func107, Tryz.ntmps107
  go_wp2_with (first | ((with_reducible refine bg (N := 1) rfl ?_); refine bE ?hg (N := 1) ?hd (cs := #[.bool false, .slice gq cK.length c0_1]) (t := 70) ?hr ?_; (case hd => rfl); (case hg => rfl); (case hr => first | (go_simp; done) | (go_simp; rfl)); intro av hg w9 hbox hb; have ag := ae.mk (hbox); have GW101 := qge HB hg; have dh := qge HB hg; replace HB := ae.mk (aj (qw HB) hb); clear hb hbox hg; have hcz10_0 : w9.cell? ⟨av, 0, none⟩ = some (.bool false) := (af ag.out 0).trans rfl; have hcz10_1 : w9.cell? ⟨av, 1, none⟩ = some (.slice gq cK.length c0_1) := (af ag.out 1).trans rfl; have hfz10_0 := ah ag.out 0; have hfz10_1 := ah ag.out 1) | ((with_reducible refine aH (f := 110) rfl ?_); refine bN (some 11) rfl rfl Tryz.func110 (by kernel_rfl) rfl #[.slice gq cK.length c0_1] rfl qt ?_; (with_reducible refine (dx.calls k _ _ cK bJ _ ?aX ?aY A8.out).mono ?_); (case aX => exact qs ((Kd.dC kH.out HB.out))); (case aY => exact kI.out); rintro e w11 ⟨rfl, hb⟩; refine ⟨_, rfl, ?_⟩; replace ag := qbb ag hb; replace HB := ae.mk (aj (qw HB) hb); (try clear hb); (try clear hb2); (try clear hk); (try clear hi)))
  go_ret
  exact ⟨by first | rfl | (simp [errW_none, errW_some] <;> rfl) | (simp [*, errW_none, errW_some] <;> rfl), by repeat (first | (with_reducible first | exact HB.out | apply au | apply ai | apply ak | refine bn ?_ dh.out) | exact HB.out)⟩
end Go.Proofs.YteidaijpaijgpaaGreatDoor.P
end
section
namespace Go.Proofs.YteidaijpaijgpaaGreatDoor.P
open Go.RowKit Go.Proofs.YteidaijpaijgpaaGreatDoorW.ay Go.Proofs.YteidaijpaijgpaaGreatDoorW.aQ Go.Proofs.YteidaijpaijgpaaGreatDoorW.aZ
attribute [local go_sem] bz bA bP bQ bq bu bB bC
set_option linter.unusedVariables false
set_option linter.unusedSimpArgs false
def ik.f (k : Nat) (aD : Bool) (cK : List Int) (eU : List Int) : Option (ByteArray) := (gQ.f k aD cK).bind fun aJ => ((jV.f k 1).bind fun bJ => ((fT.f k eU bJ).bind fun bG => (if bG = 0 then (some aJ) else (if aJ.size + 1 ≤ 9223372036854775807 then ((dx.f k eU).bind fun t107 => (if (aJ ++ (⟨#[47]⟩ : ByteArray)).size + t107.size ≤ 9223372036854775807 then (some ((aJ ++ (⟨#[47]⟩ : ByteArray)) ++ t107)) else (none))) else (none)))))
theorem ik.mono : ∀ a0 a1 a2 k, LeO (ik.f k a0 a1 a2) (ik.f (k + 1) a0 a1 a2) := by
 intro a0 a1 a2 k
 unfold ik.f
 repeat' first
   | (with_reducible exact dx.mono _ _)
   | (with_reducible exact fT.mono _ _ _)
   | (with_reducible exact jV.mono _ _)
   | (with_reducible exact gQ.mono _ _ _)
   | (with_reducible exact LeO.refl _)
   | (with_reducible exact LeO.none _)
   | (with_reducible refine LeO.ite ?_ ?_)
   | (with_reducible refine LeO.bind ?_ (fun _ => ?_))
   | exact dx.mono _ _
   | exact fT.mono _ _ _
   | exact jV.mono _ _
   | exact gQ.mono _ _ _
   | exact LeO.none _
   | refine LeO.ite ?_ ?_
   | refine LeO.bind ?_ (fun _ => ?_)
set_option maxHeartbeats 8000000 in
set_option maxRecDepth 100000 in
theorem ik.calls (k : Nat) (aD : Bool) (gq : Option Addr) (c0_1 : Nat) (cK : List Int) (iT : Option Addr) (c0_2 : Nat) (eU : List Int) (r : ByteArray) (w : World) (hr0_1 : Kd.C (Kd.int .u64) w gq cK.length cK) (hc0_1 : cK.length ≤ c0_1) (hr0_2 : Kd.C (Kd.int .u64) w iT eU.length eU) (hc0_2 : eU.length ≤ c0_2) (h : ik.f k aD cK eU = some r) :
  Calls Tryz.prog 86 #[.agg #[.bool aD, .slice gq cK.length c0_1, .slice iT eU.length c0_2]] w fun e w' => e = .returned (.string r) ∧ Below w.heap.size w w' := by
 have hu72 := Tryz.underlying72
 have hu70 := Tryz.underlying70
 have kH := ae.mk hr0_1
 have kI := ae.mk hc0_1
 clear hr0_1 hc0_1
 have mP := ae.mk hr0_2
 have mQ := ae.mk hc0_2
 clear hr0_2 hc0_2
 have HB := ae.mk (Below.refl w.heap.size w)
 have H : ((gQ.f k aD cK).bind fun aJ => ((jV.f k 1).bind fun bJ => ((fT.f k eU bJ).bind fun bG => (if bG = 0 then (some aJ) else (if aJ.size + 1 ≤ 9223372036854775807 then ((dx.f k eU).bind fun t107 => (if (aJ ++ (⟨#[47]⟩ : ByteArray)).size + t107.size ≤ 9223372036854775807 then (some ((aJ ++ (⟨#[47]⟩ : ByteArray)) ++ t107)) else (none))) else (none)))))) = some r := h
 clear h
 replace H := Option.bind_eq_some_iff.mp H
 obtain ⟨aJ, A20, H⟩ := H
 replace H : ((jV.f k 1).bind fun bJ => ((fT.f k eU bJ).bind fun bG => (if bG = 0 then (some aJ) else (if aJ.size + 1 ≤ 9223372036854775807 then ((dx.f k eU).bind fun t107 => (if (aJ ++ (⟨#[47]⟩ : ByteArray)).size + t107.size ≤ 9223372036854775807 then (some ((aJ ++ (⟨#[47]⟩ : ByteArray)) ++ t107)) else (none))) else (none))))) = some r := H
 have A2 := ae.mk A20
 clear A20
 replace H := Option.bind_eq_some_iff.mp H
 obtain ⟨bJ, A30, H⟩ := H
 replace H : ((fT.f k eU bJ).bind fun bG => (if bG = 0 then (some aJ) else (if aJ.size + 1 ≤ 9223372036854775807 then ((dx.f k eU).bind fun t107 => (if (aJ ++ (⟨#[47]⟩ : ByteArray)).size + t107.size ≤ 9223372036854775807 then (some ((aJ ++ (⟨#[47]⟩ : ByteArray)) ++ t107)) else (none))) else (none)))) = some r := H
 have A3 := ae.mk A30
 clear A30
 replace H := Option.bind_eq_some_iff.mp H
 obtain ⟨bG, A40, H⟩ := H
 replace H : (if bG = 0 then (some aJ) else (if aJ.size + 1 ≤ 9223372036854775807 then ((dx.f k eU).bind fun t107 => (if (aJ ++ (⟨#[47]⟩ : ByteArray)).size + t107.size ≤ 9223372036854775807 then (some ((aJ ++ (⟨#[47]⟩ : ByteArray)) ++ t107)) else (none))) else (none))) = some r := H
 have A4 := ae.mk A40
 clear A40
 by_cases c5 : bG = 0
 ·rw [if_pos c5] at H
  have jG : (bG == 0) = true := beq_iff_eq.mpr c5
  have lS : (bG != 0) = false := bne_eq_false_iff_eq.mpr c5
  clear c5
  obtain rfl := Option.some.inj H
  go_enter Tryz.func86, Tryz.ntmps86
  try go_wp2_with (first | ((with_reducible refine bg (N := 1) rfl ?_); refine bE ?hg (N := 1) ?hd (cs := #[.bool aD, .slice gq cK.length c0_1, .slice iT eU.length c0_2]) (t := 72) ?hr ?_; (case hd => rfl); (case hg => rfl); (case hr => first | (go_simp; done) | (go_simp; rfl)); intro av hg w6 hbox hb; have ag := ae.mk (hbox); have GW101 := qge HB hg; have dh := qge HB hg; replace HB := ae.mk (aj (qw HB) hb); clear hb hbox hg; have hcz7_0 : w6.cell? ⟨av, 0, none⟩ = some (.bool aD) := (af ag.out 0).trans rfl; have hcz7_1 : w6.cell? ⟨av, 1, none⟩ = some (.slice gq cK.length c0_1) := (af ag.out 1).trans rfl; have hcz7_2 : w6.cell? ⟨av, 2, none⟩ = some (.slice iT eU.length c0_2) := (af ag.out 2).trans rfl; have hfz7_0 := ah ag.out 0; have hfz7_1 := ah ag.out 1; have hfz7_2 := ah ag.out 2) | ((with_reducible refine aH (f := 107) rfl ?_); refine bN (some 6) rfl rfl Tryz.func107 (by kernel_rfl) rfl #[.agg #[.bool aD, .slice gq cK.length c0_1]] rfl qt ?_; (with_reducible refine (gQ.calls k aD _ _ cK aJ _ ?aX ?aY A2.out).mono ?_); (case aX => exact qs ((Kd.dC kH.out HB.out))); (case aY => exact kI.out); rintro e w8 ⟨rfl, hb⟩; refine ⟨_, rfl, ?_⟩; replace ag := qbb ag hb; replace HB := ae.mk (aj (qw HB) hb); (try clear hb); (try clear hb2); (try clear hk); (try clear hi)))
  replace ag := ae.mk (dQ ag.out)
  replace HB := ae.mk (ak HB.out)
  refine iP (n := 5) (S := fun w' => w'.cell? ⟨av, 0, none⟩ = some (.bool aD) ∧ w'.cell? ⟨av, 1, none⟩ = some (.slice gq cK.length c0_1) ∧ w'.cell? ⟨av, 2, none⟩ = some (.slice iT eU.length c0_2)) (ds := []) #[bF,bF,bF,bF,bF] (by kernel_rfl) rfl rfl ⟨(af ag.out 0).trans rfl, (af ag.out 1).trans rfl, (af ag.out 2).trans rfl⟩ (fun hHeld => ?_)
  generalize w8.drew = w9 at ag HB hHeld ⊢
  refine qm (i := 0) (N := some 7) (v := ?_) (a' := ?_) #[bT,bF,bF,bF,bF] rfl rfl (by kernel_rfl) (fun _ _ _ h => h) (Or.inl ⟨by rfl, ?_⟩) ?_ ?_
  rotate_left
  ·intro w'
   go_simp
   with_reducible rfl
  rotate_left
  ·exact uR
  refine rE (i := 1) (N := some 8) (v := ?_) (a' := ?_) #[bT,bT,bF,bF,bF] rfl rfl (by kernel_rfl) (fun _ _ _ h => h) (Or.inl ⟨by rfl, ?_⟩) hHeld ?_ ?_
  rotate_left
  ·rintro w' ⟨s0, s1, s2⟩
   go_simp
   with_reducible rfl
  rotate_left
  ·exact uR
  refine vR (i := 2) (N := some 9) #[bT,bT,bT,bF,bF] rfl rfl (by kernel_rfl) (by decide) (fun K hK => ?_)
  refine gX Tryz.func109 #[.int .u64 1] ?_
  with_reducible refine (jV.calls k 1 bJ _ A3.out).mono ?_
  rintro e w10 ⟨v104, rfl, ho0, hb⟩
  refine ⟨_, rfl, ?_⟩
  have fQ := ae.mk (Kd.dI ho0 (bi (qw HB)))
  replace ag := qbb ag hb
  replace HB := ae.mk (aj (qw HB) hb)
  (try clear hb)
  (try clear hb2)
  (try clear hk)
  (try clear hi)
  (try clear ho0)
  obtain ⟨yw, yx, vz⟩ := Kd.dM fQ.out
  (first | subst vz | (injection vz with f1_ f2_ f3_; have f4_ := f1_.symm; have f5_ := f3_.symm; clear f1_ f2_ f3_; subst f4_; subst f5_))
  refine hK.out _ _ ⟨(af ag.out 0).trans rfl, (af ag.out 1).trans rfl, (af ag.out 2).trans rfl⟩ (fun hHeld => ?_)
  clear hK K
  refine gD (some 9) ?_
  refine vR (i := 3) (N := some 10) #[bT,bT,bT,bT,bF] rfl rfl (by kernel_rfl) (by decide) (fun K hK => ?_)
  refine gX Tryz.func108 #[.slice iT eU.length c0_2, .slice yw bJ.length yx] ?_
  with_reducible refine (fT.calls k _ _ eU _ _ bJ bG _ ?aX ?aY ?jK ?jL A4.out).mono ?_
  (case aX => exact qs ((Kd.dC mP.out HB.out)))
  (case aY => exact mQ.out)
  (case jK => exact qs ((Kd.aV fQ.out).2.2))
  (case jL => exact (Kd.aV fQ.out).2.1)
  rintro e w' ⟨rfl, ⟨nd, rfl⟩⟩
  refine ⟨_, rfl, ?_⟩
  refine hK.out _ _ ⟨(af ag.out 0).trans rfl, (af ag.out 1).trans rfl, (af ag.out 2).trans rfl⟩ (fun hHeld => ?_)
  clear hK K
  refine gD (some 10) ?_
  refine qm (i := 4) (N := some 11) (v := ?_) (a' := ?_) #[bT,bT,bT,bT,bT] rfl rfl (by kernel_rfl) (fun _ _ _ h => h) (Or.inl ⟨by rfl, ?_⟩) ?_ ?_
  rotate_left
  ·intro w'
   go_simp
   with_reducible rfl
  rotate_left
  ·exact uR
  refine vS (by kernel_rfl) ?_
  try go_wp2
  go_ret
  exact ⟨by first | rfl | (simp [errW_none, errW_some] <;> rfl) | (simp [*, errW_none, errW_some] <;> rfl), by repeat (first | (with_reducible first | exact HB.out | apply au | apply ai | apply ak | refine bn ?_ dh.out) | exact HB.out)⟩
 ·rw [if_neg c5] at H
  have jG : (bG == 0) = false := beq_eq_false_iff_ne.mpr c5
  have lS : (bG != 0) = true := bne_iff_ne.mpr c5
  by_cases c12 : aJ.size + 1 ≤ 9223372036854775807
  ·rw [if_pos c12] at H
   have uC := eq_true c12
   have AR : decide (aJ.size + 1 ≤ 9223372036854775807) = true := decide_eq_true c12
   try have Ep : (9223372036854775807 < aJ.size + 1) = False := eq_false (Nat.not_lt.2 c12)
   replace H := Option.bind_eq_some_iff.mp H
   obtain ⟨t107, A130, H⟩ := H
   replace H : (if (aJ ++ (⟨#[47]⟩ : ByteArray)).size + t107.size ≤ 9223372036854775807 then (some ((aJ ++ (⟨#[47]⟩ : ByteArray)) ++ t107)) else (none)) = some r := H
   have A13 := ae.mk A130
   clear A130
   by_cases c14 : (aJ ++ (⟨#[47]⟩ : ByteArray)).size + t107.size ≤ 9223372036854775807
   ·rw [if_pos c14] at H
    have qA := eq_true c14
    have rZ : decide ((aJ ++ (⟨#[47]⟩ : ByteArray)).size + t107.size ≤ 9223372036854775807) = true := decide_eq_true c14
    try have Er : (9223372036854775807 < (aJ ++ (⟨#[47]⟩ : ByteArray)).size + t107.size) = False := eq_false (Nat.not_lt.2 c14)
    (try (have Es : (9223372036854775807 < aJ.size + 1 + t107.size) = False := eq_false (Nat.not_lt.2 (by have h_ := rZ; simp only [ByteArray.size_append, decide_eq_true_eq] at h_; first | exact h_ | (simp at h_; omega)))))
    obtain rfl := Option.some.inj H
    go_enter Tryz.func86, Tryz.ntmps86
    try go_wp2_with (first | ((with_reducible refine bg (N := 1) rfl ?_); refine bE ?hg (N := 1) ?hd (cs := #[.bool aD, .slice gq cK.length c0_1, .slice iT eU.length c0_2]) (t := 72) ?hr ?_; (case hd => rfl); (case hg => rfl); (case hr => first | (go_simp; done) | (go_simp; rfl)); intro av hg w15 hbox hb; have ag := ae.mk (hbox); have GW101 := qge HB hg; have dh := qge HB hg; replace HB := ae.mk (aj (qw HB) hb); clear hb hbox hg; have hcz16_0 : w15.cell? ⟨av, 0, none⟩ = some (.bool aD) := (af ag.out 0).trans rfl; have hcz16_1 : w15.cell? ⟨av, 1, none⟩ = some (.slice gq cK.length c0_1) := (af ag.out 1).trans rfl; have hcz16_2 : w15.cell? ⟨av, 2, none⟩ = some (.slice iT eU.length c0_2) := (af ag.out 2).trans rfl; have hfz16_0 := ah ag.out 0; have hfz16_1 := ah ag.out 1; have hfz16_2 := ah ag.out 2) | ((with_reducible refine aH (f := 107) rfl ?_); refine bN (some 6) rfl rfl Tryz.func107 (by kernel_rfl) rfl #[.agg #[.bool aD, .slice gq cK.length c0_1]] rfl qt ?_; (with_reducible refine (gQ.calls k aD _ _ cK aJ _ ?aX ?aY A2.out).mono ?_); (case aX => exact qs ((Kd.dC kH.out HB.out))); (case aY => exact kI.out); rintro e w17 ⟨rfl, hb⟩; refine ⟨_, rfl, ?_⟩; replace ag := qbb ag hb; replace HB := ae.mk (aj (qw HB) hb); (try clear hb); (try clear hb2); (try clear hk); (try clear hi)))
    replace ag := ae.mk (dQ ag.out)
    replace HB := ae.mk (ak HB.out)
    refine iP (n := 5) (S := fun w' => w'.cell? ⟨av, 0, none⟩ = some (.bool aD) ∧ w'.cell? ⟨av, 1, none⟩ = some (.slice gq cK.length c0_1) ∧ w'.cell? ⟨av, 2, none⟩ = some (.slice iT eU.length c0_2)) (ds := []) #[bF,bF,bF,bF,bF] (by kernel_rfl) rfl rfl ⟨(af ag.out 0).trans rfl, (af ag.out 1).trans rfl, (af ag.out 2).trans rfl⟩ (fun hHeld => ?_)
    generalize w17.drew = w18 at ag HB hHeld ⊢
    refine qm (i := 0) (N := some 7) (v := ?_) (a' := ?_) #[bT,bF,bF,bF,bF] rfl rfl (by kernel_rfl) (fun _ _ _ h => h) (Or.inl ⟨by rfl, ?_⟩) ?_ ?_
    rotate_left
    ·intro w'
     go_simp
     with_reducible rfl
    rotate_left
    ·exact uR
    refine rE (i := 1) (N := some 8) (v := ?_) (a' := ?_) #[bT,bT,bF,bF,bF] rfl rfl (by kernel_rfl) (fun _ _ _ h => h) (Or.inl ⟨by rfl, ?_⟩) hHeld ?_ ?_
    rotate_left
    ·rintro w' ⟨s0, s1, s2⟩
     go_simp
     with_reducible rfl
    rotate_left
    ·exact uR
    refine vR (i := 2) (N := some 9) #[bT,bT,bT,bF,bF] rfl rfl (by kernel_rfl) (by decide) (fun K hK => ?_)
    refine gX Tryz.func109 #[.int .u64 1] ?_
    with_reducible refine (jV.calls k 1 bJ _ A3.out).mono ?_
    rintro e w19 ⟨v104, rfl, ho0, hb⟩
    refine ⟨_, rfl, ?_⟩
    have fQ := ae.mk (Kd.dI ho0 (bi (qw HB)))
    replace ag := qbb ag hb
    replace HB := ae.mk (aj (qw HB) hb)
    (try clear hb)
    (try clear hb2)
    (try clear hk)
    (try clear hi)
    (try clear ho0)
    obtain ⟨zz, zA, yz⟩ := Kd.dM fQ.out
    (first | subst yz | (injection yz with f1_ f2_ f3_; have f4_ := f1_.symm; have f5_ := f3_.symm; clear f1_ f2_ f3_; subst f4_; subst f5_))
    refine hK.out _ _ ⟨(af ag.out 0).trans rfl, (af ag.out 1).trans rfl, (af ag.out 2).trans rfl⟩ (fun hHeld => ?_)
    clear hK K
    refine gD (some 9) ?_
    refine vR (i := 3) (N := some 10) #[bT,bT,bT,bT,bF] rfl rfl (by kernel_rfl) (by decide) (fun K hK => ?_)
    refine gX Tryz.func108 #[.slice iT eU.length c0_2, .slice zz bJ.length zA] ?_
    with_reducible refine (fT.calls k _ _ eU _ _ bJ bG _ ?aX ?aY ?jK ?jL A4.out).mono ?_
    (case aX => exact qs ((Kd.dC mP.out HB.out)))
    (case aY => exact mQ.out)
    (case jK => exact qs ((Kd.aV fQ.out).2.2))
    (case jL => exact (Kd.aV fQ.out).2.1)
    rintro e w' ⟨rfl, ⟨nd, rfl⟩⟩
    refine ⟨_, rfl, ?_⟩
    refine hK.out _ _ ⟨(af ag.out 0).trans rfl, (af ag.out 1).trans rfl, (af ag.out 2).trans rfl⟩ (fun hHeld => ?_)
    clear hK K
    refine gD (some 10) ?_
    refine qm (i := 4) (N := some 11) (v := ?_) (a' := ?_) #[bT,bT,bT,bT,bT] rfl rfl (by kernel_rfl) (fun _ _ _ h => h) (Or.inl ⟨by rfl, ?_⟩) ?_ ?_
    rotate_left
    ·intro w'
     go_simp
     with_reducible rfl
    rotate_left
    ·exact uR
    refine vS (by kernel_rfl) ?_
    have hcz21_0 : w19.cell? ⟨av, 0, none⟩ = some (.bool aD) := (af ag.out 0).trans rfl
    have hcz21_1 : w19.cell? ⟨av, 1, none⟩ = some (.slice gq cK.length c0_1) := (af ag.out 1).trans rfl
    have hcz21_2 : w19.cell? ⟨av, 2, none⟩ = some (.slice iT eU.length c0_2) := (af ag.out 2).trans rfl
    have hfz21_0 := ah ag.out 0
    have hfz21_1 := ah ag.out 1
    have hfz21_2 := ah ag.out 2
    try go_wp2_with (first | ((with_reducible refine aH (f := 110) rfl ?_); refine bN (some 17) rfl rfl Tryz.func110 (by kernel_rfl) rfl #[.slice iT eU.length c0_2] rfl qt ?_; (with_reducible refine (dx.calls k _ _ eU t107 _ ?aX ?aY A13.out).mono ?_); (case aX => repeat (first | exact (Kd.dC mP.out (qw HB)) | (with_reducible refine Kd.oH ?_ _) | (with_reducible refine Kd.oI ?_ _) | (with_reducible refine Kd.qF ?_))); (case aY => exact mQ.out); rintro e w22 ⟨rfl, hb⟩; refine ⟨_, rfl, ?_⟩; replace fQ := ae.mk (Kd.bD (qr fQ) hb); replace ag := qbb ag hb; replace HB := ae.mk (aj (qw HB) hb); (try clear hb); (try clear hb2); (try clear hk); (try clear hi)))
    go_ret
    exact ⟨by first | rfl | (simp [errW_none, errW_some] <;> rfl) | (simp [*, errW_none, errW_some] <;> rfl), by repeat (first | (with_reducible first | exact HB.out | apply au | apply ai | apply ak | refine bn ?_ dh.out) | exact HB.out)⟩
   ·rw [if_neg c14] at H
    exact absurd H (by simp)
  ·rw [if_neg c12] at H
   exact absurd H (by simp)
end Go.Proofs.YteidaijpaijgpaaGreatDoor.P
end
section
namespace Go.Proofs.YteidaijpaijgpaaGreatDoor.P
open Go.RowKit Go.Proofs.YteidaijpaijgpaaGreatDoorW.ay Go.Proofs.YteidaijpaijgpaaGreatDoorW.aQ Go.Proofs.YteidaijpaijgpaaGreatDoorW.aZ
attribute [local go_sem] bz bA bP bQ bq bu bB bC
set_option linter.unusedVariables false
set_option linter.unusedSimpArgs false
def fE.f (k : Nat) (aD : ByteArray) (aA : ByteArray) (bU : ByteArray) (bf : Bool) (fG : List Int) (jN : List Int) : Option (ByteArray) := (ik.f k bf fG jN).bind fun aJ => ((aN.f (([(⟨#[108, 105, 110, 107]⟩ : ByteArray), aD, aA, bU, (⟨#[102, 97, 105, 108]⟩ : ByteArray), aJ] : List ByteArray))).bind fun bG => (if bG.size + 1 ≤ 9223372036854775807 then (some (bG ++ (⟨#[59]⟩ : ByteArray))) else (none)))
theorem fE.mono : ∀ a0 a1 a2 a3 a4 a5 k, LeO (fE.f k a0 a1 a2 a3 a4 a5) (fE.f (k + 1) a0 a1 a2 a3 a4 a5) := by
 intro a0 a1 a2 a3 a4 a5 k
 unfold fE.f
 repeat' first
   | (with_reducible exact ik.mono _ _ _ _)
   | (with_reducible exact LeO.refl _)
   | (with_reducible exact LeO.none _)
   | (with_reducible refine LeO.ite ?_ ?_)
   | (with_reducible refine LeO.bind ?_ (fun _ => ?_))
   | exact ik.mono _ _ _ _
   | exact LeO.none _
   | refine LeO.ite ?_ ?_
   | refine LeO.bind ?_ (fun _ => ?_)
def fE.T1 : Bool × List (List Nat × List Nat) := (true, [([], []), ([0], [0]), ([], []), ([2], [2]), ([], []), ([4], [4]), ([], []), ([6], [6]), ([7], [7]), ([1, 3, 5, 8], [1, 3, 5, 8]), ([9, 8], [9]), ([10], [10]), ([11, 10, 0, 1, 2, 3, 4, 5, 6, 7, 8, 9, 10, 11], [11])])
def fE.B1 : List Nat := [0, 1, 0, 4, 0, 16, 0, 64, 192, 511, 1023, 2047, 4095]
theorem fE.ou : iV .any (opsOf Tryz.f51 1) = fE.T1 := by kernel_rfl
theorem fE.lN : iA fE.T1.2 fE.B1 = true := by kernel_rfl
set_option maxHeartbeats 8000000 in
set_option maxRecDepth 100000 in
theorem fE.calls (k : Nat) (aD : ByteArray) (aA : ByteArray) (bU : ByteArray) (bf : Bool) (je : Option Addr) (c0_4 : Nat) (fG : List Int) (oz : Option Addr) (c0_5 : Nat) (jN : List Int) (r : ByteArray) (w : World) (hr0_4 : Kd.C (Kd.int .u64) w je fG.length fG) (hc0_4 : fG.length ≤ c0_4) (hr0_5 : Kd.C (Kd.int .u64) w oz jN.length jN) (hc0_5 : jN.length ≤ c0_5) (h : fE.f k aD aA bU bf fG jN = some r) :
  Calls Tryz.prog 51 #[.agg #[.string aD, .string aA, .string bU, .bool bf, .slice je fG.length c0_4, .slice oz jN.length c0_5]] w fun e w' => e = .returned (.string r) ∧ Below w.heap.size w w' := by
 have hu74 := Tryz.underlying74
 have hu72 := Tryz.underlying72
 have nI := ae.mk hr0_4
 have nJ := ae.mk hc0_4
 clear hr0_4 hc0_4
 have xq := ae.mk hr0_5
 have xu := ae.mk hc0_5
 clear hr0_5 hc0_5
 have HB := ae.mk (Below.refl w.heap.size w)
 have H : ((ik.f k bf fG jN).bind fun aJ => ((aN.f (([(⟨#[108, 105, 110, 107]⟩ : ByteArray), aD, aA, bU, (⟨#[102, 97, 105, 108]⟩ : ByteArray), aJ] : List ByteArray))).bind fun bG => (if bG.size + 1 ≤ 9223372036854775807 then (some (bG ++ (⟨#[59]⟩ : ByteArray))) else (none)))) = some r := h
 clear h
 replace H := Option.bind_eq_some_iff.mp H
 obtain ⟨aJ, A20, H⟩ := H
 replace H : ((aN.f (([(⟨#[108, 105, 110, 107]⟩ : ByteArray), aD, aA, bU, (⟨#[102, 97, 105, 108]⟩ : ByteArray), aJ] : List ByteArray))).bind fun bG => (if bG.size + 1 ≤ 9223372036854775807 then (some (bG ++ (⟨#[59]⟩ : ByteArray))) else (none))) = some r := H
 have A2 := ae.mk A20
 clear A20
 obtain ⟨y103, hy103⟩ : ∃ y_ : List ByteArray, y_ = (([(⟨#[108, 105, 110, 107]⟩ : ByteArray), aD, aA, bU, (⟨#[102, 97, 105, 108]⟩ : ByteArray), aJ] : List ByteArray)) := ⟨_, rfl⟩
 replace H : ((aN.f y103).bind fun bG => (if bG.size + 1 ≤ 9223372036854775807 then (some (bG ++ (⟨#[59]⟩ : ByteArray))) else (none))) = some r := by first | (rw [hy103]; with_reducible exact H) | (have H2_ := (Option.bind_some _ _).symm.trans H; rw [hy103]; with_reducible exact H2_) | (have H2_ := (Option.bind_some _ _).symm.trans H; with_reducible exact H2_) | with_reducible exact H | (rw [hy103]; exact H) | exact H
 have Ny103 := ae.mk hy103
 clear hy103
 replace H := Option.bind_eq_some_iff.mp H
 obtain ⟨bG, A30, H⟩ := H
 replace H : (if bG.size + 1 ≤ 9223372036854775807 then (some (bG ++ (⟨#[59]⟩ : ByteArray))) else (none)) = some r := H
 have A3 := ae.mk A30
 clear A30
 by_cases c4 : bG.size + 1 ≤ 9223372036854775807
 ·rw [if_pos c4] at H
  have iQ := eq_true c4
  have jv : decide (bG.size + 1 ≤ 9223372036854775807) = true := decide_eq_true c4
  try have Ag : (9223372036854775807 < bG.size + 1) = False := eq_false (Nat.not_lt.2 c4)
  obtain rfl := Option.some.inj H
  go_enter Tryz.func51, Tryz.ntmps51
  try go_wp2_with (first | ((with_reducible refine bg (N := 1) rfl ?_); refine bE ?hg (N := 1) ?hd (cs := #[.string aD, .string aA, .string bU, .bool bf, .slice je fG.length c0_4, .slice oz jN.length c0_5]) (t := 74) ?hr ?_; (case hd => rfl); (case hg => rfl); (case hr => first | (go_simp; done) | (go_simp; rfl)); intro av hg w5 hbox hb; have ag := ae.mk (hbox); have GW101 := qge HB hg; have dh := qge HB hg; replace HB := ae.mk (aj (qw HB) hb); clear hb hbox hg))
  replace ag := ae.mk (dQ ag.out)
  replace HB := ae.mk (ak HB.out)
  refine iP (n := 13) (S := fun w' => w'.cell? ⟨av, 0, none⟩ = some (.string aD) ∧ w'.cell? ⟨av, 1, none⟩ = some (.string aA) ∧ w'.cell? ⟨av, 2, none⟩ = some (.string bU) ∧ w'.cell? ⟨av, 3, none⟩ = some (.bool bf) ∧ w'.cell? ⟨av, 4, none⟩ = some (.slice je fG.length c0_4) ∧ w'.cell? ⟨av, 5, none⟩ = some (.slice oz jN.length c0_5)) (ds := []) #[bF,bF,bF,bF,bF,bF,bF,bF,bF,bF,bF,bF,bF] (by kernel_rfl) rfl rfl ⟨(af ag.out 0).trans rfl, (af ag.out 1).trans rfl, (af ag.out 2).trans rfl, (af ag.out 3).trans rfl, (af ag.out 4).trans rfl, (af ag.out 5).trans rfl⟩ (fun hHeld => ?_); refine fV fE.ou fE.lN (fun HT_ HW_ => ?_)
  generalize w5.drew = w6 at ag HB hHeld ⊢
  refine bL 0 (some 3) HT_ ?_
  refine bL 2 (some 5) HT_ ?_
  refine bL 4 (some 7) HT_ ?_
  refine bL 6 (some 9) HT_ ?_
  refine fI 1 (some 4) HT_ HW_ hHeld ?_
  refine fI 3 (some 6) HT_ HW_ hHeld ?_
  refine fI 5 (some 8) HT_ HW_ hHeld ?_
  refine fI 7 (some 10) HT_ HW_ hHeld ?_
  refine iW 8 (some 11) HT_ (fun K hK => ?_)
  refine gX Tryz.func86 #[.agg #[.bool bf, .slice je fG.length c0_4, .slice oz jN.length c0_5]] ?_
  with_reducible refine (ik.calls k bf _ _ fG _ _ jN aJ _ ?aX ?aY ?jK ?jL A2.out).mono ?_
  (case aX => exact qs ((Kd.dC nI.out HB.out)))
  (case aY => exact nJ.out)
  (case jK => exact qs ((Kd.dC xq.out HB.out)))
  (case jL => exact xu.out)
  rintro e w7 ⟨rfl, hb⟩
  refine ⟨_, rfl, ?_⟩
  replace ag := qbb ag hb
  replace HB := ae.mk (aj (qw HB) hb)
  (try clear hb)
  (try clear hb2)
  (try clear hk)
  (try clear hi)
  refine hK.out _ _ ⟨(af ag.out 0).trans rfl, (af ag.out 1).trans rfl, (af ag.out 2).trans rfl, (af ag.out 3).trans rfl, (af ag.out 4).trans rfl, (af ag.out 5).trans rfl⟩ (fun hHeld => ?_)
  clear hK K
  refine gD (some 11) ?_
  refine iW 9 (some 12) HT_ (fun K hK => ?_)
  refine Kd.jR Kd.string _ 9 ?hg (N := 12) ?hd (xs := ([(⟨#[108, 105, 110, 107]⟩ : ByteArray), aD, aA, bU, (⟨#[102, 97, 105, 108]⟩ : ByteArray), aJ] : List ByteArray)) (inner := [.string (⟨#[108, 105, 110, 107]⟩ : ByteArray), .string aD, .string aA, .string bU, .string (⟨#[102, 97, 105, 108]⟩ : ByteArray), .string aJ]) (ok := fun _ => True) (okp := fun _ => True) ?hr ?hp (fun _ hk => hk) trivial (Below.refl _ _) (Nat.le_refl _) (by simp) ?_; (case hd => rfl); (case hg => rfl); (case hr => first | (go_simp; done) | (go_simp; rfl)); (case hp => exact (cu.one (show Kd.M Kd.string _ _ _ (⟨#[108, 105, 110, 107]⟩ : ByteArray) [.string (⟨#[108, 105, 110, 107]⟩ : ByteArray)] from rfl) (cu.one (show Kd.M Kd.string _ _ _ aD [.string aD] from rfl) (cu.one (show Kd.M Kd.string _ _ _ aA [.string aA] from rfl) (cu.one (show Kd.M Kd.string _ _ _ bU [.string bU] from rfl) (cu.one (show Kd.M Kd.string _ _ _ (⟨#[102, 97, 105, 108]⟩ : ByteArray) [.string (⟨#[102, 97, 105, 108]⟩ : ByteArray)] from rfl) (cu.one (show Kd.M Kd.string _ _ _ aJ [.string aJ] from rfl) (cu.none _ _))))))))
  intro v104 w8 ho9 hb hg_ hnew_
  clear hg_ hnew_
  (first | rw [← Ny103.out] at ho9 | (simp only [Int.reduceToNat] at ho9; rw [← Ny103.out] at ho9))
  have fQ := ae.mk (Kd.dI ho9 (bi (qw HB)))
  replace ag := qbb ag hb
  replace HB := ae.mk (aj (qw HB) hb)
  clear hb ho9
  obtain ⟨Ba, Bb, yn⟩ := Kd.dM fQ.out
  (first | subst yn | (injection yn with f1_ f2_ f3_; have f4_ := f1_.symm; have f5_ := f3_.symm; clear f1_ f2_ f3_; subst f4_; subst f5_))
  refine hK.out _ _ ⟨(af ag.out 0).trans rfl, (af ag.out 1).trans rfl, (af ag.out 2).trans rfl, (af ag.out 3).trans rfl, (af ag.out 4).trans rfl, (af ag.out 5).trans rfl⟩ (fun hHeld => ?_)
  clear hK K
  refine gD (some 12) ?_
  refine iW 10 (some 13) HT_ (fun K hK => ?_)
  refine gX Tryz.func33 #[.slice Ba y103.length Bb] ?_
  with_reducible refine (aN.calls _ _ y103 bG _ ?aX ?aY A3.out).mono ?_
  (case aX => exact qs ((Kd.aV fQ.out).2.2))
  (case aY => exact (Kd.aV fQ.out).2.1)
  rintro e w11 ⟨rfl, hb⟩
  refine ⟨_, rfl, ?_⟩
  replace fQ := ae.mk (Kd.bD (qr fQ) hb)
  replace ag := qbb ag hb
  replace HB := ae.mk (aj (qw HB) hb)
  (try clear hb)
  (try clear hb2)
  (try clear hk)
  (try clear hi)
  refine hK.out _ _ ⟨(af ag.out 0).trans rfl, (af ag.out 1).trans rfl, (af ag.out 2).trans rfl, (af ag.out 3).trans rfl, (af ag.out 4).trans rfl, (af ag.out 5).trans rfl⟩ (fun hHeld => ?_)
  clear hK K
  refine gD (some 13) ?_
  refine bL 11 (some 14) HT_ ?_
  refine bL 12 (some 2) HT_ ?_
  refine jI HT_ ?_
  try go_wp2
  go_ret
  exact ⟨by first | rfl | (simp [errW_none, errW_some] <;> rfl) | (simp [*, errW_none, errW_some] <;> rfl), by repeat (first | (with_reducible first | exact HB.out | apply au | apply ai | apply ak | refine bn ?_ dh.out) | exact HB.out)⟩
 ·rw [if_neg c4] at H
  exact absurd H (by simp)
end Go.Proofs.YteidaijpaijgpaaGreatDoor.P
end
section
namespace Go.Proofs.YteidaijpaijgpaaGreatDoor.P
open Go.RowKit Go.Proofs.YteidaijpaijgpaaGreatDoorW.ay Go.Proofs.YteidaijpaijgpaaGreatDoorW.aQ Go.Proofs.YteidaijpaijgpaaGreatDoorW.aZ
attribute [local go_sem] bz bA bP bQ bq bu bB bC
set_option linter.unusedVariables false
set_option linter.unusedSimpArgs false
def dG.l0 : Nat → List ByteArray → List (S74) → Int → Int → Option (List ByteArray)
 | 0, _, _, _, _ => none
 | k + 1, x5, x11, x12, x13 => if x13 < x12 then (if 0 ≤ x13 then (if x13 < (x11.length : Int) then ((fE.f k ((bS x11 x13).f0) ((bS x11 x13).f1) ((bS x11 x13).f2) ((bS x11 x13).f3.f0.f0) ((bS x11 x13).f3.f0.f1) ((bS x11 x13).f3.f1)).bind fun bG => (if x13 < (x5.length : Int) then (dG.l0 k (x5.set (x13 : Int).toNat bG) x11 x12 (wrap64 (x13 + 1))) else (none))) else (none)) else (none)) else (some x5)
def dG.f (k : Nat) (l0 : List (S74)) (a1 : Bool) : Option (List ByteArray) := if 0 ≤ (l0.length : Int) then (if ((l0.length : Int) : Int).toNat ≤ 17592186044416 then (dG.l0 k (List.replicate ((l0.length : Int) : Int).toNat (⟨#[]⟩ : ByteArray)) l0 (l0.length : Int) 0) else (none)) else (none)
theorem dG.dF : ∀ k, (∀ y0 y1 y2 y3, LeO (dG.l0 k y0 y1 y2 y3) (dG.l0 (k + 1) y0 y1 y2 y3))
 | 0 => fun _ _ _ _ r h => by simp [dG.l0] at h
 | k + 1 => by
  have ih0 := dG.dF k
  ·intro y0 y1 y2 y3
   unfold dG.l0
   repeat' first
   | (with_reducible exact ih0 _ _ _ _)
   | (with_reducible exact fE.mono _ _ _ _ _ _ _)
   | (with_reducible exact LeO.refl _)
   | (with_reducible exact LeO.none _)
   | (with_reducible refine LeO.ite ?_ ?_)
   | (with_reducible refine LeO.bind ?_ (fun _ => ?_))
   | exact ih0 _ _ _ _
   | exact fE.mono _ _ _ _ _ _ _
   | exact LeO.none _
   | refine LeO.ite ?_ ?_
   | refine LeO.bind ?_ (fun _ => ?_)
theorem dG.mono : ∀ a0 a1 k, LeO (dG.f k a0 a1) (dG.f (k + 1) a0 a1) := by
 intro a0 a1 k
 have ih0 := dG.dF k
 unfold dG.f
 repeat' first
   | (with_reducible exact ih0 _ _ _ _)
   | (with_reducible exact fE.mono _ _ _ _ _ _ _)
   | (with_reducible exact LeO.refl _)
   | (with_reducible exact LeO.none _)
   | (with_reducible refine LeO.ite ?_ ?_)
   | (with_reducible refine LeO.bind ?_ (fun _ => ?_))
   | exact ih0 _ _ _ _
   | exact fE.mono _ _ _ _ _ _ _
   | exact LeO.none _
   | refine LeO.ite ?_ ?_
   | refine LeO.bind ?_ (fun _ => ?_)
set_option maxHeartbeats 8000000 in
set_option maxRecDepth 100000 in
theorem dG.calls (k : Nat) (A0 : Option Addr) (c0 : Nat) (l0 : List (S74)) (a1 : Bool) (r : List ByteArray) (w : World) (hr0 : Kd.C k74 w A0 l0.length l0) (hc0 : l0.length ≤ c0) (h : dG.f k l0 a1 = some r) :
  Calls Tryz.prog 50 #[.slice A0 l0.length c0, .func (.func 51) #[] #[]] w fun e w' => ∃ v0_ : Value, e = .returned (v0_) ∧ Kd.R Kd.string 9 w' w.heap.size (fun _ => True) v0_ r ∧ Below w.heap.size w w' := by
 have hu74 := Tryz.underlying74
 have HR0 := ae.mk hr0
 have HC0 := ae.mk hc0
 clear hr0 hc0
 have HB := ae.mk (Below.refl w.heap.size w)
 have H : (if 0 ≤ (l0.length : Int) then (if ((l0.length : Int) : Int).toNat ≤ 17592186044416 then (dG.l0 k (List.replicate ((l0.length : Int) : Int).toNat (⟨#[]⟩ : ByteArray)) l0 (l0.length : Int) 0) else (none)) else (none)) = some r := h
 clear h
 by_cases c3 : 0 ≤ (l0.length : Int)
 ·rw [if_pos c3] at H
  have gN := eq_true c3
  have jk : decide (0 ≤ (l0.length : Int)) = true := decide_eq_true c3
  clear c3
  by_cases c4 : ((l0.length : Int) : Int).toNat ≤ 17592186044416
  ·rw [if_pos c4] at H
   have iQ := eq_true c4
   have jv : decide (((l0.length : Int) : Int).toNat ≤ 17592186044416) = true := decide_eq_true c4
   clear c4
   obtain ⟨y101, hy101⟩ : ∃ y_ : List ByteArray, y_ = (List.replicate ((l0.length : Int) : Int).toNat (⟨#[]⟩ : ByteArray)) := ⟨_, rfl⟩
   replace H : (dG.l0 k y101 l0 (l0.length : Int) 0) = some r := by first | (rw [hy101]; with_reducible exact H) | (have H2_ := (Option.bind_some _ _).symm.trans H; rw [hy101]; with_reducible exact H2_) | (have H2_ := (Option.bind_some _ _).symm.trans H; with_reducible exact H2_) | with_reducible exact H | (rw [hy101]; exact H) | exact H
   have Ny101 := ae.mk hy101
   clear hy101
   have H' := ae.mk H
   clear H
   go_enter Tryz.func50, Tryz.ntmps50
   go_wp2_with (first | ((with_reducible refine bg (N := 10) rfl ?_); refine Kd.kC Kd.string _ 9 rfl (N := 10) rfl 40 _ _ rfl (l0.length : Int) rfl rfl Tryz.underlying40 (.string ⟨#[]⟩) 16 nC rfl (by decide) (by omega) (⟨#[]⟩ : ByteArray) (ok := fun _ => True) (okp := fun _ => True) rfl (fun _ hk => hk) trivial (of_decide_eq_true qa) (Nat.le_trans (Nat.mul_le_mul_right _ (of_decide_eq_true qa : (l0.length : Int).toNat ≤ 17592186044416)) (by omega)) (Below.refl _ _) (Nat.le_refl _) ?_; intro v102 w5 ho6 hb hg_ hnew_; clear hg_ hnew_; (first | rw [← Ny101.out] at ho6 | (simp only [Int.reduceToNat] at ho6; rw [← Ny101.out] at ho6)); have eX := ae.mk (Kd.dI ho6 (bi (qw HB))); replace HB := ae.mk (aj (qw HB) hb); clear hb ho6))
   go_loopg [13] k (fun kq v13 w' => ∃ (cZ : List ByteArray) (ax : Int), v13 = .int .i64 ax ∧ ae (dG.l0 kq cZ l0 (l0.length : Int) ax = some r) ∧ ae (kq ≤ k) ∧ ae (Kd.R Kd.string 9 w' w.heap.size (fun _ => True) v102 cZ) ∧ ae (Below w.heap.size w w'))
   case atStart => exact ⟨(y101), (0), (by first | rfl | (simp; done) | (simp [*]; done)), H', ⟨Nat.le_refl _⟩, ⟨by (with_reducible repeat (first | apply Kd.di | apply Kd.dm | apply Kd.dR)); exact eX.out⟩, ⟨by repeat (first | (with_reducible first | exact HB.out | apply au | apply ai | apply ak) | exact HB.out)⟩⟩
   case round =>
    clear H'
    try clear p2
    try clear c3
    try clear gN
    try clear jk
    try clear c4
    try clear iQ
    try clear jv
    try clear c5
    obtain ⟨cZ, ax, rfl, HA, HK1, bM, HB⟩ := hrel
    cases gk with
    | zero => exact absurd HA.out (by simp [dG.l0])
    | succ k1 =>
     have H := HA.out
     clear HA
     simp only [dG.l0] at H
     by_cases c7 : ax < (l0.length : Int)
     ·rw [if_pos c7] at H
      have jg : decide (ax < (l0.length : Int)) = true := decide_eq_true c7
      clear c7
      by_cases c8 : 0 ≤ ax
      ·rw [if_pos c8] at H
       have kK : decide (0 ≤ ax) = true := decide_eq_true c8
       clear c8
       by_cases c9 : ax < (l0.length : Int)
       ·rw [if_pos c9] at H
        have lT : decide (ax < (l0.length : Int)) = true := decide_eq_true c9
        clear c9
        replace H := Option.bind_eq_some_iff.mp H
        obtain ⟨bG, A100, H⟩ := H
        replace H : (if ax < (cZ.length : Int) then (dG.l0 k1 (cZ.set (ax : Int).toNat bG) l0 (l0.length : Int) (wrap64 (ax + 1))) else (none)) = some r := H
        have A10 := ae.mk A100
        clear A100
        by_cases c11 : ax < (cZ.length : Int)
        ·rw [if_pos c11] at H
         have lq : decide (ax < (cZ.length : Int)) = true := decide_eq_true c11
         clear c11
         obtain ⟨y107, hy107⟩ : ∃ y_ : List ByteArray, y_ = (cZ.set (ax : Int).toNat bG) := ⟨_, rfl⟩
         replace H : (dG.l0 k1 y107 l0 (l0.length : Int) (wrap64 (ax + 1))) = some r := by first | (rw [hy107]; with_reducible exact H) | (have H2_ := (Option.bind_some _ _).symm.trans H; rw [hy107]; with_reducible exact H2_) | (have H2_ := (Option.bind_some _ _).symm.trans H; with_reducible exact H2_) | with_reducible exact H | (rw [hy107]; exact H) | exact H
         have Ny107 := ae.mk hy107
         clear hy107
         have H' := ae.mk H
         clear H
         have p104 : 0 ≤ (ax : Int) := of_decide_eq_true qa
         have q104 : ax < (l0.length : Int) := of_decide_eq_true qa
         obtain ⟨ad104, kZ, c104_4, ru, c104_5, e104, hx104_0, hx104_1, hx104_2, hx104_3, hx104_4, hx104_5, hl104_4, hi104_4, hl104_5, hi104_5⟩ := tu HR0.out ax p104 q104
         cases e104
         replace hx104_0 := (HB.out.cell (World.block_lt_of_cell? w _ hx104_0)).trans hx104_0
         replace hx104_1 := (HB.out.cell (World.block_lt_of_cell? w _ hx104_1)).trans hx104_1
         replace hx104_2 := (HB.out.cell (World.block_lt_of_cell? w _ hx104_2)).trans hx104_2
         replace hx104_3 := (HB.out.cell (World.block_lt_of_cell? w _ hx104_3)).trans hx104_3
         replace hx104_4 := (HB.out.cell (World.block_lt_of_cell? w _ hx104_4)).trans hx104_4
         replace hx104_5 := (HB.out.cell (World.block_lt_of_cell? w _ hx104_5)).trans hx104_5
         have ry := ae.mk hi104_4
         have rz := ae.mk hl104_4
         clear hi104_4 hl104_4
         have yA := ae.mk hi104_5
         have yB := ae.mk hl104_5
         clear hi104_5 hl104_5
         replace p104 := eq_true p104
         replace q104 := eq_true q104
         go_wp2_with (first | ((with_reducible refine bg (N := 7) rfl ?_); refine bE ?hg (N := 7) ?hd (cs := #[.string (⟨#[]⟩ : ByteArray), .string (⟨#[]⟩ : ByteArray), .string (⟨#[]⟩ : ByteArray), .bool false, .slice none 0 0, .slice none 0 0]) (t := 74) ?hr ?_; (case hd => rfl); (case hg => rfl); (case hr => first | (go_simp; done) | (go_simp; rfl)); intro eB hg w13 hbox hb; replace bM := ae.mk (Kd.bD (qr bM) hb); have cO := ae.mk (hbox); have GW105 := qge HB hg; have lu := qge HB hg; replace HB := ae.mk (aj (qw HB) hb); clear hb hbox hg; have hcz14_0 : w13.cell? ⟨eB, 0, none⟩ = some (.string (⟨#[]⟩ : ByteArray)) := (af cO.out 0).trans rfl; have hcz14_1 : w13.cell? ⟨eB, 1, none⟩ = some (.string (⟨#[]⟩ : ByteArray)) := (af cO.out 1).trans rfl; have hcz14_2 : w13.cell? ⟨eB, 2, none⟩ = some (.string (⟨#[]⟩ : ByteArray)) := (af cO.out 2).trans rfl; have hcz14_3 : w13.cell? ⟨eB, 3, none⟩ = some (.bool false) := (af cO.out 3).trans rfl; have hcz14_4 : w13.cell? ⟨eB, 4, none⟩ = some (.slice none 0 0) := (af cO.out 4).trans rfl; have hcz14_5 : w13.cell? ⟨eB, 5, none⟩ = some (.slice none 0 0) := (af cO.out 5).trans rfl; have hfz14_0 := ah cO.out 0; have hfz14_1 := ah cO.out 1; have hfz14_2 := ah cO.out 2; have hfz14_3 := ah cO.out 3; have hfz14_4 := ah cO.out 4; have hfz14_5 := ah cO.out 5) | ((with_reducible refine Go.Proofs.YteidaijpaijgpaaGreatDoorV.eG (s := 20) rfl ?_); refine Go.Proofs.YteidaijpaijgpaaGreatDoorV.gW (some 22) rfl rfl Tryz.func51 (by kernel_rfl) rfl #[.agg #[.string ((bS l0 ax).f0), .string ((bS l0 ax).f1), .string ((bS l0 ax).f2), .bool ((bS l0 ax).f3.f0.f0), .slice kZ ((bS l0 ax).f3.f0.f1).length c104_4, .slice ru ((bS l0 ax).f3.f1).length c104_5]] rfl qt ?_; (with_reducible refine (fE.calls k1 ((bS l0 ax).f0) ((bS l0 ax).f1) ((bS l0 ax).f2) ((bS l0 ax).f3.f0.f0) _ _ ((bS l0 ax).f3.f0.f1) _ _ ((bS l0 ax).f3.f1) bG _ ?aX ?aY ?jK ?jL A10.out).mono ?_); (case aX => exact Kd.dC ry.out (qw HB)); (case aY => exact rz.out); (case jK => exact Kd.dC yA.out (qw HB)); (case jL => exact yB.out); rintro e w15 ⟨rfl, hb⟩; refine ⟨_, rfl, ?_⟩; replace bM := ae.mk (Kd.bD (by (with_reducible repeat (first | apply Kd.di | apply Kd.dm | apply Kd.dR)); exact (Kd.gu (Kd.iI (p := ⟨eB, 5, none⟩) (Kd.iI (p := ⟨eB, 4, none⟩) (Kd.iI (p := ⟨eB, 3, none⟩) (Kd.iI (p := ⟨eB, 2, none⟩) (Kd.iI (p := ⟨eB, 1, none⟩) (Kd.iI (p := ⟨eB, 0, none⟩) (Kd.lC bM.out cO.out (by decide)) (fun _ hk => hk.2) (.string ((bS l0 ax).f0))) (fun _ hk => hk.2) (.string ((bS l0 ax).f1))) (fun _ hk => hk.2) (.string ((bS l0 ax).f2))) (fun _ hk => hk.2) (.bool ((bS l0 ax).f3.f0.f0))) (fun _ hk => hk.2) (.slice kZ ((bS l0 ax).f3.f0.f1).length c104_4)) (fun _ hk => hk.2) (.slice ru ((bS l0 ax).f3.f1).length c104_5)) (fun _ h_ => h_.1))) hb); replace cO := ae.mk (ji (g := eB) (o := .cells #[.string ((bS l0 ax).f0), .string ((bS l0 ax).f1), .string ((bS l0 ax).f2), .bool ((bS l0 ax).f3.f0.f0), .slice kZ ((bS l0 ax).f3.f0.f1).length c104_4, .slice ru ((bS l0 ax).f3.f1).length c104_5] 74 (0, 0)) (by refine dL (cs := #[.string ((bS l0 ax).f0), .string ((bS l0 ax).f1), .string ((bS l0 ax).f2), .bool ((bS l0 ax).f3.f0.f0), .slice kZ ((bS l0 ax).f3.f0.f1).length c104_4, .slice none 0 0]) ?_ 5 _ rfl; refine dL (cs := #[.string ((bS l0 ax).f0), .string ((bS l0 ax).f1), .string ((bS l0 ax).f2), .bool ((bS l0 ax).f3.f0.f0), .slice none 0 0, .slice none 0 0]) ?_ 4 _ rfl; refine dL (cs := #[.string ((bS l0 ax).f0), .string ((bS l0 ax).f1), .string ((bS l0 ax).f2), .bool false, .slice none 0 0, .slice none 0 0]) ?_ 3 _ rfl; refine dL (cs := #[.string ((bS l0 ax).f0), .string ((bS l0 ax).f1), .string (⟨#[]⟩ : ByteArray), .bool false, .slice none 0 0, .slice none 0 0]) ?_ 2 _ rfl; refine dL (cs := #[.string ((bS l0 ax).f0), .string (⟨#[]⟩ : ByteArray), .string (⟨#[]⟩ : ByteArray), .bool false, .slice none 0 0, .slice none 0 0]) ?_ 1 _ rfl; refine dL (cs := #[.string (⟨#[]⟩ : ByteArray), .string (⟨#[]⟩ : ByteArray), .string (⟨#[]⟩ : ByteArray), .bool false, .slice none 0 0, .slice none 0 0]) ?_ 0 _ rfl; (with_reducible repeat (first | refine gz ?_ _ | refine dQ ?_ | refine gy ?_ _)); exact cO.out) hb); replace HB := ae.mk (aj (qw HB) hb); (try clear hb); (try clear hb2); (try clear hk); (try clear hi); have p12 : 0 ≤ (ax : Int) := of_decide_eq_true qa; have q12 : (ax : Int) < ((cZ.length : Int) : Int) := of_decide_eq_true qa; obtain ⟨go12, kF, jr, kG, gl12, cl12, HG12⟩ := Kd.kz bM.out (by omega); (first | cases jr | (injection jr with ea_ en_ ec_; (first | subst ea_ | (injection ea_ with ea_; subst ea_)); subst ec_; clear en_)); have mZ := ae.mk kG; have GG12 := ae.mk HG12; clear kG gl12 HG12; obtain ⟨hx12_0, hf12_0⟩ := Kd.ib (⟨#[]⟩ : ByteArray) bM.out (ax : Int) p12 q12; replace p12 := eq_true p12; replace q12 := eq_true q12; obtain ⟨hy16_, hz16_⟩ := Kd.ib (⟨#[]⟩ : ByteArray) bM.out (ax : Int) (of_decide_eq_true qa) (of_decide_eq_true qa); have HP16 := Kd.kD bM.out (ax : Int) bG) | ((with_reducible refine iD (t := 9) (p := 23) rfl ?_); refine ic (t := 9) (p := 23) (v := ?vo_w17) (w1 := (w15.setCell ⟨go12, (ax : Int).toNat, none⟩ (.string bG))) ?hg ?ho ?hn ?hr ?_; (case ho => rfl); (case hg => rfl); (case hn => rfl); (case hr => first | (go_simp; done) | (go_simp; rfl)); intro w17 hw; have hg : w15.grownBy w17 (some go12) := (by rw [hw]; exact HP16.2); have hp_ : Kd.R Kd.string 9 w17 w.heap.size (fun _ => True) (.slice (some ⟨go12, 0, none⟩) cZ.length kF) y107 := (by rw [hw, Ny107.out]; exact HP16.1); clear HP16; replace cO := ae.mk (jO (g := eB) (o := .cells #[.string ((bS l0 ax).f0), .string ((bS l0 ax).f1), .string ((bS l0 ax).f2), .bool ((bS l0 ax).f3.f0.f0), .slice kZ ((bS l0 ax).f3.f0.f1).length c104_4, .slice ru ((bS l0 ax).f3.f1).length c104_5] 74 (0, 0)) (qb cO) hg (Kd.sN bM.out cO.out (by decide))); replace bM := ae.mk (hp_); replace HB := ae.mk ((by rw [hw]; exact bn (HB.out) mZ.out : Below w.heap.size w w17)); clear hg hw hp_))
         go_roundg k1
         case measure => have := HK1.out; omega
         case rel => exact ⟨(y107), (wrap64 (ax + 1)), (by first | rfl | (simp; done) | (simp [*]; done)), H', ⟨by have := HK1.out; omega⟩, ⟨by (with_reducible repeat (first | apply Kd.di | apply Kd.dm | apply Kd.dR)); exact bM.out⟩, ⟨by repeat (first | (with_reducible first | exact HB.out | apply au | apply ai | apply ak | refine bn ?_ lu.out) | exact HB.out)⟩⟩
        ·rw [if_neg c11] at H
         exact absurd H (by simp)
       ·rw [if_neg c9] at H
        exact absurd H (by simp)
      ·rw [if_neg c8] at H
       exact absurd H (by simp)
     ·rw [if_neg c7] at H
      have jg : decide (ax < (l0.length : Int)) = false := decide_eq_false c7
      clear c7
      obtain rfl := Option.some.inj H
      go_wp2
      go_ret
      exact ⟨_, by first | rfl | (simp [errW_none, errW_some] <;> rfl) | (simp [*, errW_none, errW_some] <;> rfl), by (with_reducible repeat (first | apply Kd.di | apply Kd.dm | apply Kd.dR)); exact bM.out, by repeat (first | (with_reducible first | exact HB.out | apply au | apply ai | apply ak) | exact HB.out)⟩
  ·rw [if_neg c4] at H
   exact absurd H (by simp)
 ·rw [if_neg c3] at H
  exact absurd H (by simp)
end Go.Proofs.YteidaijpaijgpaaGreatDoor.P
end
section
namespace Go.Proofs.YteidaijpaijgpaaGreatDoor.P
open Go.RowKit Go.Proofs.YteidaijpaijgpaaGreatDoorW.ay Go.Proofs.YteidaijpaijgpaaGreatDoorW.aQ Go.Proofs.YteidaijpaijgpaaGreatDoorW.aZ
attribute [local go_sem] bz bA bP bQ bq bu bB bC
set_option linter.unusedVariables false
set_option linter.unusedSimpArgs false
def ed.l0 : Nat → List ByteArray → List (S25) → Int → Int → Option (List ByteArray)
 | 0, _, _, _, _ => none
 | k + 1, x5, x11, x12, x13 => if x13 < x12 then (if 0 ≤ x13 then (if x13 < (x11.length : Int) then ((dV.f k ((jB x11 x13).f0) ((jB x11 x13).f1)).bind fun bG => (if x13 < (x5.length : Int) then (ed.l0 k (x5.set (x13 : Int).toNat bG) x11 x12 (wrap64 (x13 + 1))) else (none))) else (none)) else (none)) else (some x5)
def ed.f (k : Nat) (l0 : List (S25)) (a1 : Bool) : Option (List ByteArray) := if 0 ≤ (l0.length : Int) then (if ((l0.length : Int) : Int).toNat ≤ 17592186044416 then (ed.l0 k (List.replicate ((l0.length : Int) : Int).toNat (⟨#[]⟩ : ByteArray)) l0 (l0.length : Int) 0) else (none)) else (none)
theorem ed.dF : ∀ k, (∀ y0 y1 y2 y3, LeO (ed.l0 k y0 y1 y2 y3) (ed.l0 (k + 1) y0 y1 y2 y3))
 | 0 => fun _ _ _ _ r h => by simp [ed.l0] at h
 | k + 1 => by
  have ih0 := ed.dF k
  ·intro y0 y1 y2 y3
   unfold ed.l0
   repeat' first
   | (with_reducible exact ih0 _ _ _ _)
   | (with_reducible exact dV.mono _ _ _)
   | (with_reducible exact LeO.refl _)
   | (with_reducible exact LeO.none _)
   | (with_reducible refine LeO.ite ?_ ?_)
   | (with_reducible refine LeO.bind ?_ (fun _ => ?_))
   | exact ih0 _ _ _ _
   | exact dV.mono _ _ _
   | exact LeO.none _
   | refine LeO.ite ?_ ?_
   | refine LeO.bind ?_ (fun _ => ?_)
theorem ed.mono : ∀ a0 a1 k, LeO (ed.f k a0 a1) (ed.f (k + 1) a0 a1) := by
 intro a0 a1 k
 have ih0 := ed.dF k
 unfold ed.f
 repeat' first
   | (with_reducible exact ih0 _ _ _ _)
   | (with_reducible exact dV.mono _ _ _)
   | (with_reducible exact LeO.refl _)
   | (with_reducible exact LeO.none _)
   | (with_reducible refine LeO.ite ?_ ?_)
   | (with_reducible refine LeO.bind ?_ (fun _ => ?_))
   | exact ih0 _ _ _ _
   | exact dV.mono _ _ _
   | exact LeO.none _
   | refine LeO.ite ?_ ?_
   | refine LeO.bind ?_ (fun _ => ?_)
set_option maxHeartbeats 8000000 in
set_option maxRecDepth 100000 in
theorem ed.calls (k : Nat) (A0 : Option Addr) (c0 : Nat) (l0 : List (S25)) (a1 : Bool) (r : List ByteArray) (w : World) (hr0 : Kd.C k25 w A0 l0.length l0) (hc0 : l0.length ≤ c0) (h : ed.f k l0 a1 = some r) (HGT : ae (Go.Proofs.YteidaijpaijgpaaGreatDoorV.GT w)) :
  Calls Tryz.prog 85 #[.slice A0 l0.length c0, .func (.func 34) #[] #[]] w fun e w' => ∃ v0_ : Value, e = .returned (v0_) ∧ Kd.R Kd.string 9 w' w.heap.size (fun _ => True) v0_ r ∧ Below w.heap.size w w' := by
 have hu25 := Tryz.underlying25
 have HR0 := ae.mk hr0
 have HC0 := ae.mk hc0
 clear hr0 hc0
 have HB := ae.mk (Below.refl w.heap.size w)
 have H : (if 0 ≤ (l0.length : Int) then (if ((l0.length : Int) : Int).toNat ≤ 17592186044416 then (ed.l0 k (List.replicate ((l0.length : Int) : Int).toNat (⟨#[]⟩ : ByteArray)) l0 (l0.length : Int) 0) else (none)) else (none)) = some r := h
 clear h
 by_cases c3 : 0 ≤ (l0.length : Int)
 ·rw [if_pos c3] at H
  have gN := eq_true c3
  have jk : decide (0 ≤ (l0.length : Int)) = true := decide_eq_true c3
  clear c3
  by_cases c4 : ((l0.length : Int) : Int).toNat ≤ 17592186044416
  ·rw [if_pos c4] at H
   have iQ := eq_true c4
   have jv : decide (((l0.length : Int) : Int).toNat ≤ 17592186044416) = true := decide_eq_true c4
   clear c4
   obtain ⟨y101, hy101⟩ : ∃ y_ : List ByteArray, y_ = (List.replicate ((l0.length : Int) : Int).toNat (⟨#[]⟩ : ByteArray)) := ⟨_, rfl⟩
   replace H : (ed.l0 k y101 l0 (l0.length : Int) 0) = some r := by first | (rw [hy101]; with_reducible exact H) | (have H2_ := (Option.bind_some _ _).symm.trans H; rw [hy101]; with_reducible exact H2_) | (have H2_ := (Option.bind_some _ _).symm.trans H; with_reducible exact H2_) | with_reducible exact H | (rw [hy101]; exact H) | exact H
   have Ny101 := ae.mk hy101
   clear hy101
   have H' := ae.mk H
   clear H
   go_enter Tryz.func85, Tryz.ntmps85
   go_wp2_with (first | ((with_reducible refine bg (N := 10) rfl ?_); refine Kd.kC Kd.string _ 9 rfl (N := 10) rfl 40 _ _ rfl (l0.length : Int) rfl rfl Tryz.underlying40 (.string ⟨#[]⟩) 16 nC rfl (by decide) (by omega) (⟨#[]⟩ : ByteArray) (ok := fun _ => True) (okp := fun _ => True) rfl (fun _ hk => hk) trivial (of_decide_eq_true qa) (Nat.le_trans (Nat.mul_le_mul_right _ (of_decide_eq_true qa : (l0.length : Int).toNat ≤ 17592186044416)) (by omega)) (Below.refl _ _) (Nat.le_refl _) ?_; intro v102 w5 ho6 hb hg_ hnew_; clear hg_ hnew_; (first | rw [← Ny101.out] at ho6 | (simp only [Int.reduceToNat] at ho6; rw [← Ny101.out] at ho6)); have eX := ae.mk (Kd.dI ho6 (bi (qw HB))); replace HB := ae.mk (aj (qw HB) hb); clear hb ho6))
   go_loopg [13] k (fun kq v13 w' => ∃ (cZ : List ByteArray) (ax : Int), v13 = .int .i64 ax ∧ ae (ed.l0 kq cZ l0 (l0.length : Int) ax = some r) ∧ ae (kq ≤ k) ∧ ae (Kd.R Kd.string 9 w' w.heap.size (fun _ => True) v102 cZ) ∧ ae (Below w.heap.size w w'))
   case atStart => exact ⟨(y101), (0), (by first | rfl | (simp; done) | (simp [*]; done)), H', ⟨Nat.le_refl _⟩, ⟨by (with_reducible repeat (first | apply Kd.di | apply Kd.dm | apply Kd.dR)); exact eX.out⟩, ⟨by repeat (first | (with_reducible first | exact HB.out | apply au | apply ai | apply ak) | exact HB.out)⟩⟩
   case round =>
    clear H'
    try clear p2
    try clear c3
    try clear gN
    try clear jk
    try clear c4
    try clear iQ
    try clear jv
    obtain ⟨cZ, ax, rfl, HA, HK1, bM, HB⟩ := hrel
    cases gk with
    | zero => exact absurd HA.out (by simp [ed.l0])
    | succ k1 =>
     have H := HA.out
     clear HA
     simp only [ed.l0] at H
     by_cases c7 : ax < (l0.length : Int)
     ·rw [if_pos c7] at H
      have jg : decide (ax < (l0.length : Int)) = true := decide_eq_true c7
      clear c7
      by_cases c8 : 0 ≤ ax
      ·rw [if_pos c8] at H
       have kK : decide (0 ≤ ax) = true := decide_eq_true c8
       clear c8
       by_cases c9 : ax < (l0.length : Int)
       ·rw [if_pos c9] at H
        have lT : decide (ax < (l0.length : Int)) = true := decide_eq_true c9
        clear c9
        replace H := Option.bind_eq_some_iff.mp H
        obtain ⟨bG, A100, H⟩ := H
        replace H : (if ax < (cZ.length : Int) then (ed.l0 k1 (cZ.set (ax : Int).toNat bG) l0 (l0.length : Int) (wrap64 (ax + 1))) else (none)) = some r := H
        have A10 := ae.mk A100
        clear A100
        by_cases c11 : ax < (cZ.length : Int)
        ·rw [if_pos c11] at H
         have lq : decide (ax < (cZ.length : Int)) = true := decide_eq_true c11
         clear c11
         obtain ⟨y107, hy107⟩ : ∃ y_ : List ByteArray, y_ = (cZ.set (ax : Int).toNat bG) := ⟨_, rfl⟩
         replace H : (ed.l0 k1 y107 l0 (l0.length : Int) (wrap64 (ax + 1))) = some r := by first | (rw [hy107]; with_reducible exact H) | (have H2_ := (Option.bind_some _ _).symm.trans H; rw [hy107]; with_reducible exact H2_) | (have H2_ := (Option.bind_some _ _).symm.trans H; with_reducible exact H2_) | with_reducible exact H | (rw [hy107]; exact H) | exact H
         have Ny107 := ae.mk hy107
         clear hy107
         have H' := ae.mk H
         clear H
         have p104 : 0 ≤ (ax : Int) := of_decide_eq_true qa
         have q104 : ax < (l0.length : Int) := of_decide_eq_true qa
         obtain ⟨ad104, e104, hx104_0, hx104_1⟩ := zk HR0.out ax p104 q104
         cases e104
         replace hx104_0 := (HB.out.cell (World.block_lt_of_cell? w _ hx104_0)).trans hx104_0
         replace hx104_1 := (HB.out.cell (World.block_lt_of_cell? w _ hx104_1)).trans hx104_1
         replace p104 := eq_true p104
         replace q104 := eq_true q104
         go_wp2_with (first | ((with_reducible refine bg (N := 7) rfl ?_); refine bE ?hg (N := 7) ?hd (cs := #[.int .u32 0, .int .i64 0]) (t := 25) ?hr ?_; (case hd => rfl); (case hg => rfl); (case hr => first | (go_simp; done) | (go_simp; rfl)); intro eB hg w13 hbox hb; replace bM := ae.mk (Kd.bD (qr bM) hb); have cO := ae.mk (hbox); have GW105 := qge HB hg; have lu := qge HB hg; replace HB := ae.mk (aj (qw HB) hb); clear hb hbox hg; have hcz14_0 : w13.cell? ⟨eB, 0, none⟩ = some (.int .u32 0) := (af cO.out 0).trans rfl; have hcz14_1 : w13.cell? ⟨eB, 1, none⟩ = some (.int .i64 0) := (af cO.out 1).trans rfl; have hfz14_0 := ah cO.out 0; have hfz14_1 := ah cO.out 1) | ((with_reducible refine Go.Proofs.YteidaijpaijgpaaGreatDoorV.eG (s := 20) rfl ?_); refine Go.Proofs.YteidaijpaijgpaaGreatDoorV.gW (some 22) rfl rfl Tryz.func34 (by kernel_rfl) rfl #[.agg #[.int .u32 ((jB l0 ax).f0), .int .i64 ((jB l0 ax).f1)]] rfl qt ?_; (with_reducible refine (dV.calls k1 ((jB l0 ax).f0) ((jB l0 ax).f1) bG _ A10.out ?gt).mono ?_); (case gt => exact Go.Proofs.YteidaijpaijgpaaGreatDoorV.GT.below HGT (qw HB)); rintro e w15 ⟨rfl, hb⟩; refine ⟨_, rfl, ?_⟩; replace bM := ae.mk (Kd.bD (by (with_reducible repeat (first | apply Kd.di | apply Kd.dm | apply Kd.dR)); exact (Kd.gu (Kd.iI (p := ⟨eB, 1, none⟩) (Kd.iI (p := ⟨eB, 0, none⟩) (Kd.lC bM.out cO.out (by decide)) (fun _ hk => hk.2) (.int .u32 ((jB l0 ax).f0))) (fun _ hk => hk.2) (.int .i64 ((jB l0 ax).f1))) (fun _ h_ => h_.1))) hb); replace cO := ae.mk (ji (g := eB) (o := .cells #[.int .u32 ((jB l0 ax).f0), .int .i64 ((jB l0 ax).f1)] 25 (0, 0)) (by refine dL (cs := #[.int .u32 ((jB l0 ax).f0), .int .i64 0]) ?_ 1 _ rfl; refine dL (cs := #[.int .u32 0, .int .i64 0]) ?_ 0 _ rfl; (with_reducible repeat (first | refine gz ?_ _ | refine dQ ?_ | refine gy ?_ _)); exact cO.out) hb); replace HB := ae.mk (aj (qw HB) hb); (try clear hb); (try clear hb2); (try clear hk); (try clear hi); have p12 : 0 ≤ (ax : Int) := of_decide_eq_true qa; have q12 : (ax : Int) < ((cZ.length : Int) : Int) := of_decide_eq_true qa; obtain ⟨go12, kF, jr, kG, gl12, cl12, HG12⟩ := Kd.kz bM.out (by omega); (first | cases jr | (injection jr with ea_ en_ ec_; (first | subst ea_ | (injection ea_ with ea_; subst ea_)); subst ec_; clear en_)); have mZ := ae.mk kG; have GG12 := ae.mk HG12; clear kG gl12 HG12; obtain ⟨hx12_0, hf12_0⟩ := Kd.ib (⟨#[]⟩ : ByteArray) bM.out (ax : Int) p12 q12; replace p12 := eq_true p12; replace q12 := eq_true q12; obtain ⟨hy16_, hz16_⟩ := Kd.ib (⟨#[]⟩ : ByteArray) bM.out (ax : Int) (of_decide_eq_true qa) (of_decide_eq_true qa); have HP16 := Kd.kD bM.out (ax : Int) bG) | ((with_reducible refine iD (t := 9) (p := 23) rfl ?_); refine ic (t := 9) (p := 23) (v := ?vo_w17) (w1 := (w15.setCell ⟨go12, (ax : Int).toNat, none⟩ (.string bG))) ?hg ?ho ?hn ?hr ?_; (case ho => rfl); (case hg => rfl); (case hn => rfl); (case hr => first | (go_simp; done) | (go_simp; rfl)); intro w17 hw; have hg : w15.grownBy w17 (some go12) := (by rw [hw]; exact HP16.2); have hp_ : Kd.R Kd.string 9 w17 w.heap.size (fun _ => True) (.slice (some ⟨go12, 0, none⟩) cZ.length kF) y107 := (by rw [hw, Ny107.out]; exact HP16.1); clear HP16; replace cO := ae.mk (jO (g := eB) (o := .cells #[.int .u32 ((jB l0 ax).f0), .int .i64 ((jB l0 ax).f1)] 25 (0, 0)) (qb cO) hg (Kd.sN bM.out cO.out (by decide))); replace bM := ae.mk (hp_); replace HB := ae.mk ((by rw [hw]; exact bn (HB.out) mZ.out : Below w.heap.size w w17)); clear hg hw hp_))
         go_roundg k1
         case measure => have := HK1.out; omega
         case rel => exact ⟨(y107), (wrap64 (ax + 1)), (by first | rfl | (simp; done) | (simp [*]; done)), H', ⟨by have := HK1.out; omega⟩, ⟨by (with_reducible repeat (first | apply Kd.di | apply Kd.dm | apply Kd.dR)); exact bM.out⟩, ⟨by repeat (first | (with_reducible first | exact HB.out | apply au | apply ai | apply ak | refine bn ?_ lu.out) | exact HB.out)⟩⟩
        ·rw [if_neg c11] at H
         exact absurd H (by simp)
       ·rw [if_neg c9] at H
        exact absurd H (by simp)
      ·rw [if_neg c8] at H
       exact absurd H (by simp)
     ·rw [if_neg c7] at H
      have jg : decide (ax < (l0.length : Int)) = false := decide_eq_false c7
      clear c7
      obtain rfl := Option.some.inj H
      go_wp2
      go_ret
      exact ⟨_, by first | rfl | (simp [errW_none, errW_some] <;> rfl) | (simp [*, errW_none, errW_some] <;> rfl), by (with_reducible repeat (first | apply Kd.di | apply Kd.dm | apply Kd.dR)); exact bM.out, by repeat (first | (with_reducible first | exact HB.out | apply au | apply ai | apply ak) | exact HB.out)⟩
  ·rw [if_neg c4] at H
   exact absurd H (by simp)
 ·rw [if_neg c3] at H
  exact absurd H (by simp)
end Go.Proofs.YteidaijpaijgpaaGreatDoor.P
end
section
namespace Go.Proofs.YteidaijpaijgpaaGreatDoor.P
open Go.RowKit Go.Proofs.YteidaijpaijgpaaGreatDoorW.ay Go.Proofs.YteidaijpaijgpaaGreatDoorW.aQ Go.Proofs.YteidaijpaijgpaaGreatDoorW.aZ
attribute [local go_sem] bz bA bP bQ bq bu bB bC
set_option linter.unusedVariables false
set_option linter.unusedSimpArgs false
def iy.f (k : Nat) (aD : ByteArray) (cK : List (S25)) : Option (ByteArray) := (aN.f (([(⟨#[110, 111, 100, 101]⟩ : ByteArray), aD] : List ByteArray))).bind fun t105 => (if (cK.length : Int) > 0 then ((ed.f k cK rP).bind fun bG => ((strings_Join.f bG (⟨#[44, 32]⟩ : ByteArray)).bind fun t109 => ((aN.f (([t105, (⟨#[104, 111, 109, 101]⟩ : ByteArray), t109] : List ByteArray))).bind fun jb => (if jb.size + 1 ≤ 9223372036854775807 then (some (jb ++ (⟨#[59]⟩ : ByteArray))) else (none))))) else (if t105.size + 1 ≤ 9223372036854775807 then (some (t105 ++ (⟨#[59]⟩ : ByteArray))) else (none)))
theorem iy.mono : ∀ a0 a1 k, LeO (iy.f k a0 a1) (iy.f (k + 1) a0 a1) := by
 intro a0 a1 k
 unfold iy.f
 repeat' first
   | (with_reducible exact ed.mono _ _ _)
   | (with_reducible exact LeO.refl _)
   | (with_reducible exact LeO.none _)
   | (with_reducible refine LeO.ite ?_ ?_)
   | (with_reducible refine LeO.bind ?_ (fun _ => ?_))
   | exact ed.mono _ _ _
   | exact LeO.none _
   | refine LeO.ite ?_ ?_
   | refine LeO.bind ?_ (fun _ => ?_)
set_option maxHeartbeats 8000000 in
set_option maxRecDepth 100000 in
theorem iy.calls (k : Nat) (aD : ByteArray) (gq : Option Addr) (c0_1 : Nat) (cK : List (S25)) (r : ByteArray) (w : World) (hr0_1 : Kd.C k25 w gq cK.length cK) (hc0_1 : cK.length ≤ c0_1) (h : iy.f k aD cK = some r) (HGT : ae (Go.Proofs.YteidaijpaijgpaaGreatDoorV.GT w)) :
  Calls Tryz.prog 49 #[.agg #[.string aD, .slice gq cK.length c0_1]] w fun e w' => e = .returned (.string r) ∧ Below w.heap.size w w' := by
 have hu66 := Tryz.underlying66
 have kH := ae.mk hr0_1
 have kI := ae.mk hc0_1
 clear hr0_1 hc0_1
 have HB := ae.mk (Below.refl w.heap.size w)
 have H : ((aN.f (([(⟨#[110, 111, 100, 101]⟩ : ByteArray), aD] : List ByteArray))).bind fun t105 => (if (cK.length : Int) > 0 then ((ed.f k cK rP).bind fun bG => ((strings_Join.f bG (⟨#[44, 32]⟩ : ByteArray)).bind fun t109 => ((aN.f (([t105, (⟨#[104, 111, 109, 101]⟩ : ByteArray), t109] : List ByteArray))).bind fun jb => (if jb.size + 1 ≤ 9223372036854775807 then (some (jb ++ (⟨#[59]⟩ : ByteArray))) else (none))))) else (if t105.size + 1 ≤ 9223372036854775807 then (some (t105 ++ (⟨#[59]⟩ : ByteArray))) else (none)))) = some r := h
 clear h
 obtain ⟨y102, hy102⟩ : ∃ y_ : List ByteArray, y_ = (([(⟨#[110, 111, 100, 101]⟩ : ByteArray), aD] : List ByteArray)) := ⟨_, rfl⟩
 replace H : ((aN.f y102).bind fun t105 => (if (cK.length : Int) > 0 then ((ed.f k cK rP).bind fun bG => ((strings_Join.f bG (⟨#[44, 32]⟩ : ByteArray)).bind fun t109 => ((aN.f (([t105, (⟨#[104, 111, 109, 101]⟩ : ByteArray), t109] : List ByteArray))).bind fun jb => (if jb.size + 1 ≤ 9223372036854775807 then (some (jb ++ (⟨#[59]⟩ : ByteArray))) else (none))))) else (if t105.size + 1 ≤ 9223372036854775807 then (some (t105 ++ (⟨#[59]⟩ : ByteArray))) else (none)))) = some r := by first | (rw [hy102]; with_reducible exact H) | (have H2_ := (Option.bind_some _ _).symm.trans H; rw [hy102]; with_reducible exact H2_) | (have H2_ := (Option.bind_some _ _).symm.trans H; with_reducible exact H2_) | with_reducible exact H | (rw [hy102]; exact H) | exact H
 have Ny102 := ae.mk hy102
 clear hy102
 replace H := Option.bind_eq_some_iff.mp H
 obtain ⟨t105, A20, H⟩ := H
 replace H : (if (cK.length : Int) > 0 then ((ed.f k cK rP).bind fun bG => ((strings_Join.f bG (⟨#[44, 32]⟩ : ByteArray)).bind fun t109 => ((aN.f (([t105, (⟨#[104, 111, 109, 101]⟩ : ByteArray), t109] : List ByteArray))).bind fun jb => (if jb.size + 1 ≤ 9223372036854775807 then (some (jb ++ (⟨#[59]⟩ : ByteArray))) else (none))))) else (if t105.size + 1 ≤ 9223372036854775807 then (some (t105 ++ (⟨#[59]⟩ : ByteArray))) else (none))) = some r := H
 have A2 := ae.mk A20
 clear A20
 by_cases c3 : (cK.length : Int) > 0
 ·rw [if_pos c3] at H
  have gN : decide (0 < (cK.length : Int)) = true := decide_eq_true c3
  have jk : decide (0 < cK.length) = true := decide_eq_true (by omega)
  clear c3
  replace H := Option.bind_eq_some_iff.mp H
  obtain ⟨bG, A40, H⟩ := H
  replace H : ((strings_Join.f bG (⟨#[44, 32]⟩ : ByteArray)).bind fun t109 => ((aN.f (([t105, (⟨#[104, 111, 109, 101]⟩ : ByteArray), t109] : List ByteArray))).bind fun jb => (if jb.size + 1 ≤ 9223372036854775807 then (some (jb ++ (⟨#[59]⟩ : ByteArray))) else (none)))) = some r := H
  have A4 := ae.mk A40
  clear A40
  replace H := Option.bind_eq_some_iff.mp H
  obtain ⟨t109, A50, H⟩ := H
  replace H : ((aN.f (([t105, (⟨#[104, 111, 109, 101]⟩ : ByteArray), t109] : List ByteArray))).bind fun jb => (if jb.size + 1 ≤ 9223372036854775807 then (some (jb ++ (⟨#[59]⟩ : ByteArray))) else (none))) = some r := H
  have A5 := ae.mk A50
  clear A50
  obtain ⟨y110, hy110⟩ : ∃ y_ : List ByteArray, y_ = (([t105, (⟨#[104, 111, 109, 101]⟩ : ByteArray), t109] : List ByteArray)) := ⟨_, rfl⟩
  replace H : ((aN.f y110).bind fun jb => (if jb.size + 1 ≤ 9223372036854775807 then (some (jb ++ (⟨#[59]⟩ : ByteArray))) else (none))) = some r := by first | (rw [hy110]; with_reducible exact H) | (have H2_ := (Option.bind_some _ _).symm.trans H; rw [hy110]; with_reducible exact H2_) | (have H2_ := (Option.bind_some _ _).symm.trans H; with_reducible exact H2_) | with_reducible exact H | (rw [hy110]; exact H) | exact H
  have Ny110 := ae.mk hy110
  clear hy110
  replace H := Option.bind_eq_some_iff.mp H
  obtain ⟨jb, A60, H⟩ := H
  replace H : (if jb.size + 1 ≤ 9223372036854775807 then (some (jb ++ (⟨#[59]⟩ : ByteArray))) else (none)) = some r := H
  have A6 := ae.mk A60
  clear A60
  by_cases c7 : jb.size + 1 ≤ 9223372036854775807
  ·rw [if_pos c7] at H
   have jg := eq_true c7
   have oq : decide (jb.size + 1 ≤ 9223372036854775807) = true := decide_eq_true c7
   try have xX : (9223372036854775807 < jb.size + 1) = False := eq_false (Nat.not_lt.2 c7)
   obtain rfl := Option.some.inj H
   go_enter Tryz.func49, Tryz.ntmps49
   go_wp2_with (first | ((with_reducible refine bg (N := 1) rfl ?_); refine bE ?hg (N := 1) ?hd (cs := #[.string aD, .slice gq cK.length c0_1]) (t := 66) ?hr ?_; (case hd => rfl); (case hg => rfl); (case hr => first | (go_simp; done) | (go_simp; rfl)); intro av hg w8 hbox hb; have ag := ae.mk (hbox); have GW101 := qge HB hg; have dh := qge HB hg; replace HB := ae.mk (aj (qw HB) hb); clear hb hbox hg; have hcz9_0 : w8.cell? ⟨av, 0, none⟩ = some (.string aD) := (af ag.out 0).trans rfl; have hcz9_1 : w8.cell? ⟨av, 1, none⟩ = some (.slice gq cK.length c0_1) := (af ag.out 1).trans rfl; have hfz9_0 := ah ag.out 0; have hfz9_1 := ah ag.out 1) | ((with_reducible refine bg (N := 6) rfl ?_); refine Kd.jm Kd.string _ 9 ?hg (N := 6) ?hd (xs := ([(⟨#[110, 111, 100, 101]⟩ : ByteArray), aD] : List ByteArray)) (inner := [.string (⟨#[110, 111, 100, 101]⟩ : ByteArray), .string aD]) (ok := fun _ => True) (okp := fun _ => True) ?hr ?hp (fun _ hk => hk) trivial (Below.refl _ _) (Nat.le_refl _) (by simp) ?_; (case hd => rfl); (case hg => rfl); (case hr => first | (go_simp; done) | (go_simp; rfl)); (case hp => exact (cu.one (show Kd.M Kd.string _ _ _ (⟨#[110, 111, 100, 101]⟩ : ByteArray) [.string (⟨#[110, 111, 100, 101]⟩ : ByteArray)] from rfl) (cu.one (show Kd.M Kd.string _ _ _ aD [.string aD] from rfl) (cu.none _ _)))); intro v103 w10 mf hb hg_ hnew_; clear hg_ hnew_; (first | rw [← Ny102.out] at mf | (simp only [Int.reduceToNat] at mf; rw [← Ny102.out] at mf)); have fF := ae.mk (Kd.dI mf (bi (qw HB))); replace ag := qbb ag hb; replace HB := ae.mk (aj (qw HB) hb); clear hb mf; obtain ⟨tT, kF, jr⟩ := Kd.dM fF.out; subst jr) | ((with_reducible refine aH (f := 33) rfl ?_); refine bN (some 7) rfl rfl Tryz.func33 (by kernel_rfl) rfl #[.slice tT y102.length kF] rfl qt ?_; (with_reducible refine (aN.calls _ _ y102 t105 _ ?aX ?aY A2.out).mono ?_); (case aX => exact qs ((Kd.aV fF.out).2.2)); (case aY => exact (Kd.aV fF.out).2.1); rintro e w13 ⟨rfl, hb⟩; refine ⟨_, rfl, ?_⟩; replace fF := ae.mk (Kd.bD (qr fF) hb); replace ag := qbb ag hb; replace HB := ae.mk (aj (qw HB) hb); (try clear hb); (try clear hb2); (try clear hk); (try clear hi); have hcz14_0 : w13.cell? ⟨av, 0, none⟩ = some (.string aD) := (af ag.out 0).trans rfl; have hcz14_1 : w13.cell? ⟨av, 1, none⟩ = some (.slice gq cK.length c0_1) := (af ag.out 1).trans rfl; have hfz14_0 := ah ag.out 0; have hfz14_1 := ah ag.out 1) | ((with_reducible refine aH (f := 85) rfl ?_); refine bN (some 15) rfl rfl Tryz.func85 (by kernel_rfl) rfl #[.slice gq cK.length c0_1, .func (.func 34) #[] #[]] rfl qt ?_; (with_reducible refine (ed.calls k _ _ cK rP bG _ ?aX ?aY A4.out ?gt).mono ?_); (case gt => exact Go.Proofs.YteidaijpaijgpaaGreatDoorV.GT.below HGT (qw HB)); (case aX => exact qs ((Kd.dC kH.out HB.out))); (case aY => exact kI.out); rintro e w15 ⟨v107, rfl, ho0, hb⟩; refine ⟨_, rfl, ?_⟩; have jh := ae.mk (Kd.dI (Kd.iM ho0 (Kd.jQ (qr fF))) (bi (qw HB))); replace fF := ae.mk (Kd.gB (qr fF) (Kd.iL ho0) hb); replace ag := qbb ag hb; replace HB := ae.mk (aj (qw HB) hb); (try clear hb); (try clear hb2); (try clear hk); (try clear hi); (try clear ho0); obtain ⟨vv, vw, xm⟩ := Kd.dM jh.out; subst xm) | ((with_reducible refine aH (f := 26) rfl ?_); refine bN (some 16) rfl rfl Tryz.func26 (by kernel_rfl) rfl #[.slice vv bG.length vw, .string (⟨#[44, 32]⟩ : ByteArray)] rfl qt ?_; (with_reducible refine (strings_Join.calls _ _ bG (⟨#[44, 32]⟩ : ByteArray) t109 _ ?aX ?aY A5.out).mono ?_); (case aX => exact qs ((Kd.aV jh.out).2.2)); (case aY => exact (Kd.aV jh.out).2.1); rintro e w17 ⟨rfl, hb⟩; refine ⟨_, rfl, ?_⟩; replace fF := ae.mk (Kd.bD (qr fF) hb); replace jh := ae.mk (Kd.bD (qr jh) hb); replace ag := qbb ag hb; replace HB := ae.mk (aj (qw HB) hb); (try clear hb); (try clear hb2); (try clear hk); (try clear hi)) | ((with_reducible refine bg (N := 17) rfl ?_); refine Kd.jm Kd.string _ 9 ?hg (N := 17) ?hd (xs := ([t105, (⟨#[104, 111, 109, 101]⟩ : ByteArray), t109] : List ByteArray)) (inner := [.string t105, .string (⟨#[104, 111, 109, 101]⟩ : ByteArray), .string t109]) (ok := fun _ => True) (okp := fun _ => True) ?hr ?hp (fun _ hk => hk) trivial (Below.refl _ _) (Nat.le_refl _) (by simp) ?_; (case hd => rfl); (case hg => rfl); (case hr => first | (go_simp; done) | (go_simp; rfl)); (case hp => exact (cu.one (show Kd.M Kd.string _ _ _ t105 [.string t105] from rfl) (cu.one (show Kd.M Kd.string _ _ _ (⟨#[104, 111, 109, 101]⟩ : ByteArray) [.string (⟨#[104, 111, 109, 101]⟩ : ByteArray)] from rfl) (cu.one (show Kd.M Kd.string _ _ _ t109 [.string t109] from rfl) (cu.none _ _))))); intro v111 w18 ui hb hg_ hnew_; clear hg_ hnew_; (first | rw [← Ny110.out] at ui | (simp only [Int.reduceToNat] at ui; rw [← Ny110.out] at ui)); have lv := ae.mk (Kd.dI (Kd.iM (Kd.iM ui (Kd.jQ (qr fF))) (Kd.jQ (qr jh))) (bi (qw HB))); replace fF := ae.mk (Kd.gB (qr fF) (Kd.iL ui) hb); replace jh := ae.mk (Kd.gB (qr jh) (Kd.iL ui) hb); replace ag := qbb ag hb; replace HB := ae.mk (aj (qw HB) hb); clear hb ui; obtain ⟨zz, zA, yz⟩ := Kd.dM lv.out; subst yz) | ((with_reducible refine aH (f := 33) rfl ?_); refine bN (some 18) rfl rfl Tryz.func33 (by kernel_rfl) rfl #[.slice zz y110.length zA] rfl qt ?_; (with_reducible refine (aN.calls _ _ y110 jb _ ?aX ?aY A6.out).mono ?_); (case aX => exact qs ((Kd.aV lv.out).2.2)); (case aY => exact (Kd.aV lv.out).2.1); rintro e w21 ⟨rfl, hb⟩; refine ⟨_, rfl, ?_⟩; replace fF := ae.mk (Kd.bD (qr fF) hb); replace jh := ae.mk (Kd.bD (qr jh) hb); replace lv := ae.mk (Kd.bD (qr lv) hb); replace ag := qbb ag hb; replace HB := ae.mk (aj (qw HB) hb); (try clear hb); (try clear hb2); (try clear hk); (try clear hi)))
   go_ret
   exact ⟨by first | rfl | (simp [errW_none, errW_some] <;> rfl) | (simp [*, errW_none, errW_some] <;> rfl), by repeat (first | (with_reducible first | exact HB.out | apply au | apply ai | apply ak | refine bn ?_ dh.out) | exact HB.out)⟩
  ·rw [if_neg c7] at H
   exact absurd H (by simp)
 ·rw [if_neg c3] at H
  have gN : decide (0 < (cK.length : Int)) = false := decide_eq_false c3
  have jk : decide (0 < cK.length) = false := decide_eq_false (by omega)
  clear c3
  by_cases c22 : t105.size + 1 ≤ 9223372036854775807
  ·rw [if_pos c22] at H
   have Bc := eq_true c22
   have Bd : decide (t105.size + 1 ≤ 9223372036854775807) = true := decide_eq_true c22
   try have Be : (9223372036854775807 < t105.size + 1) = False := eq_false (Nat.not_lt.2 c22)
   obtain rfl := Option.some.inj H
   go_enter Tryz.func49, Tryz.ntmps49
   go_wp2_with (first | ((with_reducible refine bg (N := 1) rfl ?_); refine bE ?hg (N := 1) ?hd (cs := #[.string aD, .slice gq cK.length c0_1]) (t := 66) ?hr ?_; (case hd => rfl); (case hg => rfl); (case hr => first | (go_simp; done) | (go_simp; rfl)); intro av hg w23 hbox hb; have ag := ae.mk (hbox); have GW101 := qge HB hg; have dh := qge HB hg; replace HB := ae.mk (aj (qw HB) hb); clear hb hbox hg; have hcz24_0 : w23.cell? ⟨av, 0, none⟩ = some (.string aD) := (af ag.out 0).trans rfl; have hcz24_1 : w23.cell? ⟨av, 1, none⟩ = some (.slice gq cK.length c0_1) := (af ag.out 1).trans rfl; have hfz24_0 := ah ag.out 0; have hfz24_1 := ah ag.out 1) | ((with_reducible refine bg (N := 6) rfl ?_); refine Kd.jm Kd.string _ 9 ?hg (N := 6) ?hd (xs := ([(⟨#[110, 111, 100, 101]⟩ : ByteArray), aD] : List ByteArray)) (inner := [.string (⟨#[110, 111, 100, 101]⟩ : ByteArray), .string aD]) (ok := fun _ => True) (okp := fun _ => True) ?hr ?hp (fun _ hk => hk) trivial (Below.refl _ _) (Nat.le_refl _) (by simp) ?_; (case hd => rfl); (case hg => rfl); (case hr => first | (go_simp; done) | (go_simp; rfl)); (case hp => exact (cu.one (show Kd.M Kd.string _ _ _ (⟨#[110, 111, 100, 101]⟩ : ByteArray) [.string (⟨#[110, 111, 100, 101]⟩ : ByteArray)] from rfl) (cu.one (show Kd.M Kd.string _ _ _ aD [.string aD] from rfl) (cu.none _ _)))); intro v103 w25 xy hb hg_ hnew_; clear hg_ hnew_; (first | rw [← Ny102.out] at xy | (simp only [Int.reduceToNat] at xy; rw [← Ny102.out] at xy)); have fF := ae.mk (Kd.dI xy (bi (qw HB))); replace ag := qbb ag hb; replace HB := ae.mk (aj (qw HB) hb); clear hb xy; obtain ⟨Cj, Ck, Cm⟩ := Kd.dM fF.out; subst Cm) | ((with_reducible refine aH (f := 33) rfl ?_); refine bN (some 7) rfl rfl Tryz.func33 (by kernel_rfl) rfl #[.slice Cj y102.length Ck] rfl qt ?_; (with_reducible refine (aN.calls _ _ y102 t105 _ ?aX ?aY A2.out).mono ?_); (case aX => exact qs ((Kd.aV fF.out).2.2)); (case aY => exact (Kd.aV fF.out).2.1); rintro e w28 ⟨rfl, hb⟩; refine ⟨_, rfl, ?_⟩; replace fF := ae.mk (Kd.bD (qr fF) hb); replace ag := qbb ag hb; replace HB := ae.mk (aj (qw HB) hb); (try clear hb); (try clear hb2); (try clear hk); (try clear hi); have hcz29_0 : w28.cell? ⟨av, 0, none⟩ = some (.string aD) := (af ag.out 0).trans rfl; have hcz29_1 : w28.cell? ⟨av, 1, none⟩ = some (.slice gq cK.length c0_1) := (af ag.out 1).trans rfl; have hfz29_0 := ah ag.out 0; have hfz29_1 := ah ag.out 1))
   go_ret
   exact ⟨by first | rfl | (simp [errW_none, errW_some] <;> rfl) | (simp [*, errW_none, errW_some] <;> rfl), by repeat (first | (with_reducible first | exact HB.out | apply au | apply ai | apply ak | refine bn ?_ dh.out) | exact HB.out)⟩
  ·rw [if_neg c22] at H
   exact absurd H (by simp)
end Go.Proofs.YteidaijpaijgpaaGreatDoor.P
end
section
namespace Go.Proofs.YteidaijpaijgpaaGreatDoor.P
open Go.RowKit Go.Proofs.YteidaijpaijgpaaGreatDoorW.ay Go.Proofs.YteidaijpaijgpaaGreatDoorW.aQ Go.Proofs.YteidaijpaijgpaaGreatDoorW.aZ
attribute [local go_sem] bz bA bP bQ bq bu bB bC
set_option linter.unusedVariables false
set_option linter.unusedSimpArgs false
def dK.l0 : Nat → List ByteArray → List (S66) → Int → Int → Option (List ByteArray)
 | 0, _, _, _, _ => none
 | k + 1, x5, x11, x12, x13 => if x13 < x12 then (if 0 ≤ x13 then (if x13 < (x11.length : Int) then ((iy.f k ((gU x11 x13).f0) ((gU x11 x13).f1)).bind fun bG => (if x13 < (x5.length : Int) then (dK.l0 k (x5.set (x13 : Int).toNat bG) x11 x12 (wrap64 (x13 + 1))) else (none))) else (none)) else (none)) else (some x5)
def dK.f (k : Nat) (l0 : List (S66)) (a1 : Bool) : Option (List ByteArray) := if 0 ≤ (l0.length : Int) then (if ((l0.length : Int) : Int).toNat ≤ 17592186044416 then (dK.l0 k (List.replicate ((l0.length : Int) : Int).toNat (⟨#[]⟩ : ByteArray)) l0 (l0.length : Int) 0) else (none)) else (none)
theorem dK.dF : ∀ k, (∀ y0 y1 y2 y3, LeO (dK.l0 k y0 y1 y2 y3) (dK.l0 (k + 1) y0 y1 y2 y3))
 | 0 => fun _ _ _ _ r h => by simp [dK.l0] at h
 | k + 1 => by
  have ih0 := dK.dF k
  ·intro y0 y1 y2 y3
   unfold dK.l0
   repeat' first
   | (with_reducible exact ih0 _ _ _ _)
   | (with_reducible exact iy.mono _ _ _)
   | (with_reducible exact LeO.refl _)
   | (with_reducible exact LeO.none _)
   | (with_reducible refine LeO.ite ?_ ?_)
   | (with_reducible refine LeO.bind ?_ (fun _ => ?_))
   | exact ih0 _ _ _ _
   | exact iy.mono _ _ _
   | exact LeO.none _
   | refine LeO.ite ?_ ?_
   | refine LeO.bind ?_ (fun _ => ?_)
theorem dK.mono : ∀ a0 a1 k, LeO (dK.f k a0 a1) (dK.f (k + 1) a0 a1) := by
 intro a0 a1 k
 have ih0 := dK.dF k
 unfold dK.f
 repeat' first
   | (with_reducible exact ih0 _ _ _ _)
   | (with_reducible exact iy.mono _ _ _)
   | (with_reducible exact LeO.refl _)
   | (with_reducible exact LeO.none _)
   | (with_reducible refine LeO.ite ?_ ?_)
   | (with_reducible refine LeO.bind ?_ (fun _ => ?_))
   | exact ih0 _ _ _ _
   | exact iy.mono _ _ _
   | exact LeO.none _
   | refine LeO.ite ?_ ?_
   | refine LeO.bind ?_ (fun _ => ?_)
set_option maxHeartbeats 8000000 in
set_option maxRecDepth 100000 in
theorem dK.calls (k : Nat) (A0 : Option Addr) (c0 : Nat) (l0 : List (S66)) (a1 : Bool) (r : List ByteArray) (w : World) (hr0 : Kd.C k66 w A0 l0.length l0) (hc0 : l0.length ≤ c0) (h : dK.f k l0 a1 = some r) (HGT : ae (Go.Proofs.YteidaijpaijgpaaGreatDoorV.GT w)) :
  Calls Tryz.prog 48 #[.slice A0 l0.length c0, .func (.func 49) #[] #[]] w fun e w' => ∃ v0_ : Value, e = .returned (v0_) ∧ Kd.R Kd.string 9 w' w.heap.size (fun _ => True) v0_ r ∧ Below w.heap.size w w' := by
 have hu66 := Tryz.underlying66
 have HR0 := ae.mk hr0
 have HC0 := ae.mk hc0
 clear hr0 hc0
 have HB := ae.mk (Below.refl w.heap.size w)
 have H : (if 0 ≤ (l0.length : Int) then (if ((l0.length : Int) : Int).toNat ≤ 17592186044416 then (dK.l0 k (List.replicate ((l0.length : Int) : Int).toNat (⟨#[]⟩ : ByteArray)) l0 (l0.length : Int) 0) else (none)) else (none)) = some r := h
 clear h
 by_cases c3 : 0 ≤ (l0.length : Int)
 ·rw [if_pos c3] at H
  have gN := eq_true c3
  have jk : decide (0 ≤ (l0.length : Int)) = true := decide_eq_true c3
  clear c3
  by_cases c4 : ((l0.length : Int) : Int).toNat ≤ 17592186044416
  ·rw [if_pos c4] at H
   have iQ := eq_true c4
   have jv : decide (((l0.length : Int) : Int).toNat ≤ 17592186044416) = true := decide_eq_true c4
   clear c4
   obtain ⟨y101, hy101⟩ : ∃ y_ : List ByteArray, y_ = (List.replicate ((l0.length : Int) : Int).toNat (⟨#[]⟩ : ByteArray)) := ⟨_, rfl⟩
   replace H : (dK.l0 k y101 l0 (l0.length : Int) 0) = some r := by first | (rw [hy101]; with_reducible exact H) | (have H2_ := (Option.bind_some _ _).symm.trans H; rw [hy101]; with_reducible exact H2_) | (have H2_ := (Option.bind_some _ _).symm.trans H; with_reducible exact H2_) | with_reducible exact H | (rw [hy101]; exact H) | exact H
   have Ny101 := ae.mk hy101
   clear hy101
   have H' := ae.mk H
   clear H
   go_enter Tryz.func48, Tryz.ntmps48
   go_wp2_with (first | ((with_reducible refine bg (N := 10) rfl ?_); refine Kd.kC Kd.string _ 9 rfl (N := 10) rfl 40 _ _ rfl (l0.length : Int) rfl rfl Tryz.underlying40 (.string ⟨#[]⟩) 16 nC rfl (by decide) (by omega) (⟨#[]⟩ : ByteArray) (ok := fun _ => True) (okp := fun _ => True) rfl (fun _ hk => hk) trivial (of_decide_eq_true qa) (Nat.le_trans (Nat.mul_le_mul_right _ (of_decide_eq_true qa : (l0.length : Int).toNat ≤ 17592186044416)) (by omega)) (Below.refl _ _) (Nat.le_refl _) ?_; intro v102 w5 ho6 hb hg_ hnew_; clear hg_ hnew_; (first | rw [← Ny101.out] at ho6 | (simp only [Int.reduceToNat] at ho6; rw [← Ny101.out] at ho6)); have eX := ae.mk (Kd.dI ho6 (bi (qw HB))); replace HB := ae.mk (aj (qw HB) hb); clear hb ho6))
   go_loopg [13] k (fun kq v13 w' => ∃ (cZ : List ByteArray) (ax : Int), v13 = .int .i64 ax ∧ ae (dK.l0 kq cZ l0 (l0.length : Int) ax = some r) ∧ ae (kq ≤ k) ∧ ae (Kd.R Kd.string 9 w' w.heap.size (fun _ => True) v102 cZ) ∧ ae (Below w.heap.size w w'))
   case atStart => exact ⟨(y101), (0), (by first | rfl | (simp; done) | (simp [*]; done)), H', ⟨Nat.le_refl _⟩, ⟨by (with_reducible repeat (first | apply Kd.di | apply Kd.dm | apply Kd.dR)); exact eX.out⟩, ⟨by repeat (first | (with_reducible first | exact HB.out | apply au | apply ai | apply ak) | exact HB.out)⟩⟩
   case round =>
    clear H'
    try clear p2
    try clear c3
    try clear gN
    try clear jk
    try clear c4
    try clear iQ
    try clear jv
    obtain ⟨cZ, ax, rfl, HA, HK1, bM, HB⟩ := hrel
    cases gk with
    | zero => exact absurd HA.out (by simp [dK.l0])
    | succ k1 =>
     have H := HA.out
     clear HA
     simp only [dK.l0] at H
     by_cases c7 : ax < (l0.length : Int)
     ·rw [if_pos c7] at H
      have jg : decide (ax < (l0.length : Int)) = true := decide_eq_true c7
      clear c7
      by_cases c8 : 0 ≤ ax
      ·rw [if_pos c8] at H
       have kK : decide (0 ≤ ax) = true := decide_eq_true c8
       clear c8
       by_cases c9 : ax < (l0.length : Int)
       ·rw [if_pos c9] at H
        have lT : decide (ax < (l0.length : Int)) = true := decide_eq_true c9
        clear c9
        replace H := Option.bind_eq_some_iff.mp H
        obtain ⟨bG, A100, H⟩ := H
        replace H : (if ax < (cZ.length : Int) then (dK.l0 k1 (cZ.set (ax : Int).toNat bG) l0 (l0.length : Int) (wrap64 (ax + 1))) else (none)) = some r := H
        have A10 := ae.mk A100
        clear A100
        by_cases c11 : ax < (cZ.length : Int)
        ·rw [if_pos c11] at H
         have lq : decide (ax < (cZ.length : Int)) = true := decide_eq_true c11
         clear c11
         obtain ⟨y107, hy107⟩ : ∃ y_ : List ByteArray, y_ = (cZ.set (ax : Int).toNat bG) := ⟨_, rfl⟩
         replace H : (dK.l0 k1 y107 l0 (l0.length : Int) (wrap64 (ax + 1))) = some r := by first | (rw [hy107]; with_reducible exact H) | (have H2_ := (Option.bind_some _ _).symm.trans H; rw [hy107]; with_reducible exact H2_) | (have H2_ := (Option.bind_some _ _).symm.trans H; with_reducible exact H2_) | with_reducible exact H | (rw [hy107]; exact H) | exact H
         have Ny107 := ae.mk hy107
         clear hy107
         have H' := ae.mk H
         clear H
         have p104 : 0 ≤ (ax : Int) := of_decide_eq_true qa
         have q104 : ax < (l0.length : Int) := of_decide_eq_true qa
         obtain ⟨ad104, kJ, c104_1, e104, hx104_0, hx104_1, hl104_1, hi104_1⟩ := tq HR0.out ax p104 q104
         cases e104
         replace hx104_0 := (HB.out.cell (World.block_lt_of_cell? w _ hx104_0)).trans hx104_0
         replace hx104_1 := (HB.out.cell (World.block_lt_of_cell? w _ hx104_1)).trans hx104_1
         have rA := ae.mk hi104_1
         have rC := ae.mk hl104_1
         clear hi104_1 hl104_1
         replace p104 := eq_true p104
         replace q104 := eq_true q104
         go_wp2_with (first | ((with_reducible refine bg (N := 7) rfl ?_); refine bE ?hg (N := 7) ?hd (cs := #[.string (⟨#[]⟩ : ByteArray), .slice none 0 0]) (t := 66) ?hr ?_; (case hd => rfl); (case hg => rfl); (case hr => first | (go_simp; done) | (go_simp; rfl)); intro eB hg w13 hbox hb; replace bM := ae.mk (Kd.bD (qr bM) hb); have cO := ae.mk (hbox); have GW105 := qge HB hg; have lu := qge HB hg; replace HB := ae.mk (aj (qw HB) hb); clear hb hbox hg; have hcz14_0 : w13.cell? ⟨eB, 0, none⟩ = some (.string (⟨#[]⟩ : ByteArray)) := (af cO.out 0).trans rfl; have hcz14_1 : w13.cell? ⟨eB, 1, none⟩ = some (.slice none 0 0) := (af cO.out 1).trans rfl; have hfz14_0 := ah cO.out 0; have hfz14_1 := ah cO.out 1) | ((with_reducible refine Go.Proofs.YteidaijpaijgpaaGreatDoorV.eG (s := 20) rfl ?_); refine Go.Proofs.YteidaijpaijgpaaGreatDoorV.gW (some 22) rfl rfl Tryz.func49 (by kernel_rfl) rfl #[.agg #[.string ((gU l0 ax).f0), .slice kJ ((gU l0 ax).f1).length c104_1]] rfl qt ?_; (with_reducible refine (iy.calls k1 ((gU l0 ax).f0) _ _ ((gU l0 ax).f1) bG _ ?aX ?aY A10.out ?gt).mono ?_); (case gt => exact Go.Proofs.YteidaijpaijgpaaGreatDoorV.GT.below HGT (qw HB)); (case aX => exact Kd.dC rA.out (qw HB)); (case aY => exact rC.out); rintro e w15 ⟨rfl, hb⟩; refine ⟨_, rfl, ?_⟩; replace bM := ae.mk (Kd.bD (by (with_reducible repeat (first | apply Kd.di | apply Kd.dm | apply Kd.dR)); exact (Kd.gu (Kd.iI (p := ⟨eB, 1, none⟩) (Kd.iI (p := ⟨eB, 0, none⟩) (Kd.lC bM.out cO.out (by decide)) (fun _ hk => hk.2) (.string ((gU l0 ax).f0))) (fun _ hk => hk.2) (.slice kJ ((gU l0 ax).f1).length c104_1)) (fun _ h_ => h_.1))) hb); replace cO := ae.mk (ji (g := eB) (o := .cells #[.string ((gU l0 ax).f0), .slice kJ ((gU l0 ax).f1).length c104_1] 66 (0, 0)) (by refine dL (cs := #[.string ((gU l0 ax).f0), .slice none 0 0]) ?_ 1 _ rfl; refine dL (cs := #[.string (⟨#[]⟩ : ByteArray), .slice none 0 0]) ?_ 0 _ rfl; (with_reducible repeat (first | refine gz ?_ _ | refine dQ ?_ | refine gy ?_ _)); exact cO.out) hb); replace HB := ae.mk (aj (qw HB) hb); (try clear hb); (try clear hb2); (try clear hk); (try clear hi); have p12 : 0 ≤ (ax : Int) := of_decide_eq_true qa; have q12 : (ax : Int) < ((cZ.length : Int) : Int) := of_decide_eq_true qa; obtain ⟨go12, kF, jr, kG, gl12, cl12, HG12⟩ := Kd.kz bM.out (by omega); (first | cases jr | (injection jr with ea_ en_ ec_; (first | subst ea_ | (injection ea_ with ea_; subst ea_)); subst ec_; clear en_)); have mZ := ae.mk kG; have GG12 := ae.mk HG12; clear kG gl12 HG12; obtain ⟨hx12_0, hf12_0⟩ := Kd.ib (⟨#[]⟩ : ByteArray) bM.out (ax : Int) p12 q12; replace p12 := eq_true p12; replace q12 := eq_true q12; obtain ⟨hy16_, hz16_⟩ := Kd.ib (⟨#[]⟩ : ByteArray) bM.out (ax : Int) (of_decide_eq_true qa) (of_decide_eq_true qa); have HP16 := Kd.kD bM.out (ax : Int) bG) | ((with_reducible refine iD (t := 9) (p := 23) rfl ?_); refine ic (t := 9) (p := 23) (v := ?vo_w17) (w1 := (w15.setCell ⟨go12, (ax : Int).toNat, none⟩ (.string bG))) ?hg ?ho ?hn ?hr ?_; (case ho => rfl); (case hg => rfl); (case hn => rfl); (case hr => first | (go_simp; done) | (go_simp; rfl)); intro w17 hw; have hg : w15.grownBy w17 (some go12) := (by rw [hw]; exact HP16.2); have hp_ : Kd.R Kd.string 9 w17 w.heap.size (fun _ => True) (.slice (some ⟨go12, 0, none⟩) cZ.length kF) y107 := (by rw [hw, Ny107.out]; exact HP16.1); clear HP16; replace cO := ae.mk (jO (g := eB) (o := .cells #[.string ((gU l0 ax).f0), .slice kJ ((gU l0 ax).f1).length c104_1] 66 (0, 0)) (qb cO) hg (Kd.sN bM.out cO.out (by decide))); replace bM := ae.mk (hp_); replace HB := ae.mk ((by rw [hw]; exact bn (HB.out) mZ.out : Below w.heap.size w w17)); clear hg hw hp_))
         go_roundg k1
         case measure => have := HK1.out; omega
         case rel => exact ⟨(y107), (wrap64 (ax + 1)), (by first | rfl | (simp; done) | (simp [*]; done)), H', ⟨by have := HK1.out; omega⟩, ⟨by (with_reducible repeat (first | apply Kd.di | apply Kd.dm | apply Kd.dR)); exact bM.out⟩, ⟨by repeat (first | (with_reducible first | exact HB.out | apply au | apply ai | apply ak | refine bn ?_ lu.out) | exact HB.out)⟩⟩
        ·rw [if_neg c11] at H
         exact absurd H (by simp)
       ·rw [if_neg c9] at H
        exact absurd H (by simp)
      ·rw [if_neg c8] at H
       exact absurd H (by simp)
     ·rw [if_neg c7] at H
      have jg : decide (ax < (l0.length : Int)) = false := decide_eq_false c7
      clear c7
      obtain rfl := Option.some.inj H
      go_wp2
      go_ret
      exact ⟨_, by first | rfl | (simp [errW_none, errW_some] <;> rfl) | (simp [*, errW_none, errW_some] <;> rfl), by (with_reducible repeat (first | apply Kd.di | apply Kd.dm | apply Kd.dR)); exact bM.out, by repeat (first | (with_reducible first | exact HB.out | apply au | apply ai | apply ak) | exact HB.out)⟩
  ·rw [if_neg c4] at H
   exact absurd H (by simp)
 ·rw [if_neg c3] at H
  exact absurd H (by simp)
end Go.Proofs.YteidaijpaijgpaaGreatDoor.P
end
section
namespace Go.Proofs.YteidaijpaijgpaaGreatDoor.P
open Go.RowKit Go.Proofs.YteidaijpaijgpaaGreatDoorW.ay Go.Proofs.YteidaijpaijgpaaGreatDoorW.aQ Go.Proofs.YteidaijpaijgpaaGreatDoorW.aZ
attribute [local go_sem] bz bA bP bQ bq bu bB bC
set_option linter.unusedVariables false
set_option linter.unusedSimpArgs false
def iC.f (aD : ByteArray) (aA : Int) : Option (ByteArray) := if aA = 1 then (some aD) else (if aD.size + 1 ≤ 9223372036854775807 then ((strconv_Itoa.f aA).bind fun aJ => (if (aD ++ (⟨#[42]⟩ : ByteArray)).size + aJ.size ≤ 9223372036854775807 then (some ((aD ++ (⟨#[42]⟩ : ByteArray)) ++ aJ)) else (none))) else (none))
def iC.T3 : Bool × List (List Nat × List Nat) := (true, [([], []), ([0], [0]), ([1], [1]), ([], []), ([3], [3]), ([4], [4]), ([2, 5], [2, 5]), ([6, 5, 0, 1, 2, 3, 4, 5, 6], [6])])
def iC.B3 : List Nat := [0, 1, 3, 0, 8, 24, 63, 127]
theorem iC.tN : iV .any (opsOf Tryz.f69 3) = iC.T3 := by kernel_rfl
theorem iC.pG : iA iC.T3.2 iC.B3 = true := by kernel_rfl
set_option maxHeartbeats 8000000 in
set_option maxRecDepth 100000 in
theorem iC.calls (aD : ByteArray) (aA : Int) (r : ByteArray) (w : World) (h : iC.f aD aA = some r) (HGT : ae (Go.Proofs.YteidaijpaijgpaaGreatDoorV.GT w)) :
  Calls Tryz.prog 69 #[.agg #[.string aD, .int .i64 aA]] w fun e w' => e = .returned (.string r) ∧ Below w.heap.size w w' := by
 have hu55 := Tryz.underlying55
 have HB := ae.mk (Below.refl w.heap.size w)
 have H : (if aA = 1 then (some aD) else (if aD.size + 1 ≤ 9223372036854775807 then ((strconv_Itoa.f aA).bind fun aJ => (if (aD ++ (⟨#[42]⟩ : ByteArray)).size + aJ.size ≤ 9223372036854775807 then (some ((aD ++ (⟨#[42]⟩ : ByteArray)) ++ aJ)) else (none))) else (none))) = some r := h
 clear h
 by_cases c2 : aA = 1
 ·rw [if_pos c2] at H
  have jF : (aA == 1) = true := beq_iff_eq.mpr c2
  have mI : (aA != 1) = false := bne_eq_false_iff_eq.mpr c2
  clear c2
  obtain rfl := Option.some.inj H
  go_enter Tryz.func69, Tryz.ntmps69
  go_wp2_with (first | ((with_reducible refine bg (N := 1) rfl ?_); refine bE ?hg (N := 1) ?hd (cs := #[.string aD, .int .i64 aA]) (t := 55) ?hr ?_; (case hd => rfl); (case hg => rfl); (case hr => first | (go_simp; done) | (go_simp; rfl)); intro av hg w3 hbox hb; have ag := ae.mk (hbox); have GW101 := qge HB hg; have dh := qge HB hg; replace HB := ae.mk (aj (qw HB) hb); clear hb hbox hg; have hcz4_0 : w3.cell? ⟨av, 0, none⟩ = some (.string aD) := (af ag.out 0).trans rfl; have hcz4_1 : w3.cell? ⟨av, 1, none⟩ = some (.int .i64 aA) := (af ag.out 1).trans rfl; have hfz4_0 := ah ag.out 0; have hfz4_1 := ah ag.out 1))
  go_ret
  exact ⟨by first | rfl | (simp [errW_none, errW_some] <;> rfl) | (simp [*, errW_none, errW_some] <;> rfl), by repeat (first | (with_reducible first | exact HB.out | apply au | apply ai | apply ak | refine bn ?_ dh.out) | exact HB.out)⟩
 ·rw [if_neg c2] at H
  have jF : (aA == 1) = false := beq_eq_false_iff_ne.mpr c2
  have mI : (aA != 1) = true := bne_iff_ne.mpr c2
  by_cases c5 : aD.size + 1 ≤ 9223372036854775807
  ·rw [if_pos c5] at H
   have jG := eq_true c5
   have lS : decide (aD.size + 1 ≤ 9223372036854775807) = true := decide_eq_true c5
   try have tJ : (9223372036854775807 < aD.size + 1) = False := eq_false (Nat.not_lt.2 c5)
   replace H := Option.bind_eq_some_iff.mp H
   obtain ⟨aJ, A60, H⟩ := H
   replace H : (if (aD ++ (⟨#[42]⟩ : ByteArray)).size + aJ.size ≤ 9223372036854775807 then (some ((aD ++ (⟨#[42]⟩ : ByteArray)) ++ aJ)) else (none)) = some r := H
   have A6 := ae.mk A60
   clear A60
   by_cases c7 : (aD ++ (⟨#[42]⟩ : ByteArray)).size + aJ.size ≤ 9223372036854775807
   ·rw [if_pos c7] at H
    have jg := eq_true c7
    have oq : decide ((aD ++ (⟨#[42]⟩ : ByteArray)).size + aJ.size ≤ 9223372036854775807) = true := decide_eq_true c7
    try have xX : (9223372036854775807 < (aD ++ (⟨#[42]⟩ : ByteArray)).size + aJ.size) = False := eq_false (Nat.not_lt.2 c7)
    (try (have zP : (9223372036854775807 < aD.size + 1 + aJ.size) = False := eq_false (Nat.not_lt.2 (by have h_ := oq; simp only [ByteArray.size_append, decide_eq_true_eq] at h_; first | exact h_ | (simp at h_; omega)))))
    obtain rfl := Option.some.inj H
    go_enter Tryz.func69, Tryz.ntmps69
    try go_wp2_with (first | ((with_reducible refine bg (N := 1) rfl ?_); refine bE ?hg (N := 1) ?hd (cs := #[.string aD, .int .i64 aA]) (t := 55) ?hr ?_; (case hd => rfl); (case hg => rfl); (case hr => first | (go_simp; done) | (go_simp; rfl)); intro av hg w8 hbox hb; have ag := ae.mk (hbox); have GW101 := qge HB hg; have dh := qge HB hg; replace HB := ae.mk (aj (qw HB) hb); clear hb hbox hg; have hcz9_0 : w8.cell? ⟨av, 0, none⟩ = some (.string aD) := (af ag.out 0).trans rfl; have hcz9_1 : w8.cell? ⟨av, 1, none⟩ = some (.int .i64 aA) := (af ag.out 1).trans rfl; have hfz9_0 := ah ag.out 0; have hfz9_1 := ah ag.out 1))
    replace ag := ae.mk (dQ ag.out)
    replace HB := ae.mk (ak HB.out)
    refine iP (n := 8) (S := fun w' => w'.cell? ⟨av, 0, none⟩ = some (.string aD) ∧ w'.cell? ⟨av, 1, none⟩ = some (.int .i64 aA)) (ds := []) #[bF,bF,bF,bF,bF,bF,bF,bF] (by kernel_rfl) rfl rfl ⟨(af ag.out 0).trans rfl, (af ag.out 1).trans rfl⟩ (fun hHeld => ?_); refine fV iC.tN iC.pG (fun HT_ HW_ => ?_)
    generalize w8.drew = w10 at ag HB hHeld ⊢
    refine bL 0 (some 8) HT_ ?_
    refine bL 3 (some 11) HT_ ?_
    refine fI 1 (some 9) HT_ HW_ hHeld ?_
    refine bL 2 (some 10) HT_ ?_
    refine fI 4 (some 12) HT_ HW_ hHeld ?_
    refine iW 5 (some 13) HT_ (fun K hK => ?_)
    refine gX Tryz.func67 #[.int .i64 aA] ?_
    with_reducible refine (strconv_Itoa.calls aA aJ _ A6.out ?gt).mono ?_
    (case gt => exact Go.Proofs.YteidaijpaijgpaaGreatDoorV.GT.below HGT (qw HB))
    rintro e w11 ⟨rfl, hb⟩
    refine ⟨_, rfl, ?_⟩
    replace ag := qbb ag hb
    replace HB := ae.mk (aj (qw HB) hb)
    (try clear hb)
    (try clear hb2)
    (try clear hk)
    (try clear hi)
    refine hK.out _ _ ⟨(af ag.out 0).trans rfl, (af ag.out 1).trans rfl⟩ (fun hHeld => ?_)
    clear hK K
    refine gD (some 13) ?_
    refine bL 6 (some 14) HT_ ?_
    refine bL 7 (some 2) HT_ ?_
    refine jI HT_ ?_
    try go_wp2
    go_ret
    exact ⟨by first | rfl | (simp [errW_none, errW_some] <;> rfl) | (simp [*, errW_none, errW_some] <;> rfl), by repeat (first | (with_reducible first | exact HB.out | apply au | apply ai | apply ak | refine bn ?_ dh.out) | exact HB.out)⟩
   ·rw [if_neg c7] at H
    exact absurd H (by simp)
  ·rw [if_neg c5] at H
   exact absurd H (by simp)
end Go.Proofs.YteidaijpaijgpaaGreatDoor.P
end
section
namespace Go.Proofs.YteidaijpaijgpaaGreatDoor.P
open Go.RowKit Go.Proofs.YteidaijpaijgpaaGreatDoorW.ay Go.Proofs.YteidaijpaijgpaaGreatDoorW.aQ Go.Proofs.YteidaijpaijgpaaGreatDoorW.aZ
attribute [local go_sem] bz bA bP bQ bq bu bB bC
set_option linter.unusedVariables false
set_option linter.unusedSimpArgs false
def eD.l0 : Nat → List ByteArray → List (S55) → Int → Int → Option (List ByteArray)
 | 0, _, _, _, _ => none
 | k + 1, x5, x11, x12, x13 => if x13 < x12 then (if 0 ≤ x13 then (if x13 < (x11.length : Int) then ((iC.f ((iq x11 x13).f0) ((iq x11 x13).f1)).bind fun bG => (if x13 < (x5.length : Int) then (eD.l0 k (x5.set (x13 : Int).toNat bG) x11 x12 (wrap64 (x13 + 1))) else (none))) else (none)) else (none)) else (some x5)
def eD.f (k : Nat) (l0 : List (S55)) (a1 : Bool) : Option (List ByteArray) := if 0 ≤ (l0.length : Int) then (if ((l0.length : Int) : Int).toNat ≤ 17592186044416 then (eD.l0 k (List.replicate ((l0.length : Int) : Int).toNat (⟨#[]⟩ : ByteArray)) l0 (l0.length : Int) 0) else (none)) else (none)
theorem eD.dF : ∀ k, (∀ y0 y1 y2 y3, LeO (eD.l0 k y0 y1 y2 y3) (eD.l0 (k + 1) y0 y1 y2 y3))
 | 0 => fun _ _ _ _ r h => by simp [eD.l0] at h
 | k + 1 => by
  have ih0 := eD.dF k
  ·intro y0 y1 y2 y3
   unfold eD.l0
   repeat' first
   | (with_reducible exact ih0 _ _ _ _)
   | (with_reducible exact LeO.refl _)
   | (with_reducible exact LeO.none _)
   | (with_reducible refine LeO.ite ?_ ?_)
   | (with_reducible refine LeO.bind ?_ (fun _ => ?_))
   | exact ih0 _ _ _ _
   | exact LeO.none _
   | refine LeO.ite ?_ ?_
   | refine LeO.bind ?_ (fun _ => ?_)
theorem eD.mono : ∀ a0 a1 k, LeO (eD.f k a0 a1) (eD.f (k + 1) a0 a1) := by
 intro a0 a1 k
 have ih0 := eD.dF k
 unfold eD.f
 repeat' first
   | (with_reducible exact ih0 _ _ _ _)
   | (with_reducible exact LeO.refl _)
   | (with_reducible exact LeO.none _)
   | (with_reducible refine LeO.ite ?_ ?_)
   | (with_reducible refine LeO.bind ?_ (fun _ => ?_))
   | exact ih0 _ _ _ _
   | exact LeO.none _
   | refine LeO.ite ?_ ?_
   | refine LeO.bind ?_ (fun _ => ?_)
set_option maxHeartbeats 8000000 in
set_option maxRecDepth 100000 in
theorem eD.calls (k : Nat) (A0 : Option Addr) (c0 : Nat) (l0 : List (S55)) (a1 : Bool) (r : List ByteArray) (w : World) (hr0 : Kd.C k55 w A0 l0.length l0) (hc0 : l0.length ≤ c0) (h : eD.f k l0 a1 = some r) (HGT : ae (Go.Proofs.YteidaijpaijgpaaGreatDoorV.GT w)) :
  Calls Tryz.prog 68 #[.slice A0 l0.length c0, .func (.func 69) #[] #[]] w fun e w' => ∃ v0_ : Value, e = .returned (v0_) ∧ Kd.R Kd.string 9 w' w.heap.size (fun _ => True) v0_ r ∧ Below w.heap.size w w' := by
 have hu55 := Tryz.underlying55
 have HR0 := ae.mk hr0
 have HC0 := ae.mk hc0
 clear hr0 hc0
 have HB := ae.mk (Below.refl w.heap.size w)
 have H : (if 0 ≤ (l0.length : Int) then (if ((l0.length : Int) : Int).toNat ≤ 17592186044416 then (eD.l0 k (List.replicate ((l0.length : Int) : Int).toNat (⟨#[]⟩ : ByteArray)) l0 (l0.length : Int) 0) else (none)) else (none)) = some r := h
 clear h
 by_cases c3 : 0 ≤ (l0.length : Int)
 ·rw [if_pos c3] at H
  have gN := eq_true c3
  have jk : decide (0 ≤ (l0.length : Int)) = true := decide_eq_true c3
  clear c3
  by_cases c4 : ((l0.length : Int) : Int).toNat ≤ 17592186044416
  ·rw [if_pos c4] at H
   have iQ := eq_true c4
   have jv : decide (((l0.length : Int) : Int).toNat ≤ 17592186044416) = true := decide_eq_true c4
   clear c4
   obtain ⟨y101, hy101⟩ : ∃ y_ : List ByteArray, y_ = (List.replicate ((l0.length : Int) : Int).toNat (⟨#[]⟩ : ByteArray)) := ⟨_, rfl⟩
   replace H : (eD.l0 k y101 l0 (l0.length : Int) 0) = some r := by first | (rw [hy101]; with_reducible exact H) | (have H2_ := (Option.bind_some _ _).symm.trans H; rw [hy101]; with_reducible exact H2_) | (have H2_ := (Option.bind_some _ _).symm.trans H; with_reducible exact H2_) | with_reducible exact H | (rw [hy101]; exact H) | exact H
   have Ny101 := ae.mk hy101
   clear hy101
   have H' := ae.mk H
   clear H
   go_enter Tryz.func68, Tryz.ntmps68
   go_wp2_with (first | ((with_reducible refine bg (N := 10) rfl ?_); refine Kd.kC Kd.string _ 9 rfl (N := 10) rfl 40 _ _ rfl (l0.length : Int) rfl rfl Tryz.underlying40 (.string ⟨#[]⟩) 16 nC rfl (by decide) (by omega) (⟨#[]⟩ : ByteArray) (ok := fun _ => True) (okp := fun _ => True) rfl (fun _ hk => hk) trivial (of_decide_eq_true qa) (Nat.le_trans (Nat.mul_le_mul_right _ (of_decide_eq_true qa : (l0.length : Int).toNat ≤ 17592186044416)) (by omega)) (Below.refl _ _) (Nat.le_refl _) ?_; intro v102 w5 ho6 hb hg_ hnew_; clear hg_ hnew_; (first | rw [← Ny101.out] at ho6 | (simp only [Int.reduceToNat] at ho6; rw [← Ny101.out] at ho6)); have eX := ae.mk (Kd.dI ho6 (bi (qw HB))); replace HB := ae.mk (aj (qw HB) hb); clear hb ho6))
   go_loopg [13] k (fun kq v13 w' => ∃ (cZ : List ByteArray) (ax : Int), v13 = .int .i64 ax ∧ ae (eD.l0 kq cZ l0 (l0.length : Int) ax = some r) ∧ ae (kq ≤ k) ∧ ae (Kd.R Kd.string 9 w' w.heap.size (fun _ => True) v102 cZ) ∧ ae (Below w.heap.size w w'))
   case atStart => exact ⟨(y101), (0), (by first | rfl | (simp; done) | (simp [*]; done)), H', ⟨Nat.le_refl _⟩, ⟨by (with_reducible repeat (first | apply Kd.di | apply Kd.dm | apply Kd.dR)); exact eX.out⟩, ⟨by repeat (first | (with_reducible first | exact HB.out | apply au | apply ai | apply ak) | exact HB.out)⟩⟩
   case round =>
    clear H'
    try clear p2
    try clear c3
    try clear gN
    try clear jk
    try clear c4
    try clear iQ
    try clear jv
    try clear c6
    obtain ⟨cZ, ax, rfl, HA, HK1, bM, HB⟩ := hrel
    cases gk with
    | zero => exact absurd HA.out (by simp [eD.l0])
    | succ k1 =>
     have H := HA.out
     clear HA
     simp only [eD.l0] at H
     by_cases c7 : ax < (l0.length : Int)
     ·rw [if_pos c7] at H
      have jg : decide (ax < (l0.length : Int)) = true := decide_eq_true c7
      clear c7
      by_cases c8 : 0 ≤ ax
      ·rw [if_pos c8] at H
       have kK : decide (0 ≤ ax) = true := decide_eq_true c8
       clear c8
       by_cases c9 : ax < (l0.length : Int)
       ·rw [if_pos c9] at H
        have lT : decide (ax < (l0.length : Int)) = true := decide_eq_true c9
        clear c9
        replace H := Option.bind_eq_some_iff.mp H
        obtain ⟨bG, A100, H⟩ := H
        replace H : (if ax < (cZ.length : Int) then (eD.l0 k1 (cZ.set (ax : Int).toNat bG) l0 (l0.length : Int) (wrap64 (ax + 1))) else (none)) = some r := H
        have A10 := ae.mk A100
        clear A100
        by_cases c11 : ax < (cZ.length : Int)
        ·rw [if_pos c11] at H
         have lq : decide (ax < (cZ.length : Int)) = true := decide_eq_true c11
         clear c11
         obtain ⟨y107, hy107⟩ : ∃ y_ : List ByteArray, y_ = (cZ.set (ax : Int).toNat bG) := ⟨_, rfl⟩
         replace H : (eD.l0 k1 y107 l0 (l0.length : Int) (wrap64 (ax + 1))) = some r := by first | (rw [hy107]; with_reducible exact H) | (have H2_ := (Option.bind_some _ _).symm.trans H; rw [hy107]; with_reducible exact H2_) | (have H2_ := (Option.bind_some _ _).symm.trans H; with_reducible exact H2_) | with_reducible exact H | (rw [hy107]; exact H) | exact H
         have Ny107 := ae.mk hy107
         clear hy107
         have H' := ae.mk H
         clear H
         have p104 : 0 ≤ (ax : Int) := of_decide_eq_true qa
         have q104 : ax < (l0.length : Int) := of_decide_eq_true qa
         obtain ⟨ad104, e104, hx104_0, hx104_1⟩ := sZ HR0.out ax p104 q104
         cases e104
         replace hx104_0 := (HB.out.cell (World.block_lt_of_cell? w _ hx104_0)).trans hx104_0
         replace hx104_1 := (HB.out.cell (World.block_lt_of_cell? w _ hx104_1)).trans hx104_1
         replace p104 := eq_true p104
         replace q104 := eq_true q104
         go_wp2_with (first | ((with_reducible refine bg (N := 7) rfl ?_); refine bE ?hg (N := 7) ?hd (cs := #[.string (⟨#[]⟩ : ByteArray), .int .i64 0]) (t := 55) ?hr ?_; (case hd => rfl); (case hg => rfl); (case hr => first | (go_simp; done) | (go_simp; rfl)); intro eB hg w13 hbox hb; replace bM := ae.mk (Kd.bD (qr bM) hb); have cO := ae.mk (hbox); have GW105 := qge HB hg; have lu := qge HB hg; replace HB := ae.mk (aj (qw HB) hb); clear hb hbox hg; have hcz14_0 : w13.cell? ⟨eB, 0, none⟩ = some (.string (⟨#[]⟩ : ByteArray)) := (af cO.out 0).trans rfl; have hcz14_1 : w13.cell? ⟨eB, 1, none⟩ = some (.int .i64 0) := (af cO.out 1).trans rfl; have hfz14_0 := ah cO.out 0; have hfz14_1 := ah cO.out 1) | ((with_reducible refine Go.Proofs.YteidaijpaijgpaaGreatDoorV.eG (s := 20) rfl ?_); refine Go.Proofs.YteidaijpaijgpaaGreatDoorV.gW (some 22) rfl rfl Tryz.func69 (by kernel_rfl) rfl #[.agg #[.string ((iq l0 ax).f0), .int .i64 ((iq l0 ax).f1)]] rfl qt ?_; (with_reducible refine (iC.calls ((iq l0 ax).f0) ((iq l0 ax).f1) bG _ A10.out ?gt).mono ?_); (case gt => exact Go.Proofs.YteidaijpaijgpaaGreatDoorV.GT.below HGT (qw HB)); rintro e w15 ⟨rfl, hb⟩; refine ⟨_, rfl, ?_⟩; replace bM := ae.mk (Kd.bD (by (with_reducible repeat (first | apply Kd.di | apply Kd.dm | apply Kd.dR)); exact (Kd.gu (Kd.iI (p := ⟨eB, 1, none⟩) (Kd.iI (p := ⟨eB, 0, none⟩) (Kd.lC bM.out cO.out (by decide)) (fun _ hk => hk.2) (.string ((iq l0 ax).f0))) (fun _ hk => hk.2) (.int .i64 ((iq l0 ax).f1))) (fun _ h_ => h_.1))) hb); replace cO := ae.mk (ji (g := eB) (o := .cells #[.string ((iq l0 ax).f0), .int .i64 ((iq l0 ax).f1)] 55 (0, 0)) (by refine dL (cs := #[.string ((iq l0 ax).f0), .int .i64 0]) ?_ 1 _ rfl; refine dL (cs := #[.string (⟨#[]⟩ : ByteArray), .int .i64 0]) ?_ 0 _ rfl; (with_reducible repeat (first | refine gz ?_ _ | refine dQ ?_ | refine gy ?_ _)); exact cO.out) hb); replace HB := ae.mk (aj (qw HB) hb); (try clear hb); (try clear hb2); (try clear hk); (try clear hi); have p12 : 0 ≤ (ax : Int) := of_decide_eq_true qa; have q12 : (ax : Int) < ((cZ.length : Int) : Int) := of_decide_eq_true qa; obtain ⟨go12, kF, jr, kG, gl12, cl12, HG12⟩ := Kd.kz bM.out (by omega); (first | cases jr | (injection jr with ea_ en_ ec_; (first | subst ea_ | (injection ea_ with ea_; subst ea_)); subst ec_; clear en_)); have mZ := ae.mk kG; have GG12 := ae.mk HG12; clear kG gl12 HG12; obtain ⟨hx12_0, hf12_0⟩ := Kd.ib (⟨#[]⟩ : ByteArray) bM.out (ax : Int) p12 q12; replace p12 := eq_true p12; replace q12 := eq_true q12; obtain ⟨hy16_, hz16_⟩ := Kd.ib (⟨#[]⟩ : ByteArray) bM.out (ax : Int) (of_decide_eq_true qa) (of_decide_eq_true qa); have HP16 := Kd.kD bM.out (ax : Int) bG) | ((with_reducible refine iD (t := 9) (p := 23) rfl ?_); refine ic (t := 9) (p := 23) (v := ?vo_w17) (w1 := (w15.setCell ⟨go12, (ax : Int).toNat, none⟩ (.string bG))) ?hg ?ho ?hn ?hr ?_; (case ho => rfl); (case hg => rfl); (case hn => rfl); (case hr => first | (go_simp; done) | (go_simp; rfl)); intro w17 hw; have hg : w15.grownBy w17 (some go12) := (by rw [hw]; exact HP16.2); have hp_ : Kd.R Kd.string 9 w17 w.heap.size (fun _ => True) (.slice (some ⟨go12, 0, none⟩) cZ.length kF) y107 := (by rw [hw, Ny107.out]; exact HP16.1); clear HP16; replace cO := ae.mk (jO (g := eB) (o := .cells #[.string ((iq l0 ax).f0), .int .i64 ((iq l0 ax).f1)] 55 (0, 0)) (qb cO) hg (Kd.sN bM.out cO.out (by decide))); replace bM := ae.mk (hp_); replace HB := ae.mk ((by rw [hw]; exact bn (HB.out) mZ.out : Below w.heap.size w w17)); clear hg hw hp_))
         go_roundg k1
         case measure => have := HK1.out; omega
         case rel => exact ⟨(y107), (wrap64 (ax + 1)), (by first | rfl | (simp; done) | (simp [*]; done)), H', ⟨by have := HK1.out; omega⟩, ⟨by (with_reducible repeat (first | apply Kd.di | apply Kd.dm | apply Kd.dR)); exact bM.out⟩, ⟨by repeat (first | (with_reducible first | exact HB.out | apply au | apply ai | apply ak | refine bn ?_ lu.out) | exact HB.out)⟩⟩
        ·rw [if_neg c11] at H
         exact absurd H (by simp)
       ·rw [if_neg c9] at H
        exact absurd H (by simp)
      ·rw [if_neg c8] at H
       exact absurd H (by simp)
     ·rw [if_neg c7] at H
      have jg : decide (ax < (l0.length : Int)) = false := decide_eq_false c7
      clear c7
      obtain rfl := Option.some.inj H
      go_wp2
      go_ret
      exact ⟨_, by first | rfl | (simp [errW_none, errW_some] <;> rfl) | (simp [*, errW_none, errW_some] <;> rfl), by (with_reducible repeat (first | apply Kd.di | apply Kd.dm | apply Kd.dR)); exact bM.out, by repeat (first | (with_reducible first | exact HB.out | apply au | apply ai | apply ak) | exact HB.out)⟩
  ·rw [if_neg c4] at H
   exact absurd H (by simp)
 ·rw [if_neg c3] at H
  exact absurd H (by simp)
end Go.Proofs.YteidaijpaijgpaaGreatDoor.P
end
section
namespace Go.Proofs.YteidaijpaijgpaaGreatDoor.P
open Go.RowKit Go.Proofs.YteidaijpaijgpaaGreatDoorW.ay Go.Proofs.YteidaijpaijgpaaGreatDoorW.aQ Go.Proofs.YteidaijpaijgpaaGreatDoorW.aZ
attribute [local go_sem] bz bA bP bQ bq bu bB bC
set_option linter.unusedVariables false
set_option linter.unusedSimpArgs false
def gT.f (k : Nat) (l0 : List (S55)) : Option (ByteArray) := (eD.f k l0 wI).bind fun bR => ((strings_Join.f bR (⟨#[44, 32]⟩ : ByteArray)).bind fun bH => (some bH))
theorem gT.mono : ∀ a0 k, LeO (gT.f k a0) (gT.f (k + 1) a0) := by
 intro a0 k
 unfold gT.f
 repeat' first
   | (with_reducible exact eD.mono _ _ _)
   | (with_reducible exact LeO.refl _)
   | (with_reducible exact LeO.none _)
   | (with_reducible refine LeO.ite ?_ ?_)
   | (with_reducible refine LeO.bind ?_ (fun _ => ?_))
   | exact eD.mono _ _ _
   | exact LeO.none _
   | refine LeO.ite ?_ ?_
   | refine LeO.bind ?_ (fun _ => ?_)
set_option maxHeartbeats 8000000 in
set_option maxRecDepth 100000 in
theorem gT.calls (k : Nat) (A0 : Option Addr) (c0 : Nat) (l0 : List (S55)) (r : ByteArray) (w : World) (hr0 : Kd.C k55 w A0 l0.length l0) (hc0 : l0.length ≤ c0) (h : gT.f k l0 = some r) (HGT : ae (Go.Proofs.YteidaijpaijgpaaGreatDoorV.GT w)) :
  Calls Tryz.prog 36 #[.slice A0 l0.length c0] w fun e w' => e = .returned (.string r) ∧ Below w.heap.size w w' := by
 have HR0 := ae.mk hr0
 have HC0 := ae.mk hc0
 clear hr0 hc0
 have HB := ae.mk (Below.refl w.heap.size w)
 have H : ((eD.f k l0 wI).bind fun bR => ((strings_Join.f bR (⟨#[44, 32]⟩ : ByteArray)).bind fun bH => (some bH))) = some r := h
 clear h
 replace H := Option.bind_eq_some_iff.mp H
 obtain ⟨bR, A20, H⟩ := H
 replace H : ((strings_Join.f bR (⟨#[44, 32]⟩ : ByteArray)).bind fun bH => (some bH)) = some r := H
 have A2 := ae.mk A20
 clear A20
 replace H := Option.bind_eq_some_iff.mp H
 obtain ⟨bH, A30, H⟩ := H
 replace H : (some bH) = some r := H
 have A3 := ae.mk A30
 clear A30
 obtain rfl := Option.some.inj H
 go_enter Tryz.func36, Tryz.ntmps36
 go_wp2_with (first | ((with_reducible refine aH (f := 68) rfl ?_); refine bN (some 4) rfl rfl Tryz.func68 (by kernel_rfl) rfl #[.slice A0 l0.length c0, .func (.func 69) #[] #[]] rfl qt ?_; (with_reducible refine (eD.calls k _ _ l0 wI bR _ ?aX ?aY A2.out ?gt).mono ?_); (case gt => exact Go.Proofs.YteidaijpaijgpaaGreatDoorV.GT.below HGT (qw HB)); (case aX => exact qs (HR0.out)); (case aY => exact HC0.out); rintro e w4 ⟨v102, rfl, ho0, hb⟩; refine ⟨_, rfl, ?_⟩; have eX := ae.mk (Kd.dI ho0 (bi (qw HB))); replace HB := ae.mk (aj (qw HB) hb); (try clear hb); (try clear hb2); (try clear hk); (try clear hi); (try clear ho0); obtain ⟨Ao5, co5, eo5⟩ := Kd.dM eX.out; subst eo5) | ((with_reducible refine aH (f := 26) rfl ?_); refine bN (some 5) rfl rfl Tryz.func26 (by kernel_rfl) rfl #[.slice Ao5 bR.length co5, .string (⟨#[44, 32]⟩ : ByteArray)] rfl qt ?_; (with_reducible refine (strings_Join.calls _ _ bR (⟨#[44, 32]⟩ : ByteArray) bH _ ?aX ?aY A3.out).mono ?_); (case aX => exact qs ((Kd.aV eX.out).2.2)); (case aY => exact (Kd.aV eX.out).2.1); rintro e w6 ⟨rfl, hb⟩; refine ⟨_, rfl, ?_⟩; replace eX := ae.mk (Kd.bD (qr eX) hb); replace HB := ae.mk (aj (qw HB) hb); (try clear hb); (try clear hb2); (try clear hk); (try clear hi)))
 go_ret
 exact ⟨by first | rfl | (simp [errW_none, errW_some] <;> rfl) | (simp [*, errW_none, errW_some] <;> rfl), by repeat (first | (with_reducible first | exact HB.out | apply au | apply ai | apply ak) | exact HB.out)⟩
end Go.Proofs.YteidaijpaijgpaaGreatDoor.P
end
section
namespace Go.Proofs.YteidaijpaijgpaaGreatDoor.P
open Go.RowKit Go.Proofs.YteidaijpaijgpaaGreatDoorW.ay Go.Proofs.YteidaijpaijgpaaGreatDoorW.aQ Go.Proofs.YteidaijpaijgpaaGreatDoorW.aZ
attribute [local go_sem] bz bA bP bQ bq bu bB bC
set_option linter.unusedVariables false
set_option linter.unusedSimpArgs false
def dN.l0 : Nat → List ByteArray → List (List (S55)) → Int → Int → Option (List ByteArray)
 | 0, _, _, _, _ => none
 | k + 1, x5, x11, x12, x13 => if x13 < x12 then (if 0 ≤ x13 then (if x13 < (x11.length : Int) then ((gT.f k (lM x11 x13)).bind fun t105 => (if x13 < (x5.length : Int) then (dN.l0 k (x5.set (x13 : Int).toNat t105) x11 x12 (wrap64 (x13 + 1))) else (none))) else (none)) else (none)) else (some x5)
def dN.f (k : Nat) (l0 : List (List (S55))) (a1 : Bool) : Option (List ByteArray) := if 0 ≤ (l0.length : Int) then (if ((l0.length : Int) : Int).toNat ≤ 17592186044416 then (dN.l0 k (List.replicate ((l0.length : Int) : Int).toNat (⟨#[]⟩ : ByteArray)) l0 (l0.length : Int) 0) else (none)) else (none)
theorem dN.dF : ∀ k, (∀ y0 y1 y2 y3, LeO (dN.l0 k y0 y1 y2 y3) (dN.l0 (k + 1) y0 y1 y2 y3))
 | 0 => fun _ _ _ _ r h => by simp [dN.l0] at h
 | k + 1 => by
  have ih0 := dN.dF k
  ·intro y0 y1 y2 y3
   unfold dN.l0
   repeat' first
   | (with_reducible exact ih0 _ _ _ _)
   | (with_reducible exact gT.mono _ _)
   | (with_reducible exact LeO.refl _)
   | (with_reducible exact LeO.none _)
   | (with_reducible refine LeO.ite ?_ ?_)
   | (with_reducible refine LeO.bind ?_ (fun _ => ?_))
   | exact ih0 _ _ _ _
   | exact gT.mono _ _
   | exact LeO.none _
   | refine LeO.ite ?_ ?_
   | refine LeO.bind ?_ (fun _ => ?_)
theorem dN.mono : ∀ a0 a1 k, LeO (dN.f k a0 a1) (dN.f (k + 1) a0 a1) := by
 intro a0 a1 k
 have ih0 := dN.dF k
 unfold dN.f
 repeat' first
   | (with_reducible exact ih0 _ _ _ _)
   | (with_reducible exact gT.mono _ _)
   | (with_reducible exact LeO.refl _)
   | (with_reducible exact LeO.none _)
   | (with_reducible refine LeO.ite ?_ ?_)
   | (with_reducible refine LeO.bind ?_ (fun _ => ?_))
   | exact ih0 _ _ _ _
   | exact gT.mono _ _
   | exact LeO.none _
   | refine LeO.ite ?_ ?_
   | refine LeO.bind ?_ (fun _ => ?_)
set_option maxHeartbeats 8000000 in
set_option maxRecDepth 100000 in
theorem dN.calls (k : Nat) (A0 : Option Addr) (c0 : Nat) (l0 : List (List (S55))) (a1 : Bool) (r : List ByteArray) (w : World) (hr0 : Kd.C (Kd.slice 55 k55) w A0 l0.length l0) (hc0 : l0.length ≤ c0) (h : dN.f k l0 a1 = some r) (HGT : ae (Go.Proofs.YteidaijpaijgpaaGreatDoorV.GT w)) :
  Calls Tryz.prog 35 #[.slice A0 l0.length c0, .func (.func 36) #[] #[]] w fun e w' => ∃ v0_ : Value, e = .returned (v0_) ∧ Kd.R Kd.string 9 w' w.heap.size (fun _ => True) v0_ r ∧ Below w.heap.size w w' := by
 have HR0 := ae.mk hr0
 have HC0 := ae.mk hc0
 clear hr0 hc0
 have HB := ae.mk (Below.refl w.heap.size w)
 have H : (if 0 ≤ (l0.length : Int) then (if ((l0.length : Int) : Int).toNat ≤ 17592186044416 then (dN.l0 k (List.replicate ((l0.length : Int) : Int).toNat (⟨#[]⟩ : ByteArray)) l0 (l0.length : Int) 0) else (none)) else (none)) = some r := h
 clear h
 by_cases c3 : 0 ≤ (l0.length : Int)
 ·rw [if_pos c3] at H
  have gN := eq_true c3
  have jk : decide (0 ≤ (l0.length : Int)) = true := decide_eq_true c3
  clear c3
  by_cases c4 : ((l0.length : Int) : Int).toNat ≤ 17592186044416
  ·rw [if_pos c4] at H
   have iQ := eq_true c4
   have jv : decide (((l0.length : Int) : Int).toNat ≤ 17592186044416) = true := decide_eq_true c4
   clear c4
   obtain ⟨y101, hy101⟩ : ∃ y_ : List ByteArray, y_ = (List.replicate ((l0.length : Int) : Int).toNat (⟨#[]⟩ : ByteArray)) := ⟨_, rfl⟩
   replace H : (dN.l0 k y101 l0 (l0.length : Int) 0) = some r := by first | (rw [hy101]; with_reducible exact H) | (have H2_ := (Option.bind_some _ _).symm.trans H; rw [hy101]; with_reducible exact H2_) | (have H2_ := (Option.bind_some _ _).symm.trans H; with_reducible exact H2_) | with_reducible exact H | (rw [hy101]; exact H) | exact H
   have Ny101 := ae.mk hy101
   clear hy101
   have H' := ae.mk H
   clear H
   go_enter Tryz.func35, Tryz.ntmps35
   go_wp2_with (first | ((with_reducible refine bg (N := 10) rfl ?_); refine Kd.kC Kd.string _ 9 rfl (N := 10) rfl 40 _ _ rfl (l0.length : Int) rfl rfl Tryz.underlying40 (.string ⟨#[]⟩) 16 nC rfl (by decide) (by omega) (⟨#[]⟩ : ByteArray) (ok := fun _ => True) (okp := fun _ => True) rfl (fun _ hk => hk) trivial (of_decide_eq_true qa) (Nat.le_trans (Nat.mul_le_mul_right _ (of_decide_eq_true qa : (l0.length : Int).toNat ≤ 17592186044416)) (by omega)) (Below.refl _ _) (Nat.le_refl _) ?_; intro v102 w5 ho6 hb hg_ hnew_; clear hg_ hnew_; (first | rw [← Ny101.out] at ho6 | (simp only [Int.reduceToNat] at ho6; rw [← Ny101.out] at ho6)); have eX := ae.mk (Kd.dI ho6 (bi (qw HB))); replace HB := ae.mk (aj (qw HB) hb); clear hb ho6))
   go_loopg [13] k (fun kq v13 w' => ∃ (cZ : List ByteArray) (ax : Int), v13 = .int .i64 ax ∧ ae (dN.l0 kq cZ l0 (l0.length : Int) ax = some r) ∧ ae (kq ≤ k) ∧ ae (Kd.R Kd.string 9 w' w.heap.size (fun _ => True) v102 cZ) ∧ ae (Below w.heap.size w w'))
   case atStart => exact ⟨(y101), (0), (by first | rfl | (simp; done) | (simp [*]; done)), H', ⟨Nat.le_refl _⟩, ⟨by (with_reducible repeat (first | apply Kd.di | apply Kd.dm | apply Kd.dR)); exact eX.out⟩, ⟨by repeat (first | (with_reducible first | exact HB.out | apply au | apply ai | apply ak) | exact HB.out)⟩⟩
   case round =>
    clear H'
    try clear p2
    try clear c3
    try clear gN
    try clear jk
    try clear c4
    try clear iQ
    try clear jv
    obtain ⟨cZ, ax, rfl, HA, HK1, bM, HB⟩ := hrel
    cases gk with
    | zero => exact absurd HA.out (by simp [dN.l0])
    | succ k1 =>
     have H := HA.out
     clear HA
     simp only [dN.l0] at H
     by_cases c7 : ax < (l0.length : Int)
     ·rw [if_pos c7] at H
      have jg : decide (ax < (l0.length : Int)) = true := decide_eq_true c7
      clear c7
      by_cases c8 : 0 ≤ ax
      ·rw [if_pos c8] at H
       have kK : decide (0 ≤ ax) = true := decide_eq_true c8
       clear c8
       by_cases c9 : ax < (l0.length : Int)
       ·rw [if_pos c9] at H
        have lT : decide (ax < (l0.length : Int)) = true := decide_eq_true c9
        clear c9
        replace H := Option.bind_eq_some_iff.mp H
        obtain ⟨t105, A100, H⟩ := H
        replace H : (if ax < (cZ.length : Int) then (dN.l0 k1 (cZ.set (ax : Int).toNat t105) l0 (l0.length : Int) (wrap64 (ax + 1))) else (none)) = some r := H
        have A10 := ae.mk A100
        clear A100
        by_cases c11 : ax < (cZ.length : Int)
        ·rw [if_pos c11] at H
         have lq : decide (ax < (cZ.length : Int)) = true := decide_eq_true c11
         clear c11
         obtain ⟨y106, hy106⟩ : ∃ y_ : List ByteArray, y_ = (cZ.set (ax : Int).toNat t105) := ⟨_, rfl⟩
         replace H : (dN.l0 k1 y106 l0 (l0.length : Int) (wrap64 (ax + 1))) = some r := by first | (rw [hy106]; with_reducible exact H) | (have H2_ := (Option.bind_some _ _).symm.trans H; rw [hy106]; with_reducible exact H2_) | (have H2_ := (Option.bind_some _ _).symm.trans H; with_reducible exact H2_) | with_reducible exact H | (rw [hy106]; exact H) | exact H
         have Ny106 := ae.mk hy106
         clear hy106
         have H' := ae.mk H
         clear H
         have p104 : 0 ≤ (ax : Int) := of_decide_eq_true qa
         have q104 : ax < (l0.length : Int) := of_decide_eq_true qa
         obtain ⟨ad104, zB, c104_0, e104, hx104_0, hl104_0, hi104_0⟩ := wu HR0.out ax p104 q104
         cases e104
         replace hx104_0 := (HB.out.cell (World.block_lt_of_cell? w _ hx104_0)).trans hx104_0
         have yC := ae.mk hi104_0
         have yD := ae.mk hl104_0
         clear hi104_0 hl104_0
         replace p104 := eq_true p104
         replace q104 := eq_true q104
         go_wp2_with (first | ((with_reducible refine Go.Proofs.YteidaijpaijgpaaGreatDoorV.eG (s := 20) rfl ?_); refine Go.Proofs.YteidaijpaijgpaaGreatDoorV.gW (some 22) rfl rfl Tryz.func36 (by kernel_rfl) rfl #[.slice zB (lM l0 ax).length c104_0] rfl qt ?_; (with_reducible refine (gT.calls k1 _ _ (lM l0 ax) t105 _ ?aX ?aY A10.out ?gt).mono ?_); (case gt => exact Go.Proofs.YteidaijpaijgpaaGreatDoorV.GT.below HGT (qw HB)); (case aX => exact qs ((Kd.dC yC.out HB.out))); (case aY => exact yD.out); rintro e w13 ⟨rfl, hb⟩; refine ⟨_, rfl, ?_⟩; replace bM := ae.mk (Kd.bD (qr bM) hb); replace HB := ae.mk (aj (qw HB) hb); (try clear hb); (try clear hb2); (try clear hk); (try clear hi); have p12 : 0 ≤ (ax : Int) := of_decide_eq_true qa; have q12 : (ax : Int) < ((cZ.length : Int) : Int) := of_decide_eq_true qa; obtain ⟨go12, kF, jr, kG, gl12, cl12, HG12⟩ := Kd.kz bM.out (by omega); (first | cases jr | (injection jr with ea_ en_ ec_; (first | subst ea_ | (injection ea_ with ea_; subst ea_)); subst ec_; clear en_)); have mZ := ae.mk kG; have GG12 := ae.mk HG12; clear kG gl12 HG12; obtain ⟨hx12_0, hf12_0⟩ := Kd.ib (⟨#[]⟩ : ByteArray) bM.out (ax : Int) p12 q12; replace p12 := eq_true p12; replace q12 := eq_true q12; obtain ⟨hy14_, hz14_⟩ := Kd.ib (⟨#[]⟩ : ByteArray) bM.out (ax : Int) (of_decide_eq_true qa) (of_decide_eq_true qa); have HP14 := Kd.kD bM.out (ax : Int) t105) | ((with_reducible refine iD (t := 9) (p := 23) rfl ?_); refine ic (t := 9) (p := 23) (v := ?vo_w15) (w1 := (w13.setCell ⟨go12, (ax : Int).toNat, none⟩ (.string t105))) ?hg ?ho ?hn ?hr ?_; (case ho => rfl); (case hg => rfl); (case hn => rfl); (case hr => first | (go_simp; done) | (go_simp; rfl)); intro w15 hw; have hg : w13.grownBy w15 (some go12) := (by rw [hw]; exact HP14.2); have hp_ : Kd.R Kd.string 9 w15 w.heap.size (fun _ => True) (.slice (some ⟨go12, 0, none⟩) cZ.length kF) y106 := (by rw [hw, Ny106.out]; exact HP14.1); clear HP14; replace bM := ae.mk (hp_); replace HB := ae.mk ((by rw [hw]; exact bn (HB.out) mZ.out : Below w.heap.size w w15)); clear hg hw hp_))
         go_roundg k1
         case measure => have := HK1.out; omega
         case rel => exact ⟨(y106), (wrap64 (ax + 1)), (by first | rfl | (simp; done) | (simp [*]; done)), H', ⟨by have := HK1.out; omega⟩, ⟨by (with_reducible repeat (first | apply Kd.di | apply Kd.dm | apply Kd.dR)); exact bM.out⟩, ⟨by repeat (first | (with_reducible first | exact HB.out | apply au | apply ai | apply ak) | exact HB.out)⟩⟩
        ·rw [if_neg c11] at H
         exact absurd H (by simp)
       ·rw [if_neg c9] at H
        exact absurd H (by simp)
      ·rw [if_neg c8] at H
       exact absurd H (by simp)
     ·rw [if_neg c7] at H
      have jg : decide (ax < (l0.length : Int)) = false := decide_eq_false c7
      clear c7
      obtain rfl := Option.some.inj H
      go_wp2
      go_ret
      exact ⟨_, by first | rfl | (simp [errW_none, errW_some] <;> rfl) | (simp [*, errW_none, errW_some] <;> rfl), by (with_reducible repeat (first | apply Kd.di | apply Kd.dm | apply Kd.dR)); exact bM.out, by repeat (first | (with_reducible first | exact HB.out | apply au | apply ai | apply ak) | exact HB.out)⟩
  ·rw [if_neg c4] at H
   exact absurd H (by simp)
 ·rw [if_neg c3] at H
  exact absurd H (by simp)
end Go.Proofs.YteidaijpaijgpaaGreatDoor.P
end
