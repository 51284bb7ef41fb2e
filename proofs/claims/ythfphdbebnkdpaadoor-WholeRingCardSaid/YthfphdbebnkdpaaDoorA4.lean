/- WholeRing's tied card: for every three whole numbers (whatever signs and limbs) the law answers true, and its arguments read as before; the two listed tables of unicode/utf8 are tied to the program's text (their look is the given tie's). -/
import Derived.Below
import Derived.Deep.Draws
import Derived.Deep.AppendLies
import Derived.Maps.AppendAt
import Derived.OwnWalk
import Derived.Laws.BytesArg
import Derived.Laws.MakeOwn
import Derived.Laws.OwnMore
import Derived.Deep.OwnRows
import Derived.Tactics
import Derived.Lib.ConvBytes
import Derived.Laws.Slices
import Derived.WalkKit
import Derived.KernelRfl
import Derived.RowKit3
import Derived.Deep.LoopGhost
import Derived.Deep.QuietTactic
import Derived.BigQuiet
import Derived.WideLaws
import Derived.Deep.DeepCutAuto
import Derived.Deep.CutBlock
import Derived.Deep.RegionHeld3
import Derived.Laws.Rows
import Derived.Lib.AppendStr
import Derived.ArgAppend
import Derived.Laws.IdiomCopy
import Derived.RowKit
import Derived.OrdersHeld
import Derived.Laws.BitsLemmas
import Derived.Test.YthfphdbebnkdpaaDoorRows
import Derived.PinnedBridge
import Derived.Lib.LaidU8
import Derived.LaidHandle
import Derived.LaidLaws
import Derived.ProofKit
import Derived.Laws.StructEq
import Derived.Test.YthfphdbebnkdpaaDoorProg
import Derived.Laws.CopyOwn
import Derived.Lib.Builder
import Derived.Laws.Bits64
import Derived.Lib.Hide
import Derived.Shelf.Strings.Builder1
import Derived.Shelf.Strings.Builder2
import Derived.Shelf.Strings.OnBuilder
import Derived.Shelf.Strings.Trim
import Derived.Shelf.Small.Utf8
import Derived.Shelf.Small.Strs
import Derived.Shelf.Strings.BuilderF
import Derived.Shelf.Strings.BuilderK
import Derived.Shelf.Strings.Builder2Cap
import Derived.Shelf.Strings.Search1
import Derived.Shelf.Strings.Search2
import Derived.Shelf.Strings.Cut
import Derived.Shelf.LaysM
import Derived.Shelf.Strings.Shaped
import Derived.Shelf.Strings.Runes
import Derived.Shelf.Strings.AsciiSet
import Derived.Shelf.Unicode.DecodeSlow
import Derived.Shelf.Strings.BuilderCap
import Derived.OpenShut
import Derived.ShutString
import Derived.ChangeOld
import Derived.Carry
import Derived.SizedLaws
import Derived.Lib.SmallJoins
import Derived.Test.YthfphdbebnkdpaaDoorCards
import Derived.Test.YthfphdbebnkdpaaDoorTie
import Derived.SevenTiedAt
import Derived.Test.YthfphdbebnkdpaaDoorA0
import Derived.Test.YthfphdbebnkdpaaDoorA1
import Derived.Test.YthfphdbebnkdpaaDoorA2
import Derived.Test.YthfphdbebnkdpaaDoorA3
section
namespace Go.Proofs.YthfphdbebnkdpaaDoor.P
open Go.RowKit Go.Proofs.YthfphdbebnkdpaaDoorW.aZ Go.Proofs.YthfphdbebnkdpaaDoorW.bL Go.Proofs.YthfphdbebnkdpaaDoorW.dC
attribute [local go_sem] dZ d9 fA fB dH dI ed ek
set_option linter.unusedVariables false
set_option linter.unusedSimpArgs false
mutual
def ag.j0 : Nat → Bool → Bool → List Int → Bool → List Int → Bool → List Int → Option (Bool)
 | 0, _, _, _, _, _, _, _ => none
 | k + 1, x43, kK, mg, jZ, j3, zt, zu => if x43 = true then (some false) else ((bE.f k jZ j3 zt zu).bind fun xL => ((bC.f k kK mg xL.1 xL.2).bind fun tZ => ((bC.f k kK mg jZ j3).bind fun qX => ((bC.f k kK mg zt zu).bind fun pJ => ((bE.f k qX.1 qX.2 pJ.1 pJ.2).bind fun ol => ((aR.f k tZ.1 tZ.2 ol.1 ol.2).bind fun t171 => (if t171 = true then ((bE.f k kK mg jZ j3).bind fun kV => ((jD.f k kV.1 kV.2 jZ j3).bind fun kw => ((aR.f k kw.1 kw.2 kK mg).bind fun oO => (if oO = true then ((dn.f k kK mg jZ j3).bind fun nG => ((dn.f k jZ j3 kK mg).bind fun t182 => (ag.j1 k (nG != (wrap64 (-t182))) kK mg jZ j3))) else (ag.j1 k true kK mg jZ j3))))) else (ag.j1 k true kK mg jZ j3))))))))
def ag.j1 : Nat → Bool → Bool → List Int → Bool → List Int → Option (Bool)
 | 0, _, _, _, _, _ => none
 | k + 1, x77, kK, mg, jZ, j3 => if x77 = true then (some false) else ((dB.f k kK mg jZ j3).bind fun mG => (if mG.2.2.2.2 = 0 then ((bC.f k mG.1 mG.2.1 jZ j3).bind fun uf => ((bE.f k uf.1 uf.2 mG.2.2.1 mG.2.2.2.1).bind fun qY => ((aR.f k qY.1 qY.2 kK mg).bind fun uA => (if uA = true then ((dE.f mG.2.2.1 mG.2.2.2.1).bind fun t203 => (if t203 = 0 then ((aX.f k false mG.2.2.2.1).bind fun kW => ((aX.f k false j3).bind fun ky => ((dn.f k kW.1 kW.2 ky.1 ky.2).bind fun t212 => (some (decide (t212 < 0)))))) else ((dE.f mG.2.2.1 mG.2.2.2.1).bind fun t213 => ((dE.f jZ j3).bind fun om => (if t213 = om then ((aX.f k false mG.2.2.2.1).bind fun kz => ((aX.f k false j3).bind fun jU => ((dn.f k kz.1 kz.2 jU.1 jU.2).bind fun oo => (some (decide (oo < 0)))))) else (some false)))))) else (some false))))) else (some ((j3.length : Int) == 0))))
end
def ag.f (k : Nat) (dJ : Bool) (cK : List Int) (dX : Bool) (dY : List Int) (qZ : Bool) (pq : List Int) : Option (Bool) := (iD.f k).bind fun fQ => (if fQ = true then ((dN.f k dJ cK 20).bind fun eH => ((dN.f k dX dY 20).bind fun dM => ((dN.f k qZ pq 20).bind fun fU => ((bE.f k eH.1 eH.2 dM.1 dM.2).bind fun jw => ((bE.f k jw.1 jw.2 fU.1 fU.2).bind fun mH => ((bE.f k dM.1 dM.2 eH.1 eH.2).bind fun kX => ((bE.f k fU.1 fU.2 kX.1 kX.2).bind fun kC => ((aR.f k mH.1 mH.2 kC.1 kC.2).bind fun oQ => (if oQ = true then ((bC.f k eH.1 eH.2 dM.1 dM.2).bind fun gD => ((bC.f k gD.1 gD.2 fU.1 fU.2).bind fun iY => ((bC.f k fU.1 fU.2 eH.1 eH.2).bind fun iP => ((bC.f k dM.1 dM.2 iP.1 iP.2).bind fun iE => ((aR.f k iY.1 iY.2 iE.1 iE.2).bind fun lY => (ag.j0 k (!lY) eH.1 eH.2 dM.1 dM.2 fU.1 fU.2)))))) else (ag.j0 k true eH.1 eH.2 dM.1 dM.2 fU.1 fU.2)))))))))) else (some false))
def ag.T3 : Bool × List (List Nat × List Nat) := (true, [([], []), ([0], [0]), ([], []), ([2, 1], [2]), ([], []), ([4, 3], [4]), ([1, 5, 0, 1], [1]), ([3, 6, 0, 1, 2, 3, 6], [3]), ([5, 7, 0, 1, 2, 3, 4, 5, 6, 7], [5])])
def ag.B3 : List Nat := [0, 1, 0, 7, 0, 31, 63, 127, 255]
theorem ag.JM : mi .any (opsOf Tryd.f3 3) = ag.T3 := by kernel_rfl
theorem ag.GH : kJ ag.T3.2 ag.B3 = true := by kernel_rfl
def ag.T4 : Bool × List (List Nat × List Nat) := (true, [([], []), ([], []), ([0, 1], [0, 1]), ([], []), ([2, 3, 2], [2, 3]), ([], []), ([], []), ([], []), ([6, 7, 4], [6, 7]), ([5, 8, 8], [5, 8]), ([4, 9, 9], [4, 9]), ([10], [10]), ([11, 10], [11]), ([12], [12]), ([12], [12]), ([13, 14, 12, 12], [12, 13, 14]), ([12], [12]), ([15, 16, 15, 12], [12, 15, 16]), ([12], [12]), ([12], [12]), ([12], [12]), ([19, 20, 17, 12], [12, 19, 20]), ([18, 21, 21, 12], [12, 18, 21]), ([17, 22, 22, 12], [12, 17, 22]), ([23, 12], [12, 23]), ([12, 24], [12, 24])])
def ag.B4 : List Nat := [0, 0, 3, 0, 15, 0, 0, 0, 223, 511, 1023, 2047, 4095, 8191, 8191, 32767, 8191, 131071, 8191, 8191, 8191, 1835007, 4194303, 8388607, 16777215, 33554431]
theorem ag.CF : mi .any (opsOf Tryd.f3 4) = ag.T4 := by kernel_rfl
theorem ag.zi : kJ ag.T4.2 ag.B4 = true := by kernel_rfl
def ag.T6 : Bool × List (List Nat × List Nat) := (true, [([], []), ([], []), ([], []), ([1, 2], [1, 2]), ([0, 3, 3], [0, 3]), ([], []), ([], []), ([5, 6, 4], [5, 6]), ([], []), ([], []), ([8, 9, 7], [8, 9]), ([7, 10, 10], [7, 10]), ([4, 11, 11], [4, 11]), ([12], [12]), ([13, 12], [13]), ([14], [14]), ([14], [14]), ([15, 16, 14, 14], [14, 15, 16]), ([14], [14]), ([17, 18, 17, 14], [14, 17, 18]), ([14], [14]), ([19, 20, 19, 14], [14, 19, 20]), ([21, 14], [14, 21]), ([14, 22], [14, 22]), ([23, 21], [23]), ([24], [24]), ([24], [24]), ([25, 26, 24, 24], [24, 25, 26]), ([24], [24]), ([24], [24]), ([28, 29, 27, 24], [24, 28, 29]), ([30, 24], [24, 30]), ([27, 31, 24], [24, 27, 31]), ([24, 32], [24, 32])])
def ag.B6 : List Nat := [0, 0, 0, 6, 15, 0, 0, 127, 0, 0, 1023, 2047, 4095, 8191, 16383, 32767, 32767, 131071, 32767, 524287, 32767, 2097151, 4194303, 8388607, 16777215, 33554431, 33554431, 134217727, 33554431, 33554431, 1073741823, 2147483647, 4294967295, 8589934591]
theorem ag.Ff : mi .any (opsOf Tryd.f3 6) = ag.T6 := by kernel_rfl
theorem ag.BL : kJ ag.T6.2 ag.B6 = true := by kernel_rfl
def ag.T11 : Bool × List (List Nat × List Nat) := (true, [([], []), ([], []), ([0, 1], [0, 1]), ([], []), ([2, 3, 2], [2, 3]), ([], []), ([4, 5, 4], [4, 5]), ([6, 6], [6]), ([7], [7]), ([8, 7, 7], [7, 8]), ([9, 7], [7, 9]), ([10, 9, 7], [7, 10]), ([11], [11]), ([12, 11, 11], [11, 12]), ([11], [11]), ([14, 13, 11], [11, 14]), ([13, 15, 11], [11, 13, 15]), ([11, 16, 7], [7, 11, 16]), ([7, 17], [7, 17]), ([18, 15], [18]), ([19], [19]), ([20, 19], [19, 20]), ([21, 19, 19], [19, 21]), ([19], [19]), ([23, 19], [19, 23]), ([24, 22, 19], [19, 24]), ([22, 25, 25, 19], [19, 22, 25]), ([26, 19], [19, 26]), ([19, 27], [19, 27]), ([28, 26, 0, 1, 2, 3, 4, 5, 6, 7, 8, 9, 10, 11, 12, 13, 14, 15, 16, 17, 18, 19, 20, 21, 22, 23, 24, 25, 26, 27, 28], [28])])
def ag.B11 : List Nat := [0, 0, 3, 0, 15, 0, 63, 127, 255, 511, 1023, 2047, 4095, 8191, 4095, 32767, 65535, 131071, 262143, 524287, 1048575, 2097151, 4194303, 1048575, 9437183, 33554431, 67108863, 134217727, 268435455, 536870911]
theorem ag.zw : mi .any (opsOf Tryd.f3 11) = ag.T11 := by kernel_rfl
theorem ag.wT : kJ ag.T11.2 ag.B11 = true := by kernel_rfl
set_option maxHeartbeats 8000000 in
set_option maxRecDepth 100000 in
theorem ag.calls (k : Nat) (dJ : Bool) (gy : Option Addr) (c0_1 : Nat) (cK : List Int) (dX : Bool) (iq : Option Addr) (c1_1 : Nat) (dY : List Int) (qZ : Bool) (uY : Option Addr) (c2_1 : Nat) (pq : List Int) (r : Bool) (w : World) (hr0_1 : Kd.C (Kd.int .u64) w gy cK.length cK) (hc0_1 : cK.length ≤ c0_1) (hr1_1 : Kd.C (Kd.int .u64) w iq dY.length dY) (hc1_1 : dY.length ≤ c1_1) (hr2_1 : Kd.C (Kd.int .u64) w uY pq.length pq) (hc2_1 : pq.length ≤ c2_1) (h : ag.f k dJ cK dX dY qZ pq = some r) :
  Calls Tryd.prog 3 #[.agg #[.bool dJ, .slice gy cK.length c0_1], .agg #[.bool dX, .slice iq dY.length c1_1], .agg #[.bool qZ, .slice uY pq.length c2_1]] w fun e w' => e = .returned (.bool r) ∧ Below w.heap.size w w' := by
 have hu25 := Tryd.underlying25
 have ku := ae.mk hr0_1
 have kv := ae.mk hc0_1
 clear hr0_1 hc0_1
 have ny := ae.mk hr1_1
 have nz := ae.mk hc1_1
 clear hr1_1 hc1_1
 have GI := ae.mk hr2_1
 have GJ := ae.mk hc2_1
 clear hr2_1 hc2_1
 have HB := ae.mk (Below.refl w.heap.size w)
 have H : ((iD.f k).bind fun fQ => (if fQ = true then ((dN.f k dJ cK 20).bind fun eH => ((dN.f k dX dY 20).bind fun dM => ((dN.f k qZ pq 20).bind fun fU => ((bE.f k eH.1 eH.2 dM.1 dM.2).bind fun jw => ((bE.f k jw.1 jw.2 fU.1 fU.2).bind fun mH => ((bE.f k dM.1 dM.2 eH.1 eH.2).bind fun kX => ((bE.f k fU.1 fU.2 kX.1 kX.2).bind fun kC => ((aR.f k mH.1 mH.2 kC.1 kC.2).bind fun oQ => (if oQ = true then ((bC.f k eH.1 eH.2 dM.1 dM.2).bind fun gD => ((bC.f k gD.1 gD.2 fU.1 fU.2).bind fun iY => ((bC.f k fU.1 fU.2 eH.1 eH.2).bind fun iP => ((bC.f k dM.1 dM.2 iP.1 iP.2).bind fun iE => ((aR.f k iY.1 iY.2 iE.1 iE.2).bind fun lY => (ag.j0 k (!lY) eH.1 eH.2 dM.1 dM.2 fU.1 fU.2)))))) else (ag.j0 k true eH.1 eH.2 dM.1 dM.2 fU.1 fU.2)))))))))) else (some false))) = some r := h
 clear h
 replace H := Option.bind_eq_some_iff.mp H
 obtain ⟨fQ, A40, H⟩ := H
 replace H : (if fQ = true then ((dN.f k dJ cK 20).bind fun eH => ((dN.f k dX dY 20).bind fun dM => ((dN.f k qZ pq 20).bind fun fU => ((bE.f k eH.1 eH.2 dM.1 dM.2).bind fun jw => ((bE.f k jw.1 jw.2 fU.1 fU.2).bind fun mH => ((bE.f k dM.1 dM.2 eH.1 eH.2).bind fun kX => ((bE.f k fU.1 fU.2 kX.1 kX.2).bind fun kC => ((aR.f k mH.1 mH.2 kC.1 kC.2).bind fun oQ => (if oQ = true then ((bC.f k eH.1 eH.2 dM.1 dM.2).bind fun gD => ((bC.f k gD.1 gD.2 fU.1 fU.2).bind fun iY => ((bC.f k fU.1 fU.2 eH.1 eH.2).bind fun iP => ((bC.f k dM.1 dM.2 iP.1 iP.2).bind fun iE => ((aR.f k iY.1 iY.2 iE.1 iE.2).bind fun lY => (ag.j0 k (!lY) eH.1 eH.2 dM.1 dM.2 fU.1 fU.2)))))) else (ag.j0 k true eH.1 eH.2 dM.1 dM.2 fU.1 fU.2)))))))))) else (some false)) = some r := H
 have A4 := ae.mk A40
 clear A40
 by_cases c5 : fQ = true
 ·subst c5
  have H1 : ((dN.f k dJ cK 20).bind fun eH => ((dN.f k dX dY 20).bind fun dM => ((dN.f k qZ pq 20).bind fun fU => ((bE.f k eH.1 eH.2 dM.1 dM.2).bind fun jw => ((bE.f k jw.1 jw.2 fU.1 fU.2).bind fun mH => ((bE.f k dM.1 dM.2 eH.1 eH.2).bind fun kX => ((bE.f k fU.1 fU.2 kX.1 kX.2).bind fun kC => ((aR.f k mH.1 mH.2 kC.1 kC.2).bind fun oQ => (if oQ = true then ((bC.f k eH.1 eH.2 dM.1 dM.2).bind fun gD => ((bC.f k gD.1 gD.2 fU.1 fU.2).bind fun iY => ((bC.f k fU.1 fU.2 eH.1 eH.2).bind fun iP => ((bC.f k dM.1 dM.2 iP.1 iP.2).bind fun iE => ((aR.f k iY.1 iY.2 iE.1 iE.2).bind fun lY => (ag.j0 k (!lY) eH.1 eH.2 dM.1 dM.2 fU.1 fU.2)))))) else (ag.j0 k true eH.1 eH.2 dM.1 dM.2 fU.1 fU.2)))))))))) = some r := by rw [if_pos rfl] at H; exact H
  clear H
  have H := H1
  clear H1
  replace H := Option.bind_eq_some_iff.mp H
  obtain ⟨⟨t105, bA⟩, A60, H⟩ := H
  replace H : ((dN.f k dX dY 20).bind fun dM => ((dN.f k qZ pq 20).bind fun fU => ((bE.f k t105 bA dM.1 dM.2).bind fun jw => ((bE.f k jw.1 jw.2 fU.1 fU.2).bind fun mH => ((bE.f k dM.1 dM.2 t105 bA).bind fun kX => ((bE.f k fU.1 fU.2 kX.1 kX.2).bind fun kC => ((aR.f k mH.1 mH.2 kC.1 kC.2).bind fun oQ => (if oQ = true then ((bC.f k t105 bA dM.1 dM.2).bind fun gD => ((bC.f k gD.1 gD.2 fU.1 fU.2).bind fun iY => ((bC.f k fU.1 fU.2 t105 bA).bind fun iP => ((bC.f k dM.1 dM.2 iP.1 iP.2).bind fun iE => ((aR.f k iY.1 iY.2 iE.1 iE.2).bind fun lY => (ag.j0 k (!lY) t105 bA dM.1 dM.2 fU.1 fU.2)))))) else (ag.j0 k true t105 bA dM.1 dM.2 fU.1 fU.2))))))))) = some r := H
  have A6 := ae.mk A60
  clear A60
  replace H := Option.bind_eq_some_iff.mp H
  obtain ⟨⟨t109, bi⟩, A70, H⟩ := H
  replace H : ((dN.f k qZ pq 20).bind fun fU => ((bE.f k t105 bA t109 bi).bind fun jw => ((bE.f k jw.1 jw.2 fU.1 fU.2).bind fun mH => ((bE.f k t109 bi t105 bA).bind fun kX => ((bE.f k fU.1 fU.2 kX.1 kX.2).bind fun kC => ((aR.f k mH.1 mH.2 kC.1 kC.2).bind fun oQ => (if oQ = true then ((bC.f k t105 bA t109 bi).bind fun gD => ((bC.f k gD.1 gD.2 fU.1 fU.2).bind fun iY => ((bC.f k fU.1 fU.2 t105 bA).bind fun iP => ((bC.f k t109 bi iP.1 iP.2).bind fun iE => ((aR.f k iY.1 iY.2 iE.1 iE.2).bind fun lY => (ag.j0 k (!lY) t105 bA t109 bi fU.1 fU.2)))))) else (ag.j0 k true t105 bA t109 bi fU.1 fU.2)))))))) = some r := H
  have A7 := ae.mk A70
  clear A70
  replace H := Option.bind_eq_some_iff.mp H
  obtain ⟨⟨eT, dD⟩, A80, H⟩ := H
  replace H : ((bE.f k t105 bA t109 bi).bind fun jw => ((bE.f k jw.1 jw.2 eT dD).bind fun mH => ((bE.f k t109 bi t105 bA).bind fun kX => ((bE.f k eT dD kX.1 kX.2).bind fun kC => ((aR.f k mH.1 mH.2 kC.1 kC.2).bind fun oQ => (if oQ = true then ((bC.f k t105 bA t109 bi).bind fun gD => ((bC.f k gD.1 gD.2 eT dD).bind fun iY => ((bC.f k eT dD t105 bA).bind fun iP => ((bC.f k t109 bi iP.1 iP.2).bind fun iE => ((aR.f k iY.1 iY.2 iE.1 iE.2).bind fun lY => (ag.j0 k (!lY) t105 bA t109 bi eT dD)))))) else (ag.j0 k true t105 bA t109 bi eT dD))))))) = some r := H
  have A8 := ae.mk A80
  clear A80
  have HC9 := ae.mk H
  clear H
  go_enter Tryd.func3, Tryd.ntmps3
  try go_wp2_with (first | ((with_reducible refine bR (N := 3) rfl ?_); refine bS ?hg (N := 3) ?hd (cs := #[.bool dJ, .slice gy cK.length c0_1]) (t := 25) ?hr ?_; (case hd => rfl); (case hg => rfl); (case hr => first | (go_simp; done) | (go_simp; rfl)); intro bM hg w10 hbox hb; have ai := ae.mk (hbox); have GW101 := qge HB hg; have gB := qge HB hg; replace HB := ae.mk (av (qw HB) hb); clear hb hbox hg) | ((with_reducible refine bR (N := 4) rfl ?_); refine bS ?hg (N := 4) ?hd (cs := #[.bool dX, .slice iq dY.length c1_1]) (t := 25) ?hr ?_; (case hd => rfl); (case hg => rfl); (case hr => first | (go_simp; done) | (go_simp; rfl)); intro cu hg w11 hbox hb; have au := ae.mk (hbox); have GW102 := qge HB hg; have ib := qge HB hg; replace HB := ae.mk (av (qw HB) hb); have eD := qnl ai hg; have eF := qng ai hg; replace ai := qbb ai hb; clear hb hbox hg) | ((with_reducible refine bR (N := 5) rfl ?_); refine bS ?hg (N := 5) ?hd (cs := #[.bool qZ, .slice uY pq.length c2_1]) (t := 25) ?hr ?_; (case hd => rfl); (case hg => rfl); (case hr => first | (go_simp; done) | (go_simp; rfl)); intro cB hg w12 hbox hb; have aJ := ae.mk (hbox); have GW103 := qge HB hg; have jB := qge HB hg; replace HB := ae.mk (av (qw HB) hb); have dm := qnl ai hg; have eZ := qng ai hg; replace ai := qbb ai hb; have dh := qnl au hg; have eX := qng au hg; replace au := qbb au hb; clear hb hbox hg) | ((with_reducible refine aW (f := 6) rfl ?_); refine cO (some 10) rfl rfl Tryd.func6 (by kernel_rfl) rfl #[] rfl qt ?_; (with_reducible refine (iD.calls k  true _ A4.out).mono ?_); rintro e w13 ⟨rfl, hb⟩; refine ⟨_, rfl, ?_⟩; replace ai := qbb ai hb; replace au := qbb au hb; replace aJ := qbb aJ hb; replace HB := ae.mk (av (qw HB) hb); (try clear hb); (try clear hb2); (try clear hk); (try clear hi)))
  replace ai := ae.mk (bf ai.out)
  replace au := ae.mk (bf au.out)
  replace aJ := ae.mk (bf aJ.out)
  replace HB := ae.mk (aH HB.out)
  refine j6 (n := 9) (S := fun w' => w'.cell? ⟨bM, 0, none⟩ = some (.bool dJ) ∧ w'.cell? ⟨bM, 1, none⟩ = some (.slice gy cK.length c0_1) ∧ w'.cell? ⟨cu, 0, none⟩ = some (.bool dX) ∧ w'.cell? ⟨cu, 1, none⟩ = some (.slice iq dY.length c1_1) ∧ w'.cell? ⟨cB, 0, none⟩ = some (.bool qZ) ∧ w'.cell? ⟨cB, 1, none⟩ = some (.slice uY pq.length c2_1)) (ds := [6, 7, 8]) #[bF,bF,bF,bF,bF,bF,bF,bF,bF] (by kernel_rfl) rfl rfl ⟨(af ai.out 0).trans rfl, (af ai.out 1).trans rfl, (af au.out 0).trans rfl, (af au.out 1).trans rfl, (af aJ.out 0).trans rfl, (af aJ.out 1).trans rfl⟩ (fun hHeld => ?_); refine iQ ag.JM ag.GH (fun HT_ HW_ => ?_)
  generalize w13.drew = w14 at ai au aJ HB hHeld ⊢
  refine eU 0 (some 12) HT_ HW_ hHeld ?_
  refine eU 2 (some 14) HT_ HW_ hHeld ?_
  refine eU 4 (some 16) HT_ HW_ hHeld ?_
  refine gU 1 (some 13) HT_ (fun K hK => ?_)
  refine fo Tryd.func7 #[.agg #[.bool dJ, .slice gy cK.length c0_1], .int .i64 20] ?_
  with_reducible refine (dN.calls k dJ _ _ cK 20 t105 bA _ ?aU ?aV A6.out).mono ?_
  (case aU => exact qs ((Kd.dS ku.out HB.out)))
  (case aV => exact kv.out)
  rintro e w15 ⟨v107, rfl, ho0, hb⟩
  refine ⟨_, rfl, ?_⟩
  have dL := ae.mk (Kd.bz ho0 (aN (qw HB)))
  replace ai := qbb ai hb
  replace au := qbb au hb
  replace aJ := qbb aJ hb
  replace HB := ae.mk (av (qw HB) hb)
  (try clear hb)
  (try clear hb2)
  (try clear hk)
  (try clear hi)
  (try clear ho0)
  refine hK.out _ _ ⟨(af ai.out 0).trans rfl, (af ai.out 1).trans rfl, (af au.out 0).trans rfl, (af au.out 1).trans rfl, (af aJ.out 0).trans rfl, (af aJ.out 1).trans rfl⟩ (fun hHeld => ?_)
  clear hK K
  refine eY (some 13) ?_
  refine gU 3 (some 15) HT_ (fun K hK => ?_)
  refine fo Tryd.func7 #[.agg #[.bool dX, .slice iq dY.length c1_1], .int .i64 20] ?_
  with_reducible refine (dN.calls k dX _ _ dY 20 t109 bi _ ?aU ?aV A7.out).mono ?_
  (case aU => exact qs ((Kd.dS ny.out HB.out)))
  (case aV => exact nz.out)
  rintro e w16 ⟨v111, rfl, ho0, hb⟩
  refine ⟨_, rfl, ?_⟩
  have dQ := ae.mk (Kd.bz (Kd.aA ho0 (Kd.aY (qr dL))) (aN (qw HB)))
  replace dL := ae.mk (Kd.aj (qr dL) (Kd.az ho0) hb)
  replace ai := qbb ai hb
  replace au := qbb au hb
  replace aJ := qbb aJ hb
  replace HB := ae.mk (av (qw HB) hb)
  (try clear hb)
  (try clear hb2)
  (try clear hk)
  (try clear hi)
  (try clear ho0)
  refine hK.out _ _ ⟨(af ai.out 0).trans rfl, (af ai.out 1).trans rfl, (af au.out 0).trans rfl, (af au.out 1).trans rfl, (af aJ.out 0).trans rfl, (af aJ.out 1).trans rfl⟩ (fun hHeld => ?_)
  clear hK K
  refine eY (some 15) ?_
  refine gU 5 (some 17) HT_ (fun K hK => ?_)
  refine fo Tryd.func7 #[.agg #[.bool qZ, .slice uY pq.length c2_1], .int .i64 20] ?_
  with_reducible refine (dN.calls k qZ _ _ pq 20 eT dD _ ?aU ?aV A8.out).mono ?_
  (case aU => exact qs ((Kd.dS GI.out HB.out)))
  (case aV => exact GJ.out)
  rintro e w17 ⟨v115, rfl, ho0, hb⟩
  refine ⟨_, rfl, ?_⟩
  have eG := ae.mk (Kd.bz (Kd.aA (Kd.aA ho0 (Kd.aY (qr dL))) (Kd.aY (qr dQ))) (aN (qw HB)))
  replace dL := ae.mk (Kd.aj (qr dL) (Kd.az ho0) hb)
  replace dQ := ae.mk (Kd.aj (qr dQ) (Kd.az ho0) hb)
  replace ai := qbb ai hb
  replace au := qbb au hb
  replace aJ := qbb aJ hb
  replace HB := ae.mk (av (qw HB) hb)
  (try clear hb)
  (try clear hb2)
  (try clear hk)
  (try clear hi)
  (try clear ho0)
  obtain ⟨fH, fE, tq⟩ := Kd.bD dL.out
  (first | subst tq | (injection tq with f1_ f2_ f3_; have f4_ := f1_.symm; have f5_ := f3_.symm; clear f1_ f2_ f3_; subst f4_; subst f5_))
  obtain ⟨fO, fP, Cq⟩ := Kd.bD dQ.out
  (first | subst Cq | (injection Cq with f1_ f2_ f3_; have f4_ := f1_.symm; have f5_ := f3_.symm; clear f1_ f2_ f3_; subst f4_; subst f5_))
  obtain ⟨gN, gM, wJ⟩ := Kd.bD eG.out
  (first | subst wJ | (injection wJ with f1_ f2_ f3_; have f4_ := f1_.symm; have f5_ := f3_.symm; clear f1_ f2_ f3_; subst f4_; subst f5_))
  refine hK.out _ _ ⟨(af ai.out 0).trans rfl, (af ai.out 1).trans rfl, (af au.out 0).trans rfl, (af au.out 1).trans rfl, (af aJ.out 0).trans rfl, (af aJ.out 1).trans rfl⟩ (fun hHeld => ?_)
  clear hK K
  refine eY (some 17) ?_
  refine vW (i := 6) (N := none) #[bT,bT,bT,bT,bT,bT,bT,bF,bF] rfl rfl (rT HT_.out (by kernel_rfl)) (by decide) (fun K hK => ?_)
  have hs18 : w17.cell? ⟨bM, 0, none⟩ = some (.bool dJ) := (af ai.out 0).trans rfl
  have hfs18 := aK ai.out 0
  have hns18_1 := eF.out
  have hns18_2 := eZ.out
  have hms18_1 := eD.out
  have hms18_2 := dm.out
  have hs20 : w17.cell? ⟨bM, 1, none⟩ = some (.slice gy cK.length c0_1) := (af ai.out 1).trans rfl
  have hfs20 := aK ai.out 1
  have hns20_1 := eF.out
  have hns20_2 := eZ.out
  have hms20_1 := eD.out
  have hms20_2 := dm.out
  refine pX (w1 := ?_) (by rfl) rfl ?_ ?_
  rotate_left
  ·go_simp
   rfl
  refine hK.out _ _ ?_
  clear hK K
  refine vW (i := 7) (N := none) #[bT,bT,bT,bT,bT,bT,bT,bT,bF] rfl rfl (rT HT_.out (by kernel_rfl)) (by decide) (fun K hK => ?_)
  have hs21 : w17.cell? ⟨cu, 0, none⟩ = some (.bool dX) := (af au.out 0).trans rfl
  have hfs21 := aK au.out 0
  have hns21_0 := eD.out
  have hns21_2 := eX.out
  have hms21_0 := eF.out
  have hms21_2 := dh.out
  have hs23 : w17.cell? ⟨cu, 1, none⟩ = some (.slice iq dY.length c1_1) := (af au.out 1).trans rfl
  have hfs23 := aK au.out 1
  have hns23_0 := eD.out
  have hns23_2 := eX.out
  have hms23_0 := eF.out
  have hms23_2 := dh.out
  refine pX (w1 := ?_) (by rfl) rfl ?_ ?_
  rotate_left
  ·go_simp
   rfl
  refine hK.out _ _ ?_
  clear hK K
  refine vW (i := 8) (N := none) #[bT,bT,bT,bT,bT,bT,bT,bT,bT] rfl rfl (rT HT_.out (by kernel_rfl)) (by decide) (fun K hK => ?_)
  have hs24 : w17.cell? ⟨cB, 0, none⟩ = some (.bool qZ) := (af aJ.out 0).trans rfl
  have hfs24 := aK aJ.out 0
  have hns24_0 := dm.out
  have hns24_1 := dh.out
  have hms24_0 := eZ.out
  have hms24_1 := eX.out
  have hs26 : w17.cell? ⟨cB, 1, none⟩ = some (.slice uY pq.length c2_1) := (af aJ.out 1).trans rfl
  have hfs26 := aK aJ.out 1
  have hns26_0 := dm.out
  have hns26_1 := dh.out
  have hms26_0 := eZ.out
  have hms26_1 := eX.out
  refine pX (w1 := ?_) (by rfl) rfl ?_ ?_
  rotate_left
  ·go_simp
   rfl
  refine hK.out _ _ ?_
  clear hK K
  refine nM HT_ ?_
  go_upto_region 4 with (fail)
  go_cut [43] (fun v43 wc => ∃ (kq : Nat) (zx : Bool), v43 = .bool zx ∧ ae (ag.j0 kq zx t105 bA t109 bi eT dD = some r) ∧ ae (kq ≤ k) ∧ ae (Kd.R (Kd.int .u64) 64 wc w.heap.size (fun k_ => some k_ ≠ ((.slice fO bi.length fP) : Value).ownBlock ∧ some k_ ≠ ((.slice gN dD.length gM) : Value).ownBlock) (.slice fH bA.length fE) bA) ∧ ae (Kd.R (Kd.int .u64) 64 wc w.heap.size (fun k_ => some k_ ≠ ((.slice fH bA.length fE) : Value).ownBlock ∧ some k_ ≠ ((.slice gN dD.length gM) : Value).ownBlock) (.slice fO bi.length fP) bi) ∧ ae (Kd.R (Kd.int .u64) 64 wc w.heap.size (fun k_ => some k_ ≠ ((.slice fH bA.length fE) : Value).ownBlock ∧ some k_ ≠ ((.slice fO bi.length fP) : Value).ownBlock) (.slice gN dD.length gM) dD) ∧ ae (wc.heap[bM]? = some (.cells #[.bool t105, (.slice fH bA.length fE)] 25 (0, 0))) ∧ ae (wc.heap[cu]? = some (.cells #[.bool t109, (.slice fO bi.length fP)] 25 (0, 0))) ∧ ae (wc.heap[cB]? = some (.cells #[.bool eT, (.slice gN dD.length gM)] 25 (0, 0))) ∧ ae (Below w.heap.size w wc))
  case first =>
   have H := HC9.out
   clear HC9
   replace H := Option.bind_eq_some_iff.mp H
   obtain ⟨⟨t117, pg⟩, A270, H⟩ := H
   replace H : ((bE.f k t117 pg eT dD).bind fun mH => ((bE.f k t109 bi t105 bA).bind fun kX => ((bE.f k eT dD kX.1 kX.2).bind fun kC => ((aR.f k mH.1 mH.2 kC.1 kC.2).bind fun oQ => (if oQ = true then ((bC.f k t105 bA t109 bi).bind fun gD => ((bC.f k gD.1 gD.2 eT dD).bind fun iY => ((bC.f k eT dD t105 bA).bind fun iP => ((bC.f k t109 bi iP.1 iP.2).bind fun iE => ((aR.f k iY.1 iY.2 iE.1 iE.2).bind fun lY => (ag.j0 k (!lY) t105 bA t109 bi eT dD)))))) else (ag.j0 k true t105 bA t109 bi eT dD)))))) = some r := H
   have A27 := ae.mk A270
   clear A270
   replace H := Option.bind_eq_some_iff.mp H
   obtain ⟨⟨oM, jN⟩, A280, H⟩ := H
   replace H : ((bE.f k t109 bi t105 bA).bind fun kX => ((bE.f k eT dD kX.1 kX.2).bind fun kC => ((aR.f k oM jN kC.1 kC.2).bind fun oQ => (if oQ = true then ((bC.f k t105 bA t109 bi).bind fun gD => ((bC.f k gD.1 gD.2 eT dD).bind fun iY => ((bC.f k eT dD t105 bA).bind fun iP => ((bC.f k t109 bi iP.1 iP.2).bind fun iE => ((aR.f k iY.1 iY.2 iE.1 iE.2).bind fun lY => (ag.j0 k (!lY) t105 bA t109 bi eT dD)))))) else (ag.j0 k true t105 bA t109 bi eT dD))))) = some r := H
   have A28 := ae.mk A280
   clear A280
   replace H := Option.bind_eq_some_iff.mp H
   obtain ⟨⟨kI, sN⟩, A290, H⟩ := H
   replace H : ((bE.f k eT dD kI sN).bind fun kC => ((aR.f k oM jN kC.1 kC.2).bind fun oQ => (if oQ = true then ((bC.f k t105 bA t109 bi).bind fun gD => ((bC.f k gD.1 gD.2 eT dD).bind fun iY => ((bC.f k eT dD t105 bA).bind fun iP => ((bC.f k t109 bi iP.1 iP.2).bind fun iE => ((aR.f k iY.1 iY.2 iE.1 iE.2).bind fun lY => (ag.j0 k (!lY) t105 bA t109 bi eT dD)))))) else (ag.j0 k true t105 bA t109 bi eT dD)))) = some r := H
   have A29 := ae.mk A290
   clear A290
   replace H := Option.bind_eq_some_iff.mp H
   obtain ⟨⟨yN, t130⟩, A300, H⟩ := H
   replace H : ((aR.f k oM jN yN t130).bind fun oQ => (if oQ = true then ((bC.f k t105 bA t109 bi).bind fun gD => ((bC.f k gD.1 gD.2 eT dD).bind fun iY => ((bC.f k eT dD t105 bA).bind fun iP => ((bC.f k t109 bi iP.1 iP.2).bind fun iE => ((aR.f k iY.1 iY.2 iE.1 iE.2).bind fun lY => (ag.j0 k (!lY) t105 bA t109 bi eT dD)))))) else (ag.j0 k true t105 bA t109 bi eT dD))) = some r := H
   have A30 := ae.mk A300
   clear A300
   replace H := Option.bind_eq_some_iff.mp H
   obtain ⟨oQ, A310, H⟩ := H
   replace H : (if oQ = true then ((bC.f k t105 bA t109 bi).bind fun gD => ((bC.f k gD.1 gD.2 eT dD).bind fun iY => ((bC.f k eT dD t105 bA).bind fun iP => ((bC.f k t109 bi iP.1 iP.2).bind fun iE => ((aR.f k iY.1 iY.2 iE.1 iE.2).bind fun lY => (ag.j0 k (!lY) t105 bA t109 bi eT dD)))))) else (ag.j0 k true t105 bA t109 bi eT dD)) = some r := H
   have A31 := ae.mk A310
   clear A310
   by_cases c32 : oQ = true
   ·subst c32
    have H1 : ((bC.f k t105 bA t109 bi).bind fun gD => ((bC.f k gD.1 gD.2 eT dD).bind fun iY => ((bC.f k eT dD t105 bA).bind fun iP => ((bC.f k t109 bi iP.1 iP.2).bind fun iE => ((aR.f k iY.1 iY.2 iE.1 iE.2).bind fun lY => (ag.j0 k (!lY) t105 bA t109 bi eT dD)))))) = some r := by rw [if_pos rfl] at H; exact H
    clear H
    have H := H1
    clear H1
    replace H := Option.bind_eq_some_iff.mp H
    obtain ⟨⟨sJ, mK⟩, A330, H⟩ := H
    replace H : ((bC.f k sJ mK eT dD).bind fun iY => ((bC.f k eT dD t105 bA).bind fun iP => ((bC.f k t109 bi iP.1 iP.2).bind fun iE => ((aR.f k iY.1 iY.2 iE.1 iE.2).bind fun lY => (ag.j0 k (!lY) t105 bA t109 bi eT dD))))) = some r := H
    have A33 := ae.mk A330
    clear A330
    replace H := Option.bind_eq_some_iff.mp H
    obtain ⟨⟨t138, t139⟩, A340, H⟩ := H
    replace H : ((bC.f k eT dD t105 bA).bind fun iP => ((bC.f k t109 bi iP.1 iP.2).bind fun iE => ((aR.f k t138 t139 iE.1 iE.2).bind fun lY => (ag.j0 k (!lY) t105 bA t109 bi eT dD)))) = some r := H
    have A34 := ae.mk A340
    clear A340
    replace H := Option.bind_eq_some_iff.mp H
    obtain ⟨⟨kF, t143⟩, A350, H⟩ := H
    replace H : ((bC.f k t109 bi kF t143).bind fun iE => ((aR.f k t138 t139 iE.1 iE.2).bind fun lY => (ag.j0 k (!lY) t105 bA t109 bi eT dD))) = some r := H
    have A35 := ae.mk A350
    clear A350
    replace H := Option.bind_eq_some_iff.mp H
    obtain ⟨⟨t146, C9⟩, A360, H⟩ := H
    replace H : ((aR.f k t138 t139 t146 C9).bind fun lY => (ag.j0 k (!lY) t105 bA t109 bi eT dD)) = some r := H
    have A36 := ae.mk A360
    clear A360
    replace H := Option.bind_eq_some_iff.mp H
    obtain ⟨lY, A370, H⟩ := H
    replace H : (ag.j0 k (!lY) t105 bA t109 bi eT dD) = some r := H
    have A37 := ae.mk A370
    clear A370
    have H' := ae.mk H
    clear H
    try go_wp2
    have n0_ : ae (Kd.R (Kd.int .u64) 64 ((((((w17.setCell ⟨bM, 0, none⟩ (.bool t105)).setCell ⟨bM, 1, none⟩ (.slice fH bA.length fE)).setCell ⟨cu, 0, none⟩ (.bool t109)).setCell ⟨cu, 1, none⟩ (.slice fO bi.length fP)).setCell ⟨cB, 0, none⟩ (.bool eT)).setCell ⟨cB, 1, none⟩ (.slice gN dD.length gM)) w.heap.size (fun k_ => some k_ ≠ (.slice fO bi.length fP : Value).ownBlock ∧ some k_ ≠ (.slice gN dD.length gM : Value).ownBlock) (.slice fH bA.length fE) bA) := ⟨by (with_reducible repeat (first | apply Kd.bu | apply Kd.bv | apply Kd.bg)); exact Kd.bG (Kd.bH (p := ⟨cB, 1, none⟩) (Kd.bH (p := ⟨cB, 0, none⟩) (Kd.bH (p := ⟨cu, 1, none⟩) (Kd.bH (p := ⟨cu, 0, none⟩) (Kd.bH (p := ⟨bM, 1, none⟩) (Kd.bH (p := ⟨bM, 0, none⟩) (Kd.bU (Kd.bU (Kd.bU dL.out ai.out (by decide)) au.out (by decide)) aJ.out (by decide)) (fun _ hk => hk.1.1.2) (.bool t105)) (fun _ hk => hk.1.1.2) (.slice fH bA.length fE)) (fun _ hk => hk.1.2) (.bool t109)) (fun _ hk => hk.1.2) (.slice fO bi.length fP)) (fun _ hk => hk.2) (.bool eT)) (fun _ hk => hk.2) (.slice gN dD.length gM)) (fun _ hk => ⟨hk.1.1.1.1.2, hk.1.1.1.2⟩)⟩
    have n1_ : ae (Kd.R (Kd.int .u64) 64 ((((((w17.setCell ⟨bM, 0, none⟩ (.bool t105)).setCell ⟨bM, 1, none⟩ (.slice fH bA.length fE)).setCell ⟨cu, 0, none⟩ (.bool t109)).setCell ⟨cu, 1, none⟩ (.slice fO bi.length fP)).setCell ⟨cB, 0, none⟩ (.bool eT)).setCell ⟨cB, 1, none⟩ (.slice gN dD.length gM)) w.heap.size (fun k_ => some k_ ≠ (.slice fH bA.length fE : Value).ownBlock ∧ some k_ ≠ (.slice gN dD.length gM : Value).ownBlock) (.slice fO bi.length fP) bi) := ⟨by (with_reducible repeat (first | apply Kd.bu | apply Kd.bv | apply Kd.bg)); exact Kd.bG (Kd.bH (p := ⟨cB, 1, none⟩) (Kd.bH (p := ⟨cB, 0, none⟩) (Kd.bH (p := ⟨cu, 1, none⟩) (Kd.bH (p := ⟨cu, 0, none⟩) (Kd.bH (p := ⟨bM, 1, none⟩) (Kd.bH (p := ⟨bM, 0, none⟩) (Kd.bU (Kd.bU (Kd.bU dQ.out ai.out (by decide)) au.out (by decide)) aJ.out (by decide)) (fun _ hk => hk.1.1.2) (.bool t105)) (fun _ hk => hk.1.1.2) (.slice fH bA.length fE)) (fun _ hk => hk.1.2) (.bool t109)) (fun _ hk => hk.1.2) (.slice fO bi.length fP)) (fun _ hk => hk.2) (.bool eT)) (fun _ hk => hk.2) (.slice gN dD.length gM)) (fun _ hk => ⟨hk.1.1.1.1.2, hk.1.1.1.2⟩)⟩
    have n2_ : ae (Kd.R (Kd.int .u64) 64 ((((((w17.setCell ⟨bM, 0, none⟩ (.bool t105)).setCell ⟨bM, 1, none⟩ (.slice fH bA.length fE)).setCell ⟨cu, 0, none⟩ (.bool t109)).setCell ⟨cu, 1, none⟩ (.slice fO bi.length fP)).setCell ⟨cB, 0, none⟩ (.bool eT)).setCell ⟨cB, 1, none⟩ (.slice gN dD.length gM)) w.heap.size (fun k_ => some k_ ≠ (.slice fH bA.length fE : Value).ownBlock ∧ some k_ ≠ (.slice fO bi.length fP : Value).ownBlock) (.slice gN dD.length gM) dD) := ⟨by (with_reducible repeat (first | apply Kd.bu | apply Kd.bv | apply Kd.bg)); exact Kd.bG (Kd.bH (p := ⟨cB, 1, none⟩) (Kd.bH (p := ⟨cB, 0, none⟩) (Kd.bH (p := ⟨cu, 1, none⟩) (Kd.bH (p := ⟨cu, 0, none⟩) (Kd.bH (p := ⟨bM, 1, none⟩) (Kd.bH (p := ⟨bM, 0, none⟩) (Kd.bU (Kd.bU (Kd.bU eG.out ai.out (by decide)) au.out (by decide)) aJ.out (by decide)) (fun _ hk => hk.1.1.2) (.bool t105)) (fun _ hk => hk.1.1.2) (.slice fH bA.length fE)) (fun _ hk => hk.1.2) (.bool t109)) (fun _ hk => hk.1.2) (.slice fO bi.length fP)) (fun _ hk => hk.2) (.bool eT)) (fun _ hk => hk.2) (.slice gN dD.length gM)) (fun _ hk => ⟨hk.1.1.1.1.2, hk.1.1.1.2⟩)⟩
    have n3_ : ae (((((((w17.setCell ⟨bM, 0, none⟩ (.bool t105)).setCell ⟨bM, 1, none⟩ (.slice fH bA.length fE)).setCell ⟨cu, 0, none⟩ (.bool t109)).setCell ⟨cu, 1, none⟩ (.slice fO bi.length fP)).setCell ⟨cB, 0, none⟩ (.bool eT)).setCell ⟨cB, 1, none⟩ (.slice gN dD.length gM)).heap[bM]? = some (.cells #[.bool t105, .slice fH bA.length fE] 25 (0, 0))) := ⟨by refine bN ?_ dm.out _; refine bN ?_ dm.out _; refine bN ?_ eD.out _; refine bN ?_ eD.out _; refine dG (cs := #[.bool t105, .slice gy cK.length c0_1]) ?_ 1 _ rfl; refine dG (cs := #[.bool dJ, .slice gy cK.length c0_1]) ?_ 0 _ rfl; (with_reducible repeat (first | refine bP ?_ _ | refine bf ?_ | refine bO ?_ _)); exact ai.out⟩
    have n4_ : ae (((((((w17.setCell ⟨bM, 0, none⟩ (.bool t105)).setCell ⟨bM, 1, none⟩ (.slice fH bA.length fE)).setCell ⟨cu, 0, none⟩ (.bool t109)).setCell ⟨cu, 1, none⟩ (.slice fO bi.length fP)).setCell ⟨cB, 0, none⟩ (.bool eT)).setCell ⟨cB, 1, none⟩ (.slice gN dD.length gM)).heap[cu]? = some (.cells #[.bool t109, .slice fO bi.length fP] 25 (0, 0))) := ⟨by refine bN ?_ dh.out _; refine bN ?_ dh.out _; refine dG (cs := #[.bool t109, .slice iq dY.length c1_1]) ?_ 1 _ rfl; refine dG (cs := #[.bool dX, .slice iq dY.length c1_1]) ?_ 0 _ rfl; refine bN ?_ eF.out _; refine bN ?_ eF.out _; (with_reducible repeat (first | refine bP ?_ _ | refine bf ?_ | refine bO ?_ _)); exact au.out⟩
    have n5_ : ae (((((((w17.setCell ⟨bM, 0, none⟩ (.bool t105)).setCell ⟨bM, 1, none⟩ (.slice fH bA.length fE)).setCell ⟨cu, 0, none⟩ (.bool t109)).setCell ⟨cu, 1, none⟩ (.slice fO bi.length fP)).setCell ⟨cB, 0, none⟩ (.bool eT)).setCell ⟨cB, 1, none⟩ (.slice gN dD.length gM)).heap[cB]? = some (.cells #[.bool eT, .slice gN dD.length gM] 25 (0, 0))) := ⟨by refine dG (cs := #[.bool eT, .slice uY pq.length c2_1]) ?_ 1 _ rfl; refine dG (cs := #[.bool qZ, .slice uY pq.length c2_1]) ?_ 0 _ rfl; refine bN ?_ eX.out _; refine bN ?_ eX.out _; refine bN ?_ eZ.out _; refine bN ?_ eZ.out _; (with_reducible repeat (first | refine bP ?_ _ | refine bf ?_ | refine bO ?_ _)); exact aJ.out⟩
    have n6_ : ae (Below w.heap.size w ((((((w17.setCell ⟨bM, 0, none⟩ (.bool t105)).setCell ⟨bM, 1, none⟩ (.slice fH bA.length fE)).setCell ⟨cu, 0, none⟩ (.bool t109)).setCell ⟨cu, 1, none⟩ (.slice fO bi.length fP)).setCell ⟨cB, 0, none⟩ (.bool eT)).setCell ⟨cB, 1, none⟩ (.slice gN dD.length gM))) := ⟨by repeat (first | (with_reducible first | exact HB.out | apply aM | apply aD | apply aH | refine aQ ?_ gB.out | refine aQ ?_ ib.out | refine aQ ?_ jB.out) | exact HB.out)⟩
    (try clear dL)
    (try clear dQ)
    (try clear eG)
    (try clear ai)
    (try clear au)
    (try clear aJ)
    (try clear HB)
    generalize ((((((w17.setCell ⟨bM, 0, none⟩ (.bool t105)).setCell ⟨bM, 1, none⟩ (.slice fH bA.length fE)).setCell ⟨cu, 0, none⟩ (.bool t109)).setCell ⟨cu, 1, none⟩ (.slice fO bi.length fP)).setCell ⟨cB, 0, none⟩ (.bool eT)).setCell ⟨cB, 1, none⟩ (.slice gN dD.length gM)) = w38 at n0_ n1_ n2_ n3_ n4_ n5_ n6_ ⊢
    have dL := n0_
    have dQ := n1_
    have eG := n2_
    have ai := n3_
    have au := n4_
    have aJ := n5_
    have HB := n6_
    clear n0_ n1_ n2_ n3_ n4_ n5_ n6_
    replace dL := ae.mk (Kd.bg dL.out)
    replace dQ := ae.mk (Kd.bg dQ.out)
    replace eG := ae.mk (Kd.bg eG.out)
    replace ai := ae.mk (bf ai.out)
    replace au := ae.mk (bf au.out)
    replace aJ := ae.mk (bf aJ.out)
    replace HB := ae.mk (aH HB.out)
    refine j6 (n := 26) (S := fun w' => w'.cell? ⟨bM, 0, none⟩ = some (.bool t105) ∧ w'.cell? ⟨bM, 1, none⟩ = some (.slice fH bA.length fE) ∧ w'.cell? ⟨cu, 0, none⟩ = some (.bool t109) ∧ w'.cell? ⟨cu, 1, none⟩ = some (.slice fO bi.length fP) ∧ w'.cell? ⟨cB, 0, none⟩ = some (.bool eT) ∧ w'.cell? ⟨cB, 1, none⟩ = some (.slice gN dD.length gM)) (ds := []) #[bF,bF,bF,bF,bF,bF,bF,bF,bF,bF,bF,bF,bF,bF,bF,bF,bF,bF,bF,bF,bF,bF,bF,bF,bF,bF] (by kernel_rfl) rfl rfl ⟨(af ai.out 0).trans rfl, (af ai.out 1).trans rfl, (af au.out 0).trans rfl, (af au.out 1).trans rfl, (af aJ.out 0).trans rfl, (af aJ.out 1).trans rfl⟩ (fun hHeld => ?_); refine iQ ag.CF ag.zi (fun HT_ HW_ => ?_)
    generalize w38.drew = w39 at dL dQ eG ai au aJ HB hHeld ⊢
    refine eU 0 (some 18) HT_ HW_ hHeld ?_
    refine eU 1 (some 19) HT_ HW_ hHeld ?_
    refine eU 3 (some 21) HT_ HW_ hHeld ?_
    refine eU 5 (some 23) HT_ HW_ hHeld ?_
    refine eU 6 (some 24) HT_ HW_ hHeld ?_
    refine eU 7 (some 25) HT_ HW_ hHeld ?_
    refine gU 2 (some 20) HT_ (fun K hK => ?_)
    refine fo Tryd.func9 #[.agg #[.bool t105, .slice fH bA.length fE], .agg #[.bool t109, .slice fO bi.length fP]] ?_
    with_reducible refine (bE.calls k t105 _ _ bA t109 _ _ bi t117 pg _ ?aU ?aV ?bJ ?bK A27.out).mono ?_
    (case aU => exact qs ((Kd.ak dL.out).2.2))
    (case aV => exact (Kd.ak dL.out).2.1)
    (case bJ => exact qs ((Kd.ak dQ.out).2.2))
    (case bK => exact (Kd.ak dQ.out).2.1)
    rintro e w40 ⟨v119, rfl, ho0, hb⟩
    refine ⟨_, rfl, ?_⟩
    have iJ := ae.mk (Kd.bz (Kd.aA (Kd.aA (Kd.aA ho0 (Kd.aY (qr dL))) (Kd.aY (qr dQ))) (Kd.aY (qr eG))) (aN (qw HB)))
    replace dL := ae.mk (Kd.aj (qr dL) (Kd.az ho0) hb)
    replace dQ := ae.mk (Kd.aj (qr dQ) (Kd.az ho0) hb)
    replace eG := ae.mk (Kd.aj (qr eG) (Kd.az ho0) hb)
    replace ai := qbb ai hb
    replace au := qbb au hb
    replace aJ := qbb aJ hb
    replace HB := ae.mk (av (qw HB) hb)
    (try clear hb)
    (try clear hb2)
    (try clear hk)
    (try clear hi)
    (try clear ho0)
    obtain ⟨uy, uz, zW⟩ := Kd.bD iJ.out
    (first | subst zW | (injection zW with f1_ f2_ f3_; have f4_ := f1_.symm; have f5_ := f3_.symm; clear f1_ f2_ f3_; subst f4_; subst f5_))
    refine hK.out _ _ ⟨(af ai.out 0).trans rfl, (af ai.out 1).trans rfl, (af au.out 0).trans rfl, (af au.out 1).trans rfl, (af aJ.out 0).trans rfl, (af aJ.out 1).trans rfl⟩ (fun hHeld => ?_)
    clear hK K
    refine eY (some 20) ?_
    refine gU 4 (some 22) HT_ (fun K hK => ?_)
    refine fo Tryd.func9 #[.agg #[.bool t117, .slice uy pg.length uz], .agg #[.bool eT, .slice gN dD.length gM]] ?_
    with_reducible refine (bE.calls k t117 _ _ pg eT _ _ dD oM jN _ ?aU ?aV ?bJ ?bK A28.out).mono ?_
    (case aU => exact qs ((Kd.ak iJ.out).2.2))
    (case aV => exact (Kd.ak iJ.out).2.1)
    (case bJ => exact qs ((Kd.ak eG.out).2.2))
    (case bK => exact (Kd.ak eG.out).2.1)
    rintro e w42 ⟨v123, rfl, ho0, hb⟩
    refine ⟨_, rfl, ?_⟩
    have gI := ae.mk (Kd.bz (Kd.aA (Kd.aA (Kd.aA (Kd.aA ho0 (Kd.aY (qr dL))) (Kd.aY (qr dQ))) (Kd.aY (qr eG))) (Kd.aY (qr iJ))) (aN (qw HB)))
    replace dL := ae.mk (Kd.aj (qr dL) (Kd.az ho0) hb)
    replace dQ := ae.mk (Kd.aj (qr dQ) (Kd.az ho0) hb)
    replace eG := ae.mk (Kd.aj (qr eG) (Kd.az ho0) hb)
    replace iJ := ae.mk (Kd.aj (qr iJ) (Kd.az ho0) hb)
    replace ai := qbb ai hb
    replace au := qbb au hb
    replace aJ := qbb aJ hb
    replace HB := ae.mk (av (qw HB) hb)
    (try clear hb)
    (try clear hb2)
    (try clear hk)
    (try clear hi)
    (try clear ho0)
    refine hK.out _ _ ⟨(af ai.out 0).trans rfl, (af ai.out 1).trans rfl, (af au.out 0).trans rfl, (af au.out 1).trans rfl, (af aJ.out 0).trans rfl, (af aJ.out 1).trans rfl⟩ (fun hHeld => ?_)
    clear hK K
    refine eY (some 22) ?_
    refine gU 8 (some 26) HT_ (fun K hK => ?_)
    refine fo Tryd.func9 #[.agg #[.bool t109, .slice fO bi.length fP], .agg #[.bool t105, .slice fH bA.length fE]] ?_
    with_reducible refine (bE.calls k t109 _ _ bi t105 _ _ bA kI sN _ ?aU ?aV ?bJ ?bK A29.out).mono ?_
    (case aU => exact qs ((Kd.ak dQ.out).2.2))
    (case aV => exact (Kd.ak dQ.out).2.1)
    (case bJ => exact qs ((Kd.ak dL.out).2.2))
    (case bK => exact (Kd.ak dL.out).2.1)
    rintro e w43 ⟨v127, rfl, ho0, hb⟩
    refine ⟨_, rfl, ?_⟩
    have jX := ae.mk (Kd.bz (Kd.aA (Kd.aA (Kd.aA (Kd.aA (Kd.aA ho0 (Kd.aY (qr dL))) (Kd.aY (qr dQ))) (Kd.aY (qr eG))) (Kd.aY (qr iJ))) (Kd.aY (qr gI))) (aN (qw HB)))
    replace dL := ae.mk (Kd.aj (qr dL) (Kd.az ho0) hb)
    replace dQ := ae.mk (Kd.aj (qr dQ) (Kd.az ho0) hb)
    replace eG := ae.mk (Kd.aj (qr eG) (Kd.az ho0) hb)
    replace iJ := ae.mk (Kd.aj (qr iJ) (Kd.az ho0) hb)
    replace gI := ae.mk (Kd.aj (qr gI) (Kd.az ho0) hb)
    replace ai := qbb ai hb
    replace au := qbb au hb
    replace aJ := qbb aJ hb
    replace HB := ae.mk (av (qw HB) hb)
    (try clear hb)
    (try clear hb2)
    (try clear hk)
    (try clear hi)
    (try clear ho0)
    obtain ⟨JN, JO, GK⟩ := Kd.bD jX.out
    (first | subst GK | (injection GK with f1_ f2_ f3_; have f4_ := f1_.symm; have f5_ := f3_.symm; clear f1_ f2_ f3_; subst f4_; subst f5_))
    refine hK.out _ _ ⟨(af ai.out 0).trans rfl, (af ai.out 1).trans rfl, (af au.out 0).trans rfl, (af au.out 1).trans rfl, (af aJ.out 0).trans rfl, (af aJ.out 1).trans rfl⟩ (fun hHeld => ?_)
    clear hK K
    refine eY (some 26) ?_
    refine gU 9 (some 27) HT_ (fun K hK => ?_)
    refine fo Tryd.func9 #[.agg #[.bool eT, .slice gN dD.length gM], .agg #[.bool kI, .slice JN sN.length JO]] ?_
    with_reducible refine (bE.calls k eT _ _ dD kI _ _ sN yN t130 _ ?aU ?aV ?bJ ?bK A30.out).mono ?_
    (case aU => exact qs ((Kd.ak eG.out).2.2))
    (case aV => exact (Kd.ak eG.out).2.1)
    (case bJ => exact qs ((Kd.ak jX.out).2.2))
    (case bK => exact (Kd.ak jX.out).2.1)
    rintro e w45 ⟨v131, rfl, ho0, hb⟩
    refine ⟨_, rfl, ?_⟩
    have lC := ae.mk (Kd.bz (Kd.aA (Kd.aA (Kd.aA (Kd.aA (Kd.aA (Kd.aA ho0 (Kd.aY (qr dL))) (Kd.aY (qr dQ))) (Kd.aY (qr eG))) (Kd.aY (qr iJ))) (Kd.aY (qr gI))) (Kd.aY (qr jX))) (aN (qw HB)))
    replace dL := ae.mk (Kd.aj (qr dL) (Kd.az ho0) hb)
    replace dQ := ae.mk (Kd.aj (qr dQ) (Kd.az ho0) hb)
    replace eG := ae.mk (Kd.aj (qr eG) (Kd.az ho0) hb)
    replace iJ := ae.mk (Kd.aj (qr iJ) (Kd.az ho0) hb)
    replace gI := ae.mk (Kd.aj (qr gI) (Kd.az ho0) hb)
    replace jX := ae.mk (Kd.aj (qr jX) (Kd.az ho0) hb)
    replace ai := qbb ai hb
    replace au := qbb au hb
    replace aJ := qbb aJ hb
    replace HB := ae.mk (av (qw HB) hb)
    (try clear hb)
    (try clear hb2)
    (try clear hk)
    (try clear hi)
    (try clear ho0)
    obtain ⟨Eu, Ew, Cu⟩ := Kd.bD gI.out
    (first | subst Cu | (injection Cu with f1_ f2_ f3_; have f4_ := f1_.symm; have f5_ := f3_.symm; clear f1_ f2_ f3_; subst f4_; subst f5_))
    obtain ⟨GD, GG, C8⟩ := Kd.bD lC.out
    (first | subst C8 | (injection C8 with f1_ f2_ f3_; have f4_ := f1_.symm; have f5_ := f3_.symm; clear f1_ f2_ f3_; subst f4_; subst f5_))
    refine hK.out _ _ ⟨(af ai.out 0).trans rfl, (af ai.out 1).trans rfl, (af au.out 0).trans rfl, (af au.out 1).trans rfl, (af aJ.out 0).trans rfl, (af aJ.out 1).trans rfl⟩ (fun hHeld => ?_)
    clear hK K
    refine eY (some 27) ?_
    refine gU 10 (some 28) HT_ (fun K hK => ?_)
    refine fo Tryd.func8 #[.agg #[.bool oM, .slice Eu jN.length Ew], .agg #[.bool yN, .slice GD t130.length GG]] ?_
    with_reducible refine (aR.calls k oM _ _ jN yN _ _ t130 true _ ?aU ?aV ?bJ ?bK A31.out).mono ?_
    (case aU => exact qs ((Kd.ak gI.out).2.2))
    (case aV => exact (Kd.ak gI.out).2.1)
    (case bJ => exact qs ((Kd.ak lC.out).2.2))
    (case bK => exact (Kd.ak lC.out).2.1)
    rintro e w48 ⟨rfl, hb⟩
    refine ⟨_, rfl, ?_⟩
    replace dL := ae.mk (Kd.aI (qr dL) hb)
    replace dQ := ae.mk (Kd.aI (qr dQ) hb)
    replace eG := ae.mk (Kd.aI (qr eG) hb)
    replace iJ := ae.mk (Kd.aI (qr iJ) hb)
    replace gI := ae.mk (Kd.aI (qr gI) hb)
    replace jX := ae.mk (Kd.aI (qr jX) hb)
    replace lC := ae.mk (Kd.aI (qr lC) hb)
    replace ai := qbb ai hb
    replace au := qbb au hb
    replace aJ := qbb aJ hb
    replace HB := ae.mk (av (qw HB) hb)
    (try clear hb)
    (try clear hb2)
    (try clear hk)
    (try clear hi)
    refine hK.out _ _ ⟨(af ai.out 0).trans rfl, (af ai.out 1).trans rfl, (af au.out 0).trans rfl, (af au.out 1).trans rfl, (af aJ.out 0).trans rfl, (af aJ.out 1).trans rfl⟩ (fun hHeld => ?_)
    clear hK K
    refine eY (some 28) ?_
    refine cZ 11 (some 29) HT_ ?_
    refine cZ 12 (some 30) HT_ ?_
    refine eU 13 (some 31) HT_ HW_ hHeld ?_
    refine eU 14 (some 32) HT_ HW_ hHeld ?_
    refine eU 16 (some 34) HT_ HW_ hHeld ?_
    refine eU 18 (some 36) HT_ HW_ hHeld ?_
    refine eU 19 (some 37) HT_ HW_ hHeld ?_
    refine eU 20 (some 38) HT_ HW_ hHeld ?_
    refine gU 15 (some 33) HT_ (fun K hK => ?_)
    refine fo Tryd.func10 #[.agg #[.bool t105, .slice fH bA.length fE], .agg #[.bool t109, .slice fO bi.length fP]] ?_
    with_reducible refine (bC.calls k t105 _ _ bA t109 _ _ bi sJ mK _ ?aU ?aV ?bJ ?bK A33.out).mono ?_
    (case aU => exact qs ((Kd.ak dL.out).2.2))
    (case aV => exact (Kd.ak dL.out).2.1)
    (case bJ => exact qs ((Kd.ak dQ.out).2.2))
    (case bK => exact (Kd.ak dQ.out).2.1)
    rintro e w49 ⟨v136, rfl, ho0, hb⟩
    refine ⟨_, rfl, ?_⟩
    have oh := ae.mk (Kd.bz (Kd.aA (Kd.aA (Kd.aA (Kd.aA (Kd.aA (Kd.aA (Kd.aA ho0 (Kd.aY (qr dL))) (Kd.aY (qr dQ))) (Kd.aY (qr eG))) (Kd.aY (qr iJ))) (Kd.aY (qr gI))) (Kd.aY (qr jX))) (Kd.aY (qr lC))) (aN (qw HB)))
    replace dL := ae.mk (Kd.aj (qr dL) (Kd.az ho0) hb)
    replace dQ := ae.mk (Kd.aj (qr dQ) (Kd.az ho0) hb)
    replace eG := ae.mk (Kd.aj (qr eG) (Kd.az ho0) hb)
    replace iJ := ae.mk (Kd.aj (qr iJ) (Kd.az ho0) hb)
    replace gI := ae.mk (Kd.aj (qr gI) (Kd.az ho0) hb)
    replace jX := ae.mk (Kd.aj (qr jX) (Kd.az ho0) hb)
    replace lC := ae.mk (Kd.aj (qr lC) (Kd.az ho0) hb)
    replace ai := qbb ai hb
    replace au := qbb au hb
    replace aJ := qbb aJ hb
    replace HB := ae.mk (av (qw HB) hb)
    (try clear hb)
    (try clear hb2)
    (try clear hk)
    (try clear hi)
    (try clear ho0)
    obtain ⟨JP, JQ, GL⟩ := Kd.bD oh.out
    (first | subst GL | (injection GL with f1_ f2_ f3_; have f4_ := f1_.symm; have f5_ := f3_.symm; clear f1_ f2_ f3_; subst f4_; subst f5_))
    refine hK.out _ _ ⟨(af ai.out 0).trans rfl, (af ai.out 1).trans rfl, (af au.out 0).trans rfl, (af au.out 1).trans rfl, (af aJ.out 0).trans rfl, (af aJ.out 1).trans rfl⟩ (fun hHeld => ?_)
    clear hK K
    refine eY (some 33) ?_
    refine gU 17 (some 35) HT_ (fun K hK => ?_)
    refine fo Tryd.func10 #[.agg #[.bool sJ, .slice JP mK.length JQ], .agg #[.bool eT, .slice gN dD.length gM]] ?_
    with_reducible refine (bC.calls k sJ _ _ mK eT _ _ dD t138 t139 _ ?aU ?aV ?bJ ?bK A34.out).mono ?_
    (case aU => exact qs ((Kd.ak oh.out).2.2))
    (case aV => exact (Kd.ak oh.out).2.1)
    (case bJ => exact qs ((Kd.ak eG.out).2.2))
    (case bK => exact (Kd.ak eG.out).2.1)
    rintro e w51 ⟨v140, rfl, ho0, hb⟩
    refine ⟨_, rfl, ?_⟩
    have nL := ae.mk (Kd.bz (Kd.aA (Kd.aA (Kd.aA (Kd.aA (Kd.aA (Kd.aA (Kd.aA (Kd.aA ho0 (Kd.aY (qr dL))) (Kd.aY (qr dQ))) (Kd.aY (qr eG))) (Kd.aY (qr iJ))) (Kd.aY (qr gI))) (Kd.aY (qr jX))) (Kd.aY (qr lC))) (Kd.aY (qr oh))) (aN (qw HB)))
    replace dL := ae.mk (Kd.aj (qr dL) (Kd.az ho0) hb)
    replace dQ := ae.mk (Kd.aj (qr dQ) (Kd.az ho0) hb)
    replace eG := ae.mk (Kd.aj (qr eG) (Kd.az ho0) hb)
    replace iJ := ae.mk (Kd.aj (qr iJ) (Kd.az ho0) hb)
    replace gI := ae.mk (Kd.aj (qr gI) (Kd.az ho0) hb)
    replace jX := ae.mk (Kd.aj (qr jX) (Kd.az ho0) hb)
    replace lC := ae.mk (Kd.aj (qr lC) (Kd.az ho0) hb)
    replace oh := ae.mk (Kd.aj (qr oh) (Kd.az ho0) hb)
    replace ai := qbb ai hb
    replace au := qbb au hb
    replace aJ := qbb aJ hb
    replace HB := ae.mk (av (qw HB) hb)
    (try clear hb)
    (try clear hb2)
    (try clear hk)
    (try clear hi)
    (try clear ho0)
    refine hK.out _ _ ⟨(af ai.out 0).trans rfl, (af ai.out 1).trans rfl, (af au.out 0).trans rfl, (af au.out 1).trans rfl, (af aJ.out 0).trans rfl, (af aJ.out 1).trans rfl⟩ (fun hHeld => ?_)
    clear hK K
    refine eY (some 35) ?_
    refine gU 21 (some 39) HT_ (fun K hK => ?_)
    refine fo Tryd.func10 #[.agg #[.bool eT, .slice gN dD.length gM], .agg #[.bool t105, .slice fH bA.length fE]] ?_
    with_reducible refine (bC.calls k eT _ _ dD t105 _ _ bA kF t143 _ ?aU ?aV ?bJ ?bK A35.out).mono ?_
    (case aU => exact qs ((Kd.ak eG.out).2.2))
    (case aV => exact (Kd.ak eG.out).2.1)
    (case bJ => exact qs ((Kd.ak dL.out).2.2))
    (case bK => exact (Kd.ak dL.out).2.1)
    rintro e w52 ⟨v144, rfl, ho0, hb⟩
    refine ⟨_, rfl, ?_⟩
    have ug := ae.mk (Kd.bz (Kd.aA (Kd.aA (Kd.aA (Kd.aA (Kd.aA (Kd.aA (Kd.aA (Kd.aA (Kd.aA ho0 (Kd.aY (qr dL))) (Kd.aY (qr dQ))) (Kd.aY (qr eG))) (Kd.aY (qr iJ))) (Kd.aY (qr gI))) (Kd.aY (qr jX))) (Kd.aY (qr lC))) (Kd.aY (qr oh))) (Kd.aY (qr nL))) (aN (qw HB)))
    replace dL := ae.mk (Kd.aj (qr dL) (Kd.az ho0) hb)
    replace dQ := ae.mk (Kd.aj (qr dQ) (Kd.az ho0) hb)
    replace eG := ae.mk (Kd.aj (qr eG) (Kd.az ho0) hb)
    replace iJ := ae.mk (Kd.aj (qr iJ) (Kd.az ho0) hb)
    replace gI := ae.mk (Kd.aj (qr gI) (Kd.az ho0) hb)
    replace jX := ae.mk (Kd.aj (qr jX) (Kd.az ho0) hb)
    replace lC := ae.mk (Kd.aj (qr lC) (Kd.az ho0) hb)
    replace oh := ae.mk (Kd.aj (qr oh) (Kd.az ho0) hb)
    replace nL := ae.mk (Kd.aj (qr nL) (Kd.az ho0) hb)
    replace ai := qbb ai hb
    replace au := qbb au hb
    replace aJ := qbb aJ hb
    replace HB := ae.mk (av (qw HB) hb)
    (try clear hb)
    (try clear hb2)
    (try clear hk)
    (try clear hi)
    (try clear ho0)
    obtain ⟨BC, BD, yI⟩ := Kd.bD ug.out
    (first | subst yI | (injection yI with f1_ f2_ f3_; have f4_ := f1_.symm; have f5_ := f3_.symm; clear f1_ f2_ f3_; subst f4_; subst f5_))
    refine hK.out _ _ ⟨(af ai.out 0).trans rfl, (af ai.out 1).trans rfl, (af au.out 0).trans rfl, (af au.out 1).trans rfl, (af aJ.out 0).trans rfl, (af aJ.out 1).trans rfl⟩ (fun hHeld => ?_)
    clear hK K
    refine eY (some 39) ?_
    refine gU 22 (some 40) HT_ (fun K hK => ?_)
    refine fo Tryd.func10 #[.agg #[.bool t109, .slice fO bi.length fP], .agg #[.bool kF, .slice BC t143.length BD]] ?_
    with_reducible refine (bC.calls k t109 _ _ bi kF _ _ t143 t146 C9 _ ?aU ?aV ?bJ ?bK A36.out).mono ?_
    (case aU => exact qs ((Kd.ak dQ.out).2.2))
    (case aV => exact (Kd.ak dQ.out).2.1)
    (case bJ => exact qs ((Kd.ak ug.out).2.2))
    (case bK => exact (Kd.ak ug.out).2.1)
    rintro e w54 ⟨v148, rfl, ho0, hb⟩
    refine ⟨_, rfl, ?_⟩
    have xM := ae.mk (Kd.bz (Kd.aA (Kd.aA (Kd.aA (Kd.aA (Kd.aA (Kd.aA (Kd.aA (Kd.aA (Kd.aA (Kd.aA ho0 (Kd.aY (qr dL))) (Kd.aY (qr dQ))) (Kd.aY (qr eG))) (Kd.aY (qr iJ))) (Kd.aY (qr gI))) (Kd.aY (qr jX))) (Kd.aY (qr lC))) (Kd.aY (qr oh))) (Kd.aY (qr nL))) (Kd.aY (qr ug))) (aN (qw HB)))
    replace dL := ae.mk (Kd.aj (qr dL) (Kd.az ho0) hb)
    replace dQ := ae.mk (Kd.aj (qr dQ) (Kd.az ho0) hb)
    replace eG := ae.mk (Kd.aj (qr eG) (Kd.az ho0) hb)
    replace iJ := ae.mk (Kd.aj (qr iJ) (Kd.az ho0) hb)
    replace gI := ae.mk (Kd.aj (qr gI) (Kd.az ho0) hb)
    replace jX := ae.mk (Kd.aj (qr jX) (Kd.az ho0) hb)
    replace lC := ae.mk (Kd.aj (qr lC) (Kd.az ho0) hb)
    replace oh := ae.mk (Kd.aj (qr oh) (Kd.az ho0) hb)
    replace nL := ae.mk (Kd.aj (qr nL) (Kd.az ho0) hb)
    replace ug := ae.mk (Kd.aj (qr ug) (Kd.az ho0) hb)
    replace ai := qbb ai hb
    replace au := qbb au hb
    replace aJ := qbb aJ hb
    replace HB := ae.mk (av (qw HB) hb)
    (try clear hb)
    (try clear hb2)
    (try clear hk)
    (try clear hi)
    (try clear ho0)
    obtain ⟨JR, JS, GM⟩ := Kd.bD nL.out
    (first | subst GM | (injection GM with f1_ f2_ f3_; have f4_ := f1_.symm; have f5_ := f3_.symm; clear f1_ f2_ f3_; subst f4_; subst f5_))
    obtain ⟨xB, xC, yJ⟩ := Kd.bD xM.out
    (first | subst yJ | (injection yJ with f1_ f2_ f3_; have f4_ := f1_.symm; have f5_ := f3_.symm; clear f1_ f2_ f3_; subst f4_; subst f5_))
    refine hK.out _ _ ⟨(af ai.out 0).trans rfl, (af ai.out 1).trans rfl, (af au.out 0).trans rfl, (af au.out 1).trans rfl, (af aJ.out 0).trans rfl, (af aJ.out 1).trans rfl⟩ (fun hHeld => ?_)
    clear hK K
    refine eY (some 40) ?_
    refine gU 23 (some 41) HT_ (fun K hK => ?_)
    refine fo Tryd.func8 #[.agg #[.bool t138, .slice JR t139.length JS], .agg #[.bool t146, .slice xB C9.length xC]] ?_
    with_reducible refine (aR.calls k t138 _ _ t139 t146 _ _ C9 lY _ ?aU ?aV ?bJ ?bK A37.out).mono ?_
    (case aU => exact qs ((Kd.ak nL.out).2.2))
    (case aV => exact (Kd.ak nL.out).2.1)
    (case bJ => exact qs ((Kd.ak xM.out).2.2))
    (case bK => exact (Kd.ak xM.out).2.1)
    rintro e w57 ⟨rfl, hb⟩
    refine ⟨_, rfl, ?_⟩
    replace dL := ae.mk (Kd.aI (qr dL) hb)
    replace dQ := ae.mk (Kd.aI (qr dQ) hb)
    replace eG := ae.mk (Kd.aI (qr eG) hb)
    replace iJ := ae.mk (Kd.aI (qr iJ) hb)
    replace gI := ae.mk (Kd.aI (qr gI) hb)
    replace jX := ae.mk (Kd.aI (qr jX) hb)
    replace lC := ae.mk (Kd.aI (qr lC) hb)
    replace oh := ae.mk (Kd.aI (qr oh) hb)
    replace nL := ae.mk (Kd.aI (qr nL) hb)
    replace ug := ae.mk (Kd.aI (qr ug) hb)
    replace xM := ae.mk (Kd.aI (qr xM) hb)
    replace ai := qbb ai hb
    replace au := qbb au hb
    replace aJ := qbb aJ hb
    replace HB := ae.mk (av (qw HB) hb)
    (try clear hb)
    (try clear hb2)
    (try clear hk)
    (try clear hi)
    refine hK.out _ _ ⟨(af ai.out 0).trans rfl, (af ai.out 1).trans rfl, (af au.out 0).trans rfl, (af au.out 1).trans rfl, (af aJ.out 0).trans rfl, (af aJ.out 1).trans rfl⟩ (fun hHeld => ?_)
    clear hK K
    refine eY (some 41) ?_
    refine cZ 24 (some 42) HT_ ?_
    refine cZ 25 (some 43) HT_ ?_
    refine nM HT_ ?_
    try go_wp2
    go_meet
    case rel => exact ⟨_, (!lY), (by first | rfl | (simp; done) | (simp [*]; done)), H', ⟨by first | omega | exact Nat.le_refl _⟩, ⟨by (with_reducible repeat (first | apply Kd.bu | apply Kd.bv | apply Kd.bg)); exact Kd.bG dL.out (fun _ hk => ⟨hk.1.1.1.1.1.1.1.1.1, hk.1.1.1.1.1.1.1.1.2⟩)⟩, ⟨by (with_reducible repeat (first | apply Kd.bu | apply Kd.bv | apply Kd.bg)); exact Kd.bG dQ.out (fun _ hk => ⟨hk.1.1.1.1.1.1.1.1.1, hk.1.1.1.1.1.1.1.1.2⟩)⟩, ⟨by (with_reducible repeat (first | apply Kd.bu | apply Kd.bv | apply Kd.bg)); exact Kd.bG eG.out (fun _ hk => ⟨hk.1.1.1.1.1.1.1.1.1, hk.1.1.1.1.1.1.1.1.2⟩)⟩, ⟨by (with_reducible repeat (first | refine bP ?_ _ | refine bf ?_ | refine bO ?_ _)); exact ai.out⟩, ⟨by (with_reducible repeat (first | refine bP ?_ _ | refine bf ?_ | refine bO ?_ _)); exact au.out⟩, ⟨by (with_reducible repeat (first | refine bP ?_ _ | refine bf ?_ | refine bO ?_ _)); exact aJ.out⟩, ⟨by repeat (first | (with_reducible first | exact HB.out | apply aM | apply aD | apply aH | refine aQ ?_ gB.out | refine aQ ?_ ib.out | refine aQ ?_ jB.out) | exact HB.out)⟩⟩
   ·replace c32 := Bool.eq_false_iff.mpr c32
    subst c32
    have H1 : (ag.j0 k true t105 bA t109 bi eT dD) = some r := by rw [if_neg (show ¬ (false = true) by decide)] at H; exact H
    clear H
    have H := H1
    clear H1
    have H' := ae.mk H
    clear H
    try go_wp2
    have n0_ : ae (Kd.R (Kd.int .u64) 64 ((((((w17.setCell ⟨bM, 0, none⟩ (.bool t105)).setCell ⟨bM, 1, none⟩ (.slice fH bA.length fE)).setCell ⟨cu, 0, none⟩ (.bool t109)).setCell ⟨cu, 1, none⟩ (.slice fO bi.length fP)).setCell ⟨cB, 0, none⟩ (.bool eT)).setCell ⟨cB, 1, none⟩ (.slice gN dD.length gM)) w.heap.size (fun k_ => some k_ ≠ (.slice fO bi.length fP : Value).ownBlock ∧ some k_ ≠ (.slice gN dD.length gM : Value).ownBlock) (.slice fH bA.length fE) bA) := ⟨by (with_reducible repeat (first | apply Kd.bu | apply Kd.bv | apply Kd.bg)); exact Kd.bG (Kd.bH (p := ⟨cB, 1, none⟩) (Kd.bH (p := ⟨cB, 0, none⟩) (Kd.bH (p := ⟨cu, 1, none⟩) (Kd.bH (p := ⟨cu, 0, none⟩) (Kd.bH (p := ⟨bM, 1, none⟩) (Kd.bH (p := ⟨bM, 0, none⟩) (Kd.bU (Kd.bU (Kd.bU dL.out ai.out (by decide)) au.out (by decide)) aJ.out (by decide)) (fun _ hk => hk.1.1.2) (.bool t105)) (fun _ hk => hk.1.1.2) (.slice fH bA.length fE)) (fun _ hk => hk.1.2) (.bool t109)) (fun _ hk => hk.1.2) (.slice fO bi.length fP)) (fun _ hk => hk.2) (.bool eT)) (fun _ hk => hk.2) (.slice gN dD.length gM)) (fun _ hk => ⟨hk.1.1.1.1.2, hk.1.1.1.2⟩)⟩
    have n1_ : ae (Kd.R (Kd.int .u64) 64 ((((((w17.setCell ⟨bM, 0, none⟩ (.bool t105)).setCell ⟨bM, 1, none⟩ (.slice fH bA.length fE)).setCell ⟨cu, 0, none⟩ (.bool t109)).setCell ⟨cu, 1, none⟩ (.slice fO bi.length fP)).setCell ⟨cB, 0, none⟩ (.bool eT)).setCell ⟨cB, 1, none⟩ (.slice gN dD.length gM)) w.heap.size (fun k_ => some k_ ≠ (.slice fH bA.length fE : Value).ownBlock ∧ some k_ ≠ (.slice gN dD.length gM : Value).ownBlock) (.slice fO bi.length fP) bi) := ⟨by (with_reducible repeat (first | apply Kd.bu | apply Kd.bv | apply Kd.bg)); exact Kd.bG (Kd.bH (p := ⟨cB, 1, none⟩) (Kd.bH (p := ⟨cB, 0, none⟩) (Kd.bH (p := ⟨cu, 1, none⟩) (Kd.bH (p := ⟨cu, 0, none⟩) (Kd.bH (p := ⟨bM, 1, none⟩) (Kd.bH (p := ⟨bM, 0, none⟩) (Kd.bU (Kd.bU (Kd.bU dQ.out ai.out (by decide)) au.out (by decide)) aJ.out (by decide)) (fun _ hk => hk.1.1.2) (.bool t105)) (fun _ hk => hk.1.1.2) (.slice fH bA.length fE)) (fun _ hk => hk.1.2) (.bool t109)) (fun _ hk => hk.1.2) (.slice fO bi.length fP)) (fun _ hk => hk.2) (.bool eT)) (fun _ hk => hk.2) (.slice gN dD.length gM)) (fun _ hk => ⟨hk.1.1.1.1.2, hk.1.1.1.2⟩)⟩
    have n2_ : ae (Kd.R (Kd.int .u64) 64 ((((((w17.setCell ⟨bM, 0, none⟩ (.bool t105)).setCell ⟨bM, 1, none⟩ (.slice fH bA.length fE)).setCell ⟨cu, 0, none⟩ (.bool t109)).setCell ⟨cu, 1, none⟩ (.slice fO bi.length fP)).setCell ⟨cB, 0, none⟩ (.bool eT)).setCell ⟨cB, 1, none⟩ (.slice gN dD.length gM)) w.heap.size (fun k_ => some k_ ≠ (.slice fH bA.length fE : Value).ownBlock ∧ some k_ ≠ (.slice fO bi.length fP : Value).ownBlock) (.slice gN dD.length gM) dD) := ⟨by (with_reducible repeat (first | apply Kd.bu | apply Kd.bv | apply Kd.bg)); exact Kd.bG (Kd.bH (p := ⟨cB, 1, none⟩) (Kd.bH (p := ⟨cB, 0, none⟩) (Kd.bH (p := ⟨cu, 1, none⟩) (Kd.bH (p := ⟨cu, 0, none⟩) (Kd.bH (p := ⟨bM, 1, none⟩) (Kd.bH (p := ⟨bM, 0, none⟩) (Kd.bU (Kd.bU (Kd.bU eG.out ai.out (by decide)) au.out (by decide)) aJ.out (by decide)) (fun _ hk => hk.1.1.2) (.bool t105)) (fun _ hk => hk.1.1.2) (.slice fH bA.length fE)) (fun _ hk => hk.1.2) (.bool t109)) (fun _ hk => hk.1.2) (.slice fO bi.length fP)) (fun _ hk => hk.2) (.bool eT)) (fun _ hk => hk.2) (.slice gN dD.length gM)) (fun _ hk => ⟨hk.1.1.1.1.2, hk.1.1.1.2⟩)⟩
    have n3_ : ae (((((((w17.setCell ⟨bM, 0, none⟩ (.bool t105)).setCell ⟨bM, 1, none⟩ (.slice fH bA.length fE)).setCell ⟨cu, 0, none⟩ (.bool t109)).setCell ⟨cu, 1, none⟩ (.slice fO bi.length fP)).setCell ⟨cB, 0, none⟩ (.bool eT)).setCell ⟨cB, 1, none⟩ (.slice gN dD.length gM)).heap[bM]? = some (.cells #[.bool t105, .slice fH bA.length fE] 25 (0, 0))) := ⟨by refine bN ?_ dm.out _; refine bN ?_ dm.out _; refine bN ?_ eD.out _; refine bN ?_ eD.out _; refine dG (cs := #[.bool t105, .slice gy cK.length c0_1]) ?_ 1 _ rfl; refine dG (cs := #[.bool dJ, .slice gy cK.length c0_1]) ?_ 0 _ rfl; (with_reducible repeat (first | refine bP ?_ _ | refine bf ?_ | refine bO ?_ _)); exact ai.out⟩
    have n4_ : ae (((((((w17.setCell ⟨bM, 0, none⟩ (.bool t105)).setCell ⟨bM, 1, none⟩ (.slice fH bA.length fE)).setCell ⟨cu, 0, none⟩ (.bool t109)).setCell ⟨cu, 1, none⟩ (.slice fO bi.length fP)).setCell ⟨cB, 0, none⟩ (.bool eT)).setCell ⟨cB, 1, none⟩ (.slice gN dD.length gM)).heap[cu]? = some (.cells #[.bool t109, .slice fO bi.length fP] 25 (0, 0))) := ⟨by refine bN ?_ dh.out _; refine bN ?_ dh.out _; refine dG (cs := #[.bool t109, .slice iq dY.length c1_1]) ?_ 1 _ rfl; refine dG (cs := #[.bool dX, .slice iq dY.length c1_1]) ?_ 0 _ rfl; refine bN ?_ eF.out _; refine bN ?_ eF.out _; (with_reducible repeat (first | refine bP ?_ _ | refine bf ?_ | refine bO ?_ _)); exact au.out⟩
    have n5_ : ae (((((((w17.setCell ⟨bM, 0, none⟩ (.bool t105)).setCell ⟨bM, 1, none⟩ (.slice fH bA.length fE)).setCell ⟨cu, 0, none⟩ (.bool t109)).setCell ⟨cu, 1, none⟩ (.slice fO bi.length fP)).setCell ⟨cB, 0, none⟩ (.bool eT)).setCell ⟨cB, 1, none⟩ (.slice gN dD.length gM)).heap[cB]? = some (.cells #[.bool eT, .slice gN dD.length gM] 25 (0, 0))) := ⟨by refine dG (cs := #[.bool eT, .slice uY pq.length c2_1]) ?_ 1 _ rfl; refine dG (cs := #[.bool qZ, .slice uY pq.length c2_1]) ?_ 0 _ rfl; refine bN ?_ eX.out _; refine bN ?_ eX.out _; refine bN ?_ eZ.out _; refine bN ?_ eZ.out _; (with_reducible repeat (first | refine bP ?_ _ | refine bf ?_ | refine bO ?_ _)); exact aJ.out⟩
    have n6_ : ae (Below w.heap.size w ((((((w17.setCell ⟨bM, 0, none⟩ (.bool t105)).setCell ⟨bM, 1, none⟩ (.slice fH bA.length fE)).setCell ⟨cu, 0, none⟩ (.bool t109)).setCell ⟨cu, 1, none⟩ (.slice fO bi.length fP)).setCell ⟨cB, 0, none⟩ (.bool eT)).setCell ⟨cB, 1, none⟩ (.slice gN dD.length gM))) := ⟨by repeat (first | (with_reducible first | exact HB.out | apply aM | apply aD | apply aH | refine aQ ?_ gB.out | refine aQ ?_ ib.out | refine aQ ?_ jB.out) | exact HB.out)⟩
    (try clear dL)
    (try clear dQ)
    (try clear eG)
    (try clear ai)
    (try clear au)
    (try clear aJ)
    (try clear HB)
    generalize ((((((w17.setCell ⟨bM, 0, none⟩ (.bool t105)).setCell ⟨bM, 1, none⟩ (.slice fH bA.length fE)).setCell ⟨cu, 0, none⟩ (.bool t109)).setCell ⟨cu, 1, none⟩ (.slice fO bi.length fP)).setCell ⟨cB, 0, none⟩ (.bool eT)).setCell ⟨cB, 1, none⟩ (.slice gN dD.length gM)) = w58 at n0_ n1_ n2_ n3_ n4_ n5_ n6_ ⊢
    have dL := n0_
    have dQ := n1_
    have eG := n2_
    have ai := n3_
    have au := n4_
    have aJ := n5_
    have HB := n6_
    clear n0_ n1_ n2_ n3_ n4_ n5_ n6_
    replace dL := ae.mk (Kd.bg dL.out)
    replace dQ := ae.mk (Kd.bg dQ.out)
    replace eG := ae.mk (Kd.bg eG.out)
    replace ai := ae.mk (bf ai.out)
    replace au := ae.mk (bf au.out)
    replace aJ := ae.mk (bf aJ.out)
    replace HB := ae.mk (aH HB.out)
    refine j6 (n := 26) (S := fun w' => w'.cell? ⟨bM, 0, none⟩ = some (.bool t105) ∧ w'.cell? ⟨bM, 1, none⟩ = some (.slice fH bA.length fE) ∧ w'.cell? ⟨cu, 0, none⟩ = some (.bool t109) ∧ w'.cell? ⟨cu, 1, none⟩ = some (.slice fO bi.length fP) ∧ w'.cell? ⟨cB, 0, none⟩ = some (.bool eT) ∧ w'.cell? ⟨cB, 1, none⟩ = some (.slice gN dD.length gM)) (ds := []) #[bF,bF,bF,bF,bF,bF,bF,bF,bF,bF,bF,bF,bF,bF,bF,bF,bF,bF,bF,bF,bF,bF,bF,bF,bF,bF] (by kernel_rfl) rfl rfl ⟨(af ai.out 0).trans rfl, (af ai.out 1).trans rfl, (af au.out 0).trans rfl, (af au.out 1).trans rfl, (af aJ.out 0).trans rfl, (af aJ.out 1).trans rfl⟩ (fun hHeld => ?_); refine iQ ag.CF ag.zi (fun HT_ HW_ => ?_)
    generalize w58.drew = w59 at dL dQ eG ai au aJ HB hHeld ⊢
    refine eU 0 (some 18) HT_ HW_ hHeld ?_
    refine eU 1 (some 19) HT_ HW_ hHeld ?_
    refine eU 3 (some 21) HT_ HW_ hHeld ?_
    refine eU 5 (some 23) HT_ HW_ hHeld ?_
    refine eU 6 (some 24) HT_ HW_ hHeld ?_
    refine eU 7 (some 25) HT_ HW_ hHeld ?_
    refine gU 2 (some 20) HT_ (fun K hK => ?_)
    refine fo Tryd.func9 #[.agg #[.bool t105, .slice fH bA.length fE], .agg #[.bool t109, .slice fO bi.length fP]] ?_
    with_reducible refine (bE.calls k t105 _ _ bA t109 _ _ bi t117 pg _ ?aU ?aV ?bJ ?bK A27.out).mono ?_
    (case aU => exact qs ((Kd.ak dL.out).2.2))
    (case aV => exact (Kd.ak dL.out).2.1)
    (case bJ => exact qs ((Kd.ak dQ.out).2.2))
    (case bK => exact (Kd.ak dQ.out).2.1)
    rintro e w60 ⟨v119, rfl, ho0, hb⟩
    refine ⟨_, rfl, ?_⟩
    have iJ := ae.mk (Kd.bz (Kd.aA (Kd.aA (Kd.aA ho0 (Kd.aY (qr dL))) (Kd.aY (qr dQ))) (Kd.aY (qr eG))) (aN (qw HB)))
    replace dL := ae.mk (Kd.aj (qr dL) (Kd.az ho0) hb)
    replace dQ := ae.mk (Kd.aj (qr dQ) (Kd.az ho0) hb)
    replace eG := ae.mk (Kd.aj (qr eG) (Kd.az ho0) hb)
    replace ai := qbb ai hb
    replace au := qbb au hb
    replace aJ := qbb aJ hb
    replace HB := ae.mk (av (qw HB) hb)
    (try clear hb)
    (try clear hb2)
    (try clear hk)
    (try clear hi)
    (try clear ho0)
    obtain ⟨JU, JV, GN⟩ := Kd.bD iJ.out
    (first | subst GN | (injection GN with f1_ f2_ f3_; have f4_ := f1_.symm; have f5_ := f3_.symm; clear f1_ f2_ f3_; subst f4_; subst f5_))
    refine hK.out _ _ ⟨(af ai.out 0).trans rfl, (af ai.out 1).trans rfl, (af au.out 0).trans rfl, (af au.out 1).trans rfl, (af aJ.out 0).trans rfl, (af aJ.out 1).trans rfl⟩ (fun hHeld => ?_)
    clear hK K
    refine eY (some 20) ?_
    refine gU 4 (some 22) HT_ (fun K hK => ?_)
    refine fo Tryd.func9 #[.agg #[.bool t117, .slice JU pg.length JV], .agg #[.bool eT, .slice gN dD.length gM]] ?_
    with_reducible refine (bE.calls k t117 _ _ pg eT _ _ dD oM jN _ ?aU ?aV ?bJ ?bK A28.out).mono ?_
    (case aU => exact qs ((Kd.ak iJ.out).2.2))
    (case aV => exact (Kd.ak iJ.out).2.1)
    (case bJ => exact qs ((Kd.ak eG.out).2.2))
    (case bK => exact (Kd.ak eG.out).2.1)
    rintro e w62 ⟨v123, rfl, ho0, hb⟩
    refine ⟨_, rfl, ?_⟩
    have gI := ae.mk (Kd.bz (Kd.aA (Kd.aA (Kd.aA (Kd.aA ho0 (Kd.aY (qr dL))) (Kd.aY (qr dQ))) (Kd.aY (qr eG))) (Kd.aY (qr iJ))) (aN (qw HB)))
    replace dL := ae.mk (Kd.aj (qr dL) (Kd.az ho0) hb)
    replace dQ := ae.mk (Kd.aj (qr dQ) (Kd.az ho0) hb)
    replace eG := ae.mk (Kd.aj (qr eG) (Kd.az ho0) hb)
    replace iJ := ae.mk (Kd.aj (qr iJ) (Kd.az ho0) hb)
    replace ai := qbb ai hb
    replace au := qbb au hb
    replace aJ := qbb aJ hb
    replace HB := ae.mk (av (qw HB) hb)
    (try clear hb)
    (try clear hb2)
    (try clear hk)
    (try clear hi)
    (try clear ho0)
    refine hK.out _ _ ⟨(af ai.out 0).trans rfl, (af ai.out 1).trans rfl, (af au.out 0).trans rfl, (af au.out 1).trans rfl, (af aJ.out 0).trans rfl, (af aJ.out 1).trans rfl⟩ (fun hHeld => ?_)
    clear hK K
    refine eY (some 22) ?_
    refine gU 8 (some 26) HT_ (fun K hK => ?_)
    refine fo Tryd.func9 #[.agg #[.bool t109, .slice fO bi.length fP], .agg #[.bool t105, .slice fH bA.length fE]] ?_
    with_reducible refine (bE.calls k t109 _ _ bi t105 _ _ bA kI sN _ ?aU ?aV ?bJ ?bK A29.out).mono ?_
    (case aU => exact qs ((Kd.ak dQ.out).2.2))
    (case aV => exact (Kd.ak dQ.out).2.1)
    (case bJ => exact qs ((Kd.ak dL.out).2.2))
    (case bK => exact (Kd.ak dL.out).2.1)
    rintro e w63 ⟨v127, rfl, ho0, hb⟩
    refine ⟨_, rfl, ?_⟩
    have jX := ae.mk (Kd.bz (Kd.aA (Kd.aA (Kd.aA (Kd.aA (Kd.aA ho0 (Kd.aY (qr dL))) (Kd.aY (qr dQ))) (Kd.aY (qr eG))) (Kd.aY (qr iJ))) (Kd.aY (qr gI))) (aN (qw HB)))
    replace dL := ae.mk (Kd.aj (qr dL) (Kd.az ho0) hb)
    replace dQ := ae.mk (Kd.aj (qr dQ) (Kd.az ho0) hb)
    replace eG := ae.mk (Kd.aj (qr eG) (Kd.az ho0) hb)
    replace iJ := ae.mk (Kd.aj (qr iJ) (Kd.az ho0) hb)
    replace gI := ae.mk (Kd.aj (qr gI) (Kd.az ho0) hb)
    replace ai := qbb ai hb
    replace au := qbb au hb
    replace aJ := qbb aJ hb
    replace HB := ae.mk (av (qw HB) hb)
    (try clear hb)
    (try clear hb2)
    (try clear hk)
    (try clear hi)
    (try clear ho0)
    obtain ⟨EW, EX, BI⟩ := Kd.bD jX.out
    (first | subst BI | (injection BI with f1_ f2_ f3_; have f4_ := f1_.symm; have f5_ := f3_.symm; clear f1_ f2_ f3_; subst f4_; subst f5_))
    refine hK.out _ _ ⟨(af ai.out 0).trans rfl, (af ai.out 1).trans rfl, (af au.out 0).trans rfl, (af au.out 1).trans rfl, (af aJ.out 0).trans rfl, (af aJ.out 1).trans rfl⟩ (fun hHeld => ?_)
    clear hK K
    refine eY (some 26) ?_
    refine gU 9 (some 27) HT_ (fun K hK => ?_)
    refine fo Tryd.func9 #[.agg #[.bool eT, .slice gN dD.length gM], .agg #[.bool kI, .slice EW sN.length EX]] ?_
    with_reducible refine (bE.calls k eT _ _ dD kI _ _ sN yN t130 _ ?aU ?aV ?bJ ?bK A30.out).mono ?_
    (case aU => exact qs ((Kd.ak eG.out).2.2))
    (case aV => exact (Kd.ak eG.out).2.1)
    (case bJ => exact qs ((Kd.ak jX.out).2.2))
    (case bK => exact (Kd.ak jX.out).2.1)
    rintro e w65 ⟨v131, rfl, ho0, hb⟩
    refine ⟨_, rfl, ?_⟩
    have lC := ae.mk (Kd.bz (Kd.aA (Kd.aA (Kd.aA (Kd.aA (Kd.aA (Kd.aA ho0 (Kd.aY (qr dL))) (Kd.aY (qr dQ))) (Kd.aY (qr eG))) (Kd.aY (qr iJ))) (Kd.aY (qr gI))) (Kd.aY (qr jX))) (aN (qw HB)))
    replace dL := ae.mk (Kd.aj (qr dL) (Kd.az ho0) hb)
    replace dQ := ae.mk (Kd.aj (qr dQ) (Kd.az ho0) hb)
    replace eG := ae.mk (Kd.aj (qr eG) (Kd.az ho0) hb)
    replace iJ := ae.mk (Kd.aj (qr iJ) (Kd.az ho0) hb)
    replace gI := ae.mk (Kd.aj (qr gI) (Kd.az ho0) hb)
    replace jX := ae.mk (Kd.aj (qr jX) (Kd.az ho0) hb)
    replace ai := qbb ai hb
    replace au := qbb au hb
    replace aJ := qbb aJ hb
    replace HB := ae.mk (av (qw HB) hb)
    (try clear hb)
    (try clear hb2)
    (try clear hk)
    (try clear hi)
    (try clear ho0)
    obtain ⟨EY, EZ, BJ⟩ := Kd.bD gI.out
    (first | subst BJ | (injection BJ with f1_ f2_ f3_; have f4_ := f1_.symm; have f5_ := f3_.symm; clear f1_ f2_ f3_; subst f4_; subst f5_))
    obtain ⟨JW, JX, GQ⟩ := Kd.bD lC.out
    (first | subst GQ | (injection GQ with f1_ f2_ f3_; have f4_ := f1_.symm; have f5_ := f3_.symm; clear f1_ f2_ f3_; subst f4_; subst f5_))
    refine hK.out _ _ ⟨(af ai.out 0).trans rfl, (af ai.out 1).trans rfl, (af au.out 0).trans rfl, (af au.out 1).trans rfl, (af aJ.out 0).trans rfl, (af aJ.out 1).trans rfl⟩ (fun hHeld => ?_)
    clear hK K
    refine eY (some 27) ?_
    refine gU 10 (some 28) HT_ (fun K hK => ?_)
    refine fo Tryd.func8 #[.agg #[.bool oM, .slice EY jN.length EZ], .agg #[.bool yN, .slice JW t130.length JX]] ?_
    with_reducible refine (aR.calls k oM _ _ jN yN _ _ t130 false _ ?aU ?aV ?bJ ?bK A31.out).mono ?_
    (case aU => exact qs ((Kd.ak gI.out).2.2))
    (case aV => exact (Kd.ak gI.out).2.1)
    (case bJ => exact qs ((Kd.ak lC.out).2.2))
    (case bK => exact (Kd.ak lC.out).2.1)
    rintro e w68 ⟨rfl, hb⟩
    refine ⟨_, rfl, ?_⟩
    replace dL := ae.mk (Kd.aI (qr dL) hb)
    replace dQ := ae.mk (Kd.aI (qr dQ) hb)
    replace eG := ae.mk (Kd.aI (qr eG) hb)
    replace iJ := ae.mk (Kd.aI (qr iJ) hb)
    replace gI := ae.mk (Kd.aI (qr gI) hb)
    replace jX := ae.mk (Kd.aI (qr jX) hb)
    replace lC := ae.mk (Kd.aI (qr lC) hb)
    replace ai := qbb ai hb
    replace au := qbb au hb
    replace aJ := qbb aJ hb
    replace HB := ae.mk (av (qw HB) hb)
    (try clear hb)
    (try clear hb2)
    (try clear hk)
    (try clear hi)
    refine hK.out _ _ ⟨(af ai.out 0).trans rfl, (af ai.out 1).trans rfl, (af au.out 0).trans rfl, (af au.out 1).trans rfl, (af aJ.out 0).trans rfl, (af aJ.out 1).trans rfl⟩ (fun hHeld => ?_)
    clear hK K
    refine eY (some 28) ?_
    refine cZ 11 (some 29) HT_ ?_
    refine cZ 12 (some 30) HT_ ?_
    refine fe 13 (some 31) HT_ ?_
    refine fe 14 (some 32) HT_ ?_
    refine fe 15 (some 33) HT_ ?_
    refine fe 16 (some 34) HT_ ?_
    refine fe 17 (some 35) HT_ ?_
    refine fe 18 (some 36) HT_ ?_
    refine fe 19 (some 37) HT_ ?_
    refine fe 20 (some 38) HT_ ?_
    refine fe 21 (some 39) HT_ ?_
    refine fe 22 (some 40) HT_ ?_
    refine fe 23 (some 41) HT_ ?_
    refine fe 24 (some 42) HT_ ?_
    refine cZ 25 (some 43) HT_ ?_
    refine nM HT_ ?_
    try go_wp2
    go_meet
    case rel => exact ⟨_, (true), (by first | rfl | (simp; done) | (simp [*]; done)), H', ⟨by first | omega | exact Nat.le_refl _⟩, ⟨by (with_reducible repeat (first | apply Kd.bu | apply Kd.bv | apply Kd.bg)); exact Kd.bG dL.out (fun _ hk => ⟨hk.1.1.1.1.1, hk.1.1.1.1.2⟩)⟩, ⟨by (with_reducible repeat (first | apply Kd.bu | apply Kd.bv | apply Kd.bg)); exact Kd.bG dQ.out (fun _ hk => ⟨hk.1.1.1.1.1, hk.1.1.1.1.2⟩)⟩, ⟨by (with_reducible repeat (first | apply Kd.bu | apply Kd.bv | apply Kd.bg)); exact Kd.bG eG.out (fun _ hk => ⟨hk.1.1.1.1.1, hk.1.1.1.1.2⟩)⟩, ⟨by (with_reducible repeat (first | refine bP ?_ _ | refine bf ?_ | refine bO ?_ _)); exact ai.out⟩, ⟨by (with_reducible repeat (first | refine bP ?_ _ | refine bf ?_ | refine bO ?_ _)); exact au.out⟩, ⟨by (with_reducible repeat (first | refine bP ?_ _ | refine bf ?_ | refine bO ?_ _)); exact aJ.out⟩, ⟨by repeat (first | (with_reducible first | exact HB.out | apply aM | apply aD | apply aH | refine aQ ?_ gB.out | refine aQ ?_ ib.out | refine aQ ?_ jB.out) | exact HB.out)⟩⟩
  case rest =>
   clear HC9
   try clear c1
   try clear c2
   try clear p2
   try clear c3
   try clear c8
   try clear c9
   try clear c10
   try clear c32
   obtain ⟨kq, zx, rfl, HA, HJ8, ay, ax, aG, ai, au, aJ, HB⟩ := hcut
   cases kq with
   | zero => exact absurd HA.out (by simp [ag.j0])
   | succ kj8 =>
    have H := HA.out
    clear HA
    simp only [ag.j0] at H
    by_cases c69 : zx = true
    ·subst c69
     have H1 : (some false) = some r := by rw [if_pos rfl] at H; exact H
     clear H
     have H := H1
     clear H1
     obtain rfl := Option.some.inj H
     go_wp2
     go_ret
     exact ⟨by first | rfl | (simp [errW_none, errW_some] <;> rfl) | (simp [*, errW_none, errW_some] <;> rfl), by repeat (first | (with_reducible first | exact HB.out | apply aM | apply aD | apply aH | refine aQ ?_ gB.out | refine aQ ?_ ib.out | refine aQ ?_ jB.out) | exact HB.out)⟩
    ·replace c69 := Bool.eq_false_iff.mpr c69
     subst c69
     have H1 : ((bE.f kj8 t109 bi eT dD).bind fun xL => ((bC.f kj8 t105 bA xL.1 xL.2).bind fun tZ => ((bC.f kj8 t105 bA t109 bi).bind fun qX => ((bC.f kj8 t105 bA eT dD).bind fun pJ => ((bE.f kj8 qX.1 qX.2 pJ.1 pJ.2).bind fun ol => ((aR.f kj8 tZ.1 tZ.2 ol.1 ol.2).bind fun t171 => (if t171 = true then ((bE.f kj8 t105 bA t109 bi).bind fun kV => ((jD.f kj8 kV.1 kV.2 t109 bi).bind fun kw => ((aR.f kj8 kw.1 kw.2 t105 bA).bind fun oO => (if oO = true then ((dn.f kj8 t105 bA t109 bi).bind fun nG => ((dn.f kj8 t109 bi t105 bA).bind fun t182 => (ag.j1 kj8 (nG != (wrap64 (-t182))) t105 bA t109 bi))) else (ag.j1 kj8 true t105 bA t109 bi))))) else (ag.j1 kj8 true t105 bA t109 bi)))))))) = some r := by rw [if_neg (show ¬ (false = true) by decide)] at H; exact H
     clear H
     have H := H1
     clear H1
     have HC70 := ae.mk H
     clear H
     go_upto_region 6 with (fail)
     go_cut [77] (fun v77 wc => ∃ (kq : Nat) (wU : Bool), v77 = .bool wU ∧ ae (ag.j1 kq wU t105 bA t109 bi = some r) ∧ ae (kq ≤ kj8) ∧ ae (Kd.R (Kd.int .u64) 64 wc w.heap.size (fun k_ => some k_ ≠ ((.slice fO bi.length fP) : Value).ownBlock ∧ some k_ ≠ ((.slice gN dD.length gM) : Value).ownBlock) (.slice fH bA.length fE) bA) ∧ ae (Kd.R (Kd.int .u64) 64 wc w.heap.size (fun k_ => some k_ ≠ ((.slice fH bA.length fE) : Value).ownBlock ∧ some k_ ≠ ((.slice gN dD.length gM) : Value).ownBlock) (.slice fO bi.length fP) bi) ∧ ae (Kd.R (Kd.int .u64) 64 wc w.heap.size (fun k_ => some k_ ≠ ((.slice fH bA.length fE) : Value).ownBlock ∧ some k_ ≠ ((.slice fO bi.length fP) : Value).ownBlock) (.slice gN dD.length gM) dD) ∧ ae (wc.heap[bM]? = some (.cells #[.bool t105, (.slice fH bA.length fE)] 25 (0, 0))) ∧ ae (wc.heap[cu]? = some (.cells #[.bool t109, (.slice fO bi.length fP)] 25 (0, 0))) ∧ ae (wc.heap[cB]? = some (.cells #[.bool eT, (.slice gN dD.length gM)] 25 (0, 0))) ∧ ae (Below w.heap.size w wc))
     case first =>
      have H := HC70.out
      clear HC70
      replace H := Option.bind_eq_some_iff.mp H
      obtain ⟨⟨vU, t152⟩, A710, H⟩ := H
      replace H : ((bC.f kj8 t105 bA vU t152).bind fun tZ => ((bC.f kj8 t105 bA t109 bi).bind fun qX => ((bC.f kj8 t105 bA eT dD).bind fun pJ => ((bE.f kj8 qX.1 qX.2 pJ.1 pJ.2).bind fun ol => ((aR.f kj8 tZ.1 tZ.2 ol.1 ol.2).bind fun t171 => (if t171 = true then ((bE.f kj8 t105 bA t109 bi).bind fun kV => ((jD.f kj8 kV.1 kV.2 t109 bi).bind fun kw => ((aR.f kj8 kw.1 kw.2 t105 bA).bind fun oO => (if oO = true then ((dn.f kj8 t105 bA t109 bi).bind fun nG => ((dn.f kj8 t109 bi t105 bA).bind fun t182 => (ag.j1 kj8 (nG != (wrap64 (-t182))) t105 bA t109 bi))) else (ag.j1 kj8 true t105 bA t109 bi))))) else (ag.j1 kj8 true t105 bA t109 bi))))))) = some r := H
      have A71 := ae.mk A710
      clear A710
      replace H := Option.bind_eq_some_iff.mp H
      obtain ⟨⟨tu, t156⟩, A720, H⟩ := H
      replace H : ((bC.f kj8 t105 bA t109 bi).bind fun qX => ((bC.f kj8 t105 bA eT dD).bind fun pJ => ((bE.f kj8 qX.1 qX.2 pJ.1 pJ.2).bind fun ol => ((aR.f kj8 tu t156 ol.1 ol.2).bind fun t171 => (if t171 = true then ((bE.f kj8 t105 bA t109 bi).bind fun kV => ((jD.f kj8 kV.1 kV.2 t109 bi).bind fun kw => ((aR.f kj8 kw.1 kw.2 t105 bA).bind fun oO => (if oO = true then ((dn.f kj8 t105 bA t109 bi).bind fun nG => ((dn.f kj8 t109 bi t105 bA).bind fun t182 => (ag.j1 kj8 (nG != (wrap64 (-t182))) t105 bA t109 bi))) else (ag.j1 kj8 true t105 bA t109 bi))))) else (ag.j1 kj8 true t105 bA t109 bi)))))) = some r := H
      have A72 := ae.mk A720
      clear A720
      replace H := Option.bind_eq_some_iff.mp H
      obtain ⟨⟨t159, t160⟩, A730, H⟩ := H
      replace H : ((bC.f kj8 t105 bA eT dD).bind fun pJ => ((bE.f kj8 t159 t160 pJ.1 pJ.2).bind fun ol => ((aR.f kj8 tu t156 ol.1 ol.2).bind fun t171 => (if t171 = true then ((bE.f kj8 t105 bA t109 bi).bind fun kV => ((jD.f kj8 kV.1 kV.2 t109 bi).bind fun kw => ((aR.f kj8 kw.1 kw.2 t105 bA).bind fun oO => (if oO = true then ((dn.f kj8 t105 bA t109 bi).bind fun nG => ((dn.f kj8 t109 bi t105 bA).bind fun t182 => (ag.j1 kj8 (nG != (wrap64 (-t182))) t105 bA t109 bi))) else (ag.j1 kj8 true t105 bA t109 bi))))) else (ag.j1 kj8 true t105 bA t109 bi))))) = some r := H
      have A73 := ae.mk A730
      clear A730
      replace H := Option.bind_eq_some_iff.mp H
      obtain ⟨⟨vV, t164⟩, A740, H⟩ := H
      replace H : ((bE.f kj8 t159 t160 vV t164).bind fun ol => ((aR.f kj8 tu t156 ol.1 ol.2).bind fun t171 => (if t171 = true then ((bE.f kj8 t105 bA t109 bi).bind fun kV => ((jD.f kj8 kV.1 kV.2 t109 bi).bind fun kw => ((aR.f kj8 kw.1 kw.2 t105 bA).bind fun oO => (if oO = true then ((dn.f kj8 t105 bA t109 bi).bind fun nG => ((dn.f kj8 t109 bi t105 bA).bind fun t182 => (ag.j1 kj8 (nG != (wrap64 (-t182))) t105 bA t109 bi))) else (ag.j1 kj8 true t105 bA t109 bi))))) else (ag.j1 kj8 true t105 bA t109 bi)))) = some r := H
      have A74 := ae.mk A740
      clear A740
      replace H := Option.bind_eq_some_iff.mp H
      obtain ⟨⟨t167, t168⟩, A750, H⟩ := H
      replace H : ((aR.f kj8 tu t156 t167 t168).bind fun t171 => (if t171 = true then ((bE.f kj8 t105 bA t109 bi).bind fun kV => ((jD.f kj8 kV.1 kV.2 t109 bi).bind fun kw => ((aR.f kj8 kw.1 kw.2 t105 bA).bind fun oO => (if oO = true then ((dn.f kj8 t105 bA t109 bi).bind fun nG => ((dn.f kj8 t109 bi t105 bA).bind fun t182 => (ag.j1 kj8 (nG != (wrap64 (-t182))) t105 bA t109 bi))) else (ag.j1 kj8 true t105 bA t109 bi))))) else (ag.j1 kj8 true t105 bA t109 bi))) = some r := H
      have A75 := ae.mk A750
      clear A750
      replace H := Option.bind_eq_some_iff.mp H
      obtain ⟨t171, A760, H⟩ := H
      replace H : (if t171 = true then ((bE.f kj8 t105 bA t109 bi).bind fun kV => ((jD.f kj8 kV.1 kV.2 t109 bi).bind fun kw => ((aR.f kj8 kw.1 kw.2 t105 bA).bind fun oO => (if oO = true then ((dn.f kj8 t105 bA t109 bi).bind fun nG => ((dn.f kj8 t109 bi t105 bA).bind fun t182 => (ag.j1 kj8 (nG != (wrap64 (-t182))) t105 bA t109 bi))) else (ag.j1 kj8 true t105 bA t109 bi))))) else (ag.j1 kj8 true t105 bA t109 bi)) = some r := H
      have A76 := ae.mk A760
      clear A760
      by_cases c77 : t171 = true
      ·subst c77
       have H1 : ((bE.f kj8 t105 bA t109 bi).bind fun kV => ((jD.f kj8 kV.1 kV.2 t109 bi).bind fun kw => ((aR.f kj8 kw.1 kw.2 t105 bA).bind fun oO => (if oO = true then ((dn.f kj8 t105 bA t109 bi).bind fun nG => ((dn.f kj8 t109 bi t105 bA).bind fun t182 => (ag.j1 kj8 (nG != (wrap64 (-t182))) t105 bA t109 bi))) else (ag.j1 kj8 true t105 bA t109 bi))))) = some r := by rw [if_pos rfl] at H; exact H
       clear H
       have H := H1
       clear H1
       replace H := Option.bind_eq_some_iff.mp H
       obtain ⟨⟨yO, t173⟩, A780, H⟩ := H
       replace H : ((jD.f kj8 yO t173 t109 bi).bind fun kw => ((aR.f kj8 kw.1 kw.2 t105 bA).bind fun oO => (if oO = true then ((dn.f kj8 t105 bA t109 bi).bind fun nG => ((dn.f kj8 t109 bi t105 bA).bind fun t182 => (ag.j1 kj8 (nG != (wrap64 (-t182))) t105 bA t109 bi))) else (ag.j1 kj8 true t105 bA t109 bi)))) = some r := H
       have A78 := ae.mk A780
       clear A780
       replace H := Option.bind_eq_some_iff.mp H
       obtain ⟨⟨yP, yQ⟩, A790, H⟩ := H
       replace H : ((aR.f kj8 yP yQ t105 bA).bind fun oO => (if oO = true then ((dn.f kj8 t105 bA t109 bi).bind fun nG => ((dn.f kj8 t109 bi t105 bA).bind fun t182 => (ag.j1 kj8 (nG != (wrap64 (-t182))) t105 bA t109 bi))) else (ag.j1 kj8 true t105 bA t109 bi))) = some r := H
       have A79 := ae.mk A790
       clear A790
       replace H := Option.bind_eq_some_iff.mp H
       obtain ⟨oO, A800, H⟩ := H
       replace H : (if oO = true then ((dn.f kj8 t105 bA t109 bi).bind fun nG => ((dn.f kj8 t109 bi t105 bA).bind fun t182 => (ag.j1 kj8 (nG != (wrap64 (-t182))) t105 bA t109 bi))) else (ag.j1 kj8 true t105 bA t109 bi)) = some r := H
       have A80 := ae.mk A800
       clear A800
       by_cases c81 : oO = true
       ·subst c81
        have H1 : ((dn.f kj8 t105 bA t109 bi).bind fun nG => ((dn.f kj8 t109 bi t105 bA).bind fun t182 => (ag.j1 kj8 (nG != (wrap64 (-t182))) t105 bA t109 bi))) = some r := by rw [if_pos rfl] at H; exact H
        clear H
        have H := H1
        clear H1
        replace H := Option.bind_eq_some_iff.mp H
        obtain ⟨nG, A820, H⟩ := H
        replace H : ((dn.f kj8 t109 bi t105 bA).bind fun t182 => (ag.j1 kj8 (nG != (wrap64 (-t182))) t105 bA t109 bi)) = some r := H
        have A82 := ae.mk A820
        clear A820
        replace H := Option.bind_eq_some_iff.mp H
        obtain ⟨t182, A830, H⟩ := H
        replace H : (ag.j1 kj8 (nG != (wrap64 (-t182))) t105 bA t109 bi) = some r := H
        have A83 := ae.mk A830
        clear A830
        have H' := ae.mk H
        clear H
        try go_wp2
        replace ay := ae.mk (Kd.bg ay.out)
        replace ax := ae.mk (Kd.bg ax.out)
        replace aG := ae.mk (Kd.bg aG.out)
        replace ai := ae.mk (bf ai.out)
        replace au := ae.mk (bf au.out)
        replace aJ := ae.mk (bf aJ.out)
        replace HB := ae.mk (aH HB.out)
        refine j6 (n := 34) (S := fun w' => w'.cell? ⟨bM, 0, none⟩ = some (.bool t105) ∧ w'.cell? ⟨bM, 1, none⟩ = some (.slice fH bA.length fE) ∧ w'.cell? ⟨cu, 0, none⟩ = some (.bool t109) ∧ w'.cell? ⟨cu, 1, none⟩ = some (.slice fO bi.length fP) ∧ w'.cell? ⟨cB, 0, none⟩ = some (.bool eT) ∧ w'.cell? ⟨cB, 1, none⟩ = some (.slice gN dD.length gM)) (ds := []) #[bF,bF,bF,bF,bF,bF,bF,bF,bF,bF,bF,bF,bF,bF,bF,bF,bF,bF,bF,bF,bF,bF,bF,bF,bF,bF,bF,bF,bF,bF,bF,bF,bF,bF] (by kernel_rfl) rfl rfl ⟨(af ai.out 0).trans rfl, (af ai.out 1).trans rfl, (af au.out 0).trans rfl, (af au.out 1).trans rfl, (af aJ.out 0).trans rfl, (af aJ.out 1).trans rfl⟩ (fun hHeld => ?_); refine iQ ag.Ff ag.BL (fun HT_ HW_ => ?_)
        generalize wc.drew = w84 at ay ax aG ai au aJ HB hHeld ⊢
        refine eU 0 (some 44) HT_ HW_ hHeld ?_
        refine eU 1 (some 45) HT_ HW_ hHeld ?_
        refine eU 2 (some 46) HT_ HW_ hHeld ?_
        refine eU 5 (some 49) HT_ HW_ hHeld ?_
        refine eU 6 (some 50) HT_ HW_ hHeld ?_
        refine eU 8 (some 52) HT_ HW_ hHeld ?_
        refine eU 9 (some 53) HT_ HW_ hHeld ?_
        refine gU 3 (some 47) HT_ (fun K hK => ?_)
        refine fo Tryd.func9 #[.agg #[.bool t109, .slice fO bi.length fP], .agg #[.bool eT, .slice gN dD.length gM]] ?_
        with_reducible refine (bE.calls kj8 t109 _ _ bi eT _ _ dD vU t152 _ ?aU ?aV ?bJ ?bK A71.out).mono ?_
        (case aU => exact qs ((Kd.ak ax.out).2.2))
        (case aV => exact (Kd.ak ax.out).2.1)
        (case bJ => exact qs ((Kd.ak aG.out).2.2))
        (case bK => exact (Kd.ak aG.out).2.1)
        rintro e w85 ⟨v153, rfl, ho0, hb⟩
        refine ⟨_, rfl, ?_⟩
        have gq := ae.mk (Kd.bz (Kd.aA (Kd.aA (Kd.aA ho0 (Kd.aY (qr ay))) (Kd.aY (qr ax))) (Kd.aY (qr aG))) (aN (qw HB)))
        replace ay := ae.mk (Kd.aj (qr ay) (Kd.az ho0) hb)
        replace ax := ae.mk (Kd.aj (qr ax) (Kd.az ho0) hb)
        replace aG := ae.mk (Kd.aj (qr aG) (Kd.az ho0) hb)
        replace ai := qbb ai hb
        replace au := qbb au hb
        replace aJ := qbb aJ hb
        replace HB := ae.mk (av (qw HB) hb)
        (try clear hb)
        (try clear hb2)
        (try clear hk)
        (try clear hi)
        (try clear ho0)
        obtain ⟨JY, JZ, GR⟩ := Kd.bD gq.out
        (first | subst GR | (injection GR with f1_ f2_ f3_; have f4_ := f1_.symm; have f5_ := f3_.symm; clear f1_ f2_ f3_; subst f4_; subst f5_))
        refine hK.out _ _ ⟨(af ai.out 0).trans rfl, (af ai.out 1).trans rfl, (af au.out 0).trans rfl, (af au.out 1).trans rfl, (af aJ.out 0).trans rfl, (af aJ.out 1).trans rfl⟩ (fun hHeld => ?_)
        clear hK K
        refine eY (some 47) ?_
        refine gU 4 (some 48) HT_ (fun K hK => ?_)
        refine fo Tryd.func10 #[.agg #[.bool t105, .slice fH bA.length fE], .agg #[.bool vU, .slice JY t152.length JZ]] ?_
        with_reducible refine (bC.calls kj8 t105 _ _ bA vU _ _ t152 tu t156 _ ?aU ?aV ?bJ ?bK A72.out).mono ?_
        (case aU => exact qs ((Kd.ak ay.out).2.2))
        (case aV => exact (Kd.ak ay.out).2.1)
        (case bJ => exact qs ((Kd.ak gq.out).2.2))
        (case bK => exact (Kd.ak gq.out).2.1)
        rintro e w87 ⟨v157, rfl, ho0, hb⟩
        refine ⟨_, rfl, ?_⟩
        have gL := ae.mk (Kd.bz (Kd.aA (Kd.aA (Kd.aA (Kd.aA ho0 (Kd.aY (qr ay))) (Kd.aY (qr ax))) (Kd.aY (qr aG))) (Kd.aY (qr gq))) (aN (qw HB)))
        replace ay := ae.mk (Kd.aj (qr ay) (Kd.az ho0) hb)
        replace ax := ae.mk (Kd.aj (qr ax) (Kd.az ho0) hb)
        replace aG := ae.mk (Kd.aj (qr aG) (Kd.az ho0) hb)
        replace gq := ae.mk (Kd.aj (qr gq) (Kd.az ho0) hb)
        replace ai := qbb ai hb
        replace au := qbb au hb
        replace aJ := qbb aJ hb
        replace HB := ae.mk (av (qw HB) hb)
        (try clear hb)
        (try clear hb2)
        (try clear hk)
        (try clear hi)
        (try clear ho0)
        refine hK.out _ _ ⟨(af ai.out 0).trans rfl, (af ai.out 1).trans rfl, (af au.out 0).trans rfl, (af au.out 1).trans rfl, (af aJ.out 0).trans rfl, (af aJ.out 1).trans rfl⟩ (fun hHeld => ?_)
        clear hK K
        refine eY (some 48) ?_
        refine gU 7 (some 51) HT_ (fun K hK => ?_)
        refine fo Tryd.func10 #[.agg #[.bool t105, .slice fH bA.length fE], .agg #[.bool t109, .slice fO bi.length fP]] ?_
        with_reducible refine (bC.calls kj8 t105 _ _ bA t109 _ _ bi t159 t160 _ ?aU ?aV ?bJ ?bK A73.out).mono ?_
        (case aU => exact qs ((Kd.ak ay.out).2.2))
        (case aV => exact (Kd.ak ay.out).2.1)
        (case bJ => exact qs ((Kd.ak ax.out).2.2))
        (case bK => exact (Kd.ak ax.out).2.1)
        rintro e w88 ⟨v161, rfl, ho0, hb⟩
        refine ⟨_, rfl, ?_⟩
        have gY := ae.mk (Kd.bz (Kd.aA (Kd.aA (Kd.aA (Kd.aA (Kd.aA ho0 (Kd.aY (qr ay))) (Kd.aY (qr ax))) (Kd.aY (qr aG))) (Kd.aY (qr gq))) (Kd.aY (qr gL))) (aN (qw HB)))
        replace ay := ae.mk (Kd.aj (qr ay) (Kd.az ho0) hb)
        replace ax := ae.mk (Kd.aj (qr ax) (Kd.az ho0) hb)
        replace aG := ae.mk (Kd.aj (qr aG) (Kd.az ho0) hb)
        replace gq := ae.mk (Kd.aj (qr gq) (Kd.az ho0) hb)
        replace gL := ae.mk (Kd.aj (qr gL) (Kd.az ho0) hb)
        replace ai := qbb ai hb
        replace au := qbb au hb
        replace aJ := qbb aJ hb
        replace HB := ae.mk (av (qw HB) hb)
        (try clear hb)
        (try clear hb2)
        (try clear hk)
        (try clear hi)
        (try clear ho0)
        refine hK.out _ _ ⟨(af ai.out 0).trans rfl, (af ai.out 1).trans rfl, (af au.out 0).trans rfl, (af au.out 1).trans rfl, (af aJ.out 0).trans rfl, (af aJ.out 1).trans rfl⟩ (fun hHeld => ?_)
        clear hK K
        refine eY (some 51) ?_
        refine gU 10 (some 54) HT_ (fun K hK => ?_)
        refine fo Tryd.func10 #[.agg #[.bool t105, .slice fH bA.length fE], .agg #[.bool eT, .slice gN dD.length gM]] ?_
        with_reducible refine (bC.calls kj8 t105 _ _ bA eT _ _ dD vV t164 _ ?aU ?aV ?bJ ?bK A74.out).mono ?_
        (case aU => exact qs ((Kd.ak ay.out).2.2))
        (case aV => exact (Kd.ak ay.out).2.1)
        (case bJ => exact qs ((Kd.ak aG.out).2.2))
        (case bK => exact (Kd.ak aG.out).2.1)
        rintro e w89 ⟨v165, rfl, ho0, hb⟩
        refine ⟨_, rfl, ?_⟩
        have iG := ae.mk (Kd.bz (Kd.aA (Kd.aA (Kd.aA (Kd.aA (Kd.aA (Kd.aA ho0 (Kd.aY (qr ay))) (Kd.aY (qr ax))) (Kd.aY (qr aG))) (Kd.aY (qr gq))) (Kd.aY (qr gL))) (Kd.aY (qr gY))) (aN (qw HB)))
        replace ay := ae.mk (Kd.aj (qr ay) (Kd.az ho0) hb)
        replace ax := ae.mk (Kd.aj (qr ax) (Kd.az ho0) hb)
        replace aG := ae.mk (Kd.aj (qr aG) (Kd.az ho0) hb)
        replace gq := ae.mk (Kd.aj (qr gq) (Kd.az ho0) hb)
        replace gL := ae.mk (Kd.aj (qr gL) (Kd.az ho0) hb)
        replace gY := ae.mk (Kd.aj (qr gY) (Kd.az ho0) hb)
        replace ai := qbb ai hb
        replace au := qbb au hb
        replace aJ := qbb aJ hb
        replace HB := ae.mk (av (qw HB) hb)
        (try clear hb)
        (try clear hb2)
        (try clear hk)
        (try clear hi)
        (try clear ho0)
        obtain ⟨J2, J3, GU⟩ := Kd.bD gY.out
        (first | subst GU | (injection GU with f1_ f2_ f3_; have f4_ := f1_.symm; have f5_ := f3_.symm; clear f1_ f2_ f3_; subst f4_; subst f5_))
        obtain ⟨J4, J5, GV⟩ := Kd.bD iG.out
        (first | subst GV | (injection GV with f1_ f2_ f3_; have f4_ := f1_.symm; have f5_ := f3_.symm; clear f1_ f2_ f3_; subst f4_; subst f5_))
        refine hK.out _ _ ⟨(af ai.out 0).trans rfl, (af ai.out 1).trans rfl, (af au.out 0).trans rfl, (af au.out 1).trans rfl, (af aJ.out 0).trans rfl, (af aJ.out 1).trans rfl⟩ (fun hHeld => ?_)
        clear hK K
        refine eY (some 54) ?_
        refine gU 11 (some 55) HT_ (fun K hK => ?_)
        refine fo Tryd.func9 #[.agg #[.bool t159, .slice J2 t160.length J3], .agg #[.bool vV, .slice J4 t164.length J5]] ?_
        with_reducible refine (bE.calls kj8 t159 _ _ t160 vV _ _ t164 t167 t168 _ ?aU ?aV ?bJ ?bK A75.out).mono ?_
        (case aU => exact qs ((Kd.ak gY.out).2.2))
        (case aV => exact (Kd.ak gY.out).2.1)
        (case bJ => exact qs ((Kd.ak iG.out).2.2))
        (case bK => exact (Kd.ak iG.out).2.1)
        rintro e w92 ⟨v169, rfl, ho0, hb⟩
        refine ⟨_, rfl, ?_⟩
        have jC := ae.mk (Kd.bz (Kd.aA (Kd.aA (Kd.aA (Kd.aA (Kd.aA (Kd.aA (Kd.aA ho0 (Kd.aY (qr ay))) (Kd.aY (qr ax))) (Kd.aY (qr aG))) (Kd.aY (qr gq))) (Kd.aY (qr gL))) (Kd.aY (qr gY))) (Kd.aY (qr iG))) (aN (qw HB)))
        replace ay := ae.mk (Kd.aj (qr ay) (Kd.az ho0) hb)
        replace ax := ae.mk (Kd.aj (qr ax) (Kd.az ho0) hb)
        replace aG := ae.mk (Kd.aj (qr aG) (Kd.az ho0) hb)
        replace gq := ae.mk (Kd.aj (qr gq) (Kd.az ho0) hb)
        replace gL := ae.mk (Kd.aj (qr gL) (Kd.az ho0) hb)
        replace gY := ae.mk (Kd.aj (qr gY) (Kd.az ho0) hb)
        replace iG := ae.mk (Kd.aj (qr iG) (Kd.az ho0) hb)
        replace ai := qbb ai hb
        replace au := qbb au hb
        replace aJ := qbb aJ hb
        replace HB := ae.mk (av (qw HB) hb)
        (try clear hb)
        (try clear hb2)
        (try clear hk)
        (try clear hi)
        (try clear ho0)
        obtain ⟨J6, J7, GX⟩ := Kd.bD gL.out
        (first | subst GX | (injection GX with f1_ f2_ f3_; have f4_ := f1_.symm; have f5_ := f3_.symm; clear f1_ f2_ f3_; subst f4_; subst f5_))
        obtain ⟨J8, J9, GY⟩ := Kd.bD jC.out
        (first | subst GY | (injection GY with f1_ f2_ f3_; have f4_ := f1_.symm; have f5_ := f3_.symm; clear f1_ f2_ f3_; subst f4_; subst f5_))
        refine hK.out _ _ ⟨(af ai.out 0).trans rfl, (af ai.out 1).trans rfl, (af au.out 0).trans rfl, (af au.out 1).trans rfl, (af aJ.out 0).trans rfl, (af aJ.out 1).trans rfl⟩ (fun hHeld => ?_)
        clear hK K
        refine eY (some 55) ?_
        refine gU 12 (some 56) HT_ (fun K hK => ?_)
        refine fo Tryd.func8 #[.agg #[.bool tu, .slice J6 t156.length J7], .agg #[.bool t167, .slice J8 t168.length J9]] ?_
        with_reducible refine (aR.calls kj8 tu _ _ t156 t167 _ _ t168 true _ ?aU ?aV ?bJ ?bK A76.out).mono ?_
        (case aU => exact qs ((Kd.ak gL.out).2.2))
        (case aV => exact (Kd.ak gL.out).2.1)
        (case bJ => exact qs ((Kd.ak jC.out).2.2))
        (case bK => exact (Kd.ak jC.out).2.1)
        rintro e w95 ⟨rfl, hb⟩
        refine ⟨_, rfl, ?_⟩
        replace ay := ae.mk (Kd.aI (qr ay) hb)
        replace ax := ae.mk (Kd.aI (qr ax) hb)
        replace aG := ae.mk (Kd.aI (qr aG) hb)
        replace gq := ae.mk (Kd.aI (qr gq) hb)
        replace gL := ae.mk (Kd.aI (qr gL) hb)
        replace gY := ae.mk (Kd.aI (qr gY) hb)
        replace iG := ae.mk (Kd.aI (qr iG) hb)
        replace jC := ae.mk (Kd.aI (qr jC) hb)
        replace ai := qbb ai hb
        replace au := qbb au hb
        replace aJ := qbb aJ hb
        replace HB := ae.mk (av (qw HB) hb)
        (try clear hb)
        (try clear hb2)
        (try clear hk)
        (try clear hi)
        refine hK.out _ _ ⟨(af ai.out 0).trans rfl, (af ai.out 1).trans rfl, (af au.out 0).trans rfl, (af au.out 1).trans rfl, (af aJ.out 0).trans rfl, (af aJ.out 1).trans rfl⟩ (fun hHeld => ?_)
        clear hK K
        refine eY (some 56) ?_
        refine cZ 13 (some 57) HT_ ?_
        refine cZ 14 (some 58) HT_ ?_
        refine eU 15 (some 59) HT_ HW_ hHeld ?_
        refine eU 16 (some 60) HT_ HW_ hHeld ?_
        refine eU 18 (some 62) HT_ HW_ hHeld ?_
        refine eU 20 (some 64) HT_ HW_ hHeld ?_
        refine gU 17 (some 61) HT_ (fun K hK => ?_)
        refine fo Tryd.func9 #[.agg #[.bool t105, .slice fH bA.length fE], .agg #[.bool t109, .slice fO bi.length fP]] ?_
        with_reducible refine (bE.calls kj8 t105 _ _ bA t109 _ _ bi yO t173 _ ?aU ?aV ?bJ ?bK A78.out).mono ?_
        (case aU => exact qs ((Kd.ak ay.out).2.2))
        (case aV => exact (Kd.ak ay.out).2.1)
        (case bJ => exact qs ((Kd.ak ax.out).2.2))
        (case bK => exact (Kd.ak ax.out).2.1)
        rintro e w96 ⟨v174, rfl, ho0, hb⟩
        refine ⟨_, rfl, ?_⟩
        have nC := ae.mk (Kd.bz (Kd.aA (Kd.aA (Kd.aA (Kd.aA (Kd.aA (Kd.aA (Kd.aA (Kd.aA ho0 (Kd.aY (qr ay))) (Kd.aY (qr ax))) (Kd.aY (qr aG))) (Kd.aY (qr gq))) (Kd.aY (qr gL))) (Kd.aY (qr gY))) (Kd.aY (qr iG))) (Kd.aY (qr jC))) (aN (qw HB)))
        replace ay := ae.mk (Kd.aj (qr ay) (Kd.az ho0) hb)
        replace ax := ae.mk (Kd.aj (qr ax) (Kd.az ho0) hb)
        replace aG := ae.mk (Kd.aj (qr aG) (Kd.az ho0) hb)
        replace gq := ae.mk (Kd.aj (qr gq) (Kd.az ho0) hb)
        replace gL := ae.mk (Kd.aj (qr gL) (Kd.az ho0) hb)
        replace gY := ae.mk (Kd.aj (qr gY) (Kd.az ho0) hb)
        replace iG := ae.mk (Kd.aj (qr iG) (Kd.az ho0) hb)
        replace jC := ae.mk (Kd.aj (qr jC) (Kd.az ho0) hb)
        replace ai := qbb ai hb
        replace au := qbb au hb
        replace aJ := qbb aJ hb
        replace HB := ae.mk (av (qw HB) hb)
        (try clear hb)
        (try clear hb2)
        (try clear hk)
        (try clear hi)
        (try clear ho0)
        obtain ⟨Ka, Kb, GZ⟩ := Kd.bD nC.out
        (first | subst GZ | (injection GZ with f1_ f2_ f3_; have f4_ := f1_.symm; have f5_ := f3_.symm; clear f1_ f2_ f3_; subst f4_; subst f5_))
        refine hK.out _ _ ⟨(af ai.out 0).trans rfl, (af ai.out 1).trans rfl, (af au.out 0).trans rfl, (af au.out 1).trans rfl, (af aJ.out 0).trans rfl, (af aJ.out 1).trans rfl⟩ (fun hHeld => ?_)
        clear hK K
        refine eY (some 61) ?_
        refine gU 19 (some 63) HT_ (fun K hK => ?_)
        refine fo Tryd.func11 #[.agg #[.bool yO, .slice Ka t173.length Kb], .agg #[.bool t109, .slice fO bi.length fP]] ?_
        with_reducible refine (jD.calls kj8 yO _ _ t173 t109 _ _ bi yP yQ _ ?aU ?aV ?bJ ?bK A79.out).mono ?_
        (case aU => exact qs ((Kd.ak nC.out).2.2))
        (case aV => exact (Kd.ak nC.out).2.1)
        (case bJ => exact qs ((Kd.ak ax.out).2.2))
        (case bK => exact (Kd.ak ax.out).2.1)
        rintro e w98 ⟨v178, rfl, ho0, hb⟩
        refine ⟨_, rfl, ?_⟩
        have o8 := ae.mk (Kd.bz (Kd.aA (Kd.aA (Kd.aA (Kd.aA (Kd.aA (Kd.aA (Kd.aA (Kd.aA (Kd.aA ho0 (Kd.aY (qr ay))) (Kd.aY (qr ax))) (Kd.aY (qr aG))) (Kd.aY (qr gq))) (Kd.aY (qr gL))) (Kd.aY (qr gY))) (Kd.aY (qr iG))) (Kd.aY (qr jC))) (Kd.aY (qr nC))) (aN (qw HB)))
        replace ay := ae.mk (Kd.aj (qr ay) (Kd.az ho0) hb)
        replace ax := ae.mk (Kd.aj (qr ax) (Kd.az ho0) hb)
        replace aG := ae.mk (Kd.aj (qr aG) (Kd.az ho0) hb)
        replace gq := ae.mk (Kd.aj (qr gq) (Kd.az ho0) hb)
        replace gL := ae.mk (Kd.aj (qr gL) (Kd.az ho0) hb)
        replace gY := ae.mk (Kd.aj (qr gY) (Kd.az ho0) hb)
        replace iG := ae.mk (Kd.aj (qr iG) (Kd.az ho0) hb)
        replace jC := ae.mk (Kd.aj (qr jC) (Kd.az ho0) hb)
        replace nC := ae.mk (Kd.aj (qr nC) (Kd.az ho0) hb)
        replace ai := qbb ai hb
        replace au := qbb au hb
        replace aJ := qbb aJ hb
        replace HB := ae.mk (av (qw HB) hb)
        (try clear hb)
        (try clear hb2)
        (try clear hk)
        (try clear hi)
        (try clear ho0)
        obtain ⟨Ke, Kg, G5⟩ := Kd.bD o8.out
        (first | subst G5 | (injection G5 with f1_ f2_ f3_; have f4_ := f1_.symm; have f5_ := f3_.symm; clear f1_ f2_ f3_; subst f4_; subst f5_))
        refine hK.out _ _ ⟨(af ai.out 0).trans rfl, (af ai.out 1).trans rfl, (af au.out 0).trans rfl, (af au.out 1).trans rfl, (af aJ.out 0).trans rfl, (af aJ.out 1).trans rfl⟩ (fun hHeld => ?_)
        clear hK K
        refine eY (some 63) ?_
        refine gU 21 (some 65) HT_ (fun K hK => ?_)
        refine fo Tryd.func8 #[.agg #[.bool yP, .slice Ke yQ.length Kg], .agg #[.bool t105, .slice fH bA.length fE]] ?_
        with_reducible refine (aR.calls kj8 yP _ _ yQ t105 _ _ bA true _ ?aU ?aV ?bJ ?bK A80.out).mono ?_
        (case aU => exact qs ((Kd.ak o8.out).2.2))
        (case aV => exact (Kd.ak o8.out).2.1)
        (case bJ => exact qs ((Kd.ak ay.out).2.2))
        (case bK => exact (Kd.ak ay.out).2.1)
        rintro e w100 ⟨rfl, hb⟩
        refine ⟨_, rfl, ?_⟩
        replace ay := ae.mk (Kd.aI (qr ay) hb)
        replace ax := ae.mk (Kd.aI (qr ax) hb)
        replace aG := ae.mk (Kd.aI (qr aG) hb)
        replace gq := ae.mk (Kd.aI (qr gq) hb)
        replace gL := ae.mk (Kd.aI (qr gL) hb)
        replace gY := ae.mk (Kd.aI (qr gY) hb)
        replace iG := ae.mk (Kd.aI (qr iG) hb)
        replace jC := ae.mk (Kd.aI (qr jC) hb)
        replace nC := ae.mk (Kd.aI (qr nC) hb)
        replace o8 := ae.mk (Kd.aI (qr o8) hb)
        replace ai := qbb ai hb
        replace au := qbb au hb
        replace aJ := qbb aJ hb
        replace HB := ae.mk (av (qw HB) hb)
        (try clear hb)
        (try clear hb2)
        (try clear hk)
        (try clear hi)
        refine hK.out _ _ ⟨(af ai.out 0).trans rfl, (af ai.out 1).trans rfl, (af au.out 0).trans rfl, (af au.out 1).trans rfl, (af aJ.out 0).trans rfl, (af aJ.out 1).trans rfl⟩ (fun hHeld => ?_)
        clear hK K
        refine eY (some 65) ?_
        refine cZ 22 (some 66) HT_ ?_
        refine cZ 23 (some 67) HT_ ?_
        refine cZ 24 (some 68) HT_ ?_
        refine eU 25 (some 69) HT_ HW_ hHeld ?_
        refine eU 26 (some 70) HT_ HW_ hHeld ?_
        refine eU 28 (some 72) HT_ HW_ hHeld ?_
        refine eU 29 (some 73) HT_ HW_ hHeld ?_
        refine gU 27 (some 71) HT_ (fun K hK => ?_)
        refine fo Tryd.func12 #[.agg #[.bool t105, .slice fH bA.length fE], .agg #[.bool t109, .slice fO bi.length fP]] ?_
        with_reducible refine (dn.calls kj8 t105 _ _ bA t109 _ _ bi nG _ ?aU ?aV ?bJ ?bK A82.out).mono ?_
        (case aU => exact qs ((Kd.ak ay.out).2.2))
        (case aV => exact (Kd.ak ay.out).2.1)
        (case bJ => exact qs ((Kd.ak ax.out).2.2))
        (case bK => exact (Kd.ak ax.out).2.1)
        rintro e w101 ⟨rfl, hb⟩
        refine ⟨_, rfl, ?_⟩
        replace ay := ae.mk (Kd.aI (qr ay) hb)
        replace ax := ae.mk (Kd.aI (qr ax) hb)
        replace aG := ae.mk (Kd.aI (qr aG) hb)
        replace gq := ae.mk (Kd.aI (qr gq) hb)
        replace gL := ae.mk (Kd.aI (qr gL) hb)
        replace gY := ae.mk (Kd.aI (qr gY) hb)
        replace iG := ae.mk (Kd.aI (qr iG) hb)
        replace jC := ae.mk (Kd.aI (qr jC) hb)
        replace nC := ae.mk (Kd.aI (qr nC) hb)
        replace o8 := ae.mk (Kd.aI (qr o8) hb)
        replace ai := qbb ai hb
        replace au := qbb au hb
        replace aJ := qbb aJ hb
        replace HB := ae.mk (av (qw HB) hb)
        (try clear hb)
        (try clear hb2)
        (try clear hk)
        (try clear hi)
        refine hK.out _ _ ⟨(af ai.out 0).trans rfl, (af ai.out 1).trans rfl, (af au.out 0).trans rfl, (af au.out 1).trans rfl, (af aJ.out 0).trans rfl, (af aJ.out 1).trans rfl⟩ (fun hHeld => ?_)
        clear hK K
        refine eY (some 71) ?_
        refine gU 30 (some 74) HT_ (fun K hK => ?_)
        refine fo Tryd.func12 #[.agg #[.bool t109, .slice fO bi.length fP], .agg #[.bool t105, .slice fH bA.length fE]] ?_
        with_reducible refine (dn.calls kj8 t109 _ _ bi t105 _ _ bA t182 _ ?aU ?aV ?bJ ?bK A83.out).mono ?_
        (case aU => exact qs ((Kd.ak ax.out).2.2))
        (case aV => exact (Kd.ak ax.out).2.1)
        (case bJ => exact qs ((Kd.ak ay.out).2.2))
        (case bK => exact (Kd.ak ay.out).2.1)
        rintro e w102 ⟨rfl, hb⟩
        refine ⟨_, rfl, ?_⟩
        replace ay := ae.mk (Kd.aI (qr ay) hb)
        replace ax := ae.mk (Kd.aI (qr ax) hb)
        replace aG := ae.mk (Kd.aI (qr aG) hb)
        replace gq := ae.mk (Kd.aI (qr gq) hb)
        replace gL := ae.mk (Kd.aI (qr gL) hb)
        replace gY := ae.mk (Kd.aI (qr gY) hb)
        replace iG := ae.mk (Kd.aI (qr iG) hb)
        replace jC := ae.mk (Kd.aI (qr jC) hb)
        replace nC := ae.mk (Kd.aI (qr nC) hb)
        replace o8 := ae.mk (Kd.aI (qr o8) hb)
        replace ai := qbb ai hb
        replace au := qbb au hb
        replace aJ := qbb aJ hb
        replace HB := ae.mk (av (qw HB) hb)
        (try clear hb)
        (try clear hb2)
        (try clear hk)
        (try clear hi)
        refine hK.out _ _ ⟨(af ai.out 0).trans rfl, (af ai.out 1).trans rfl, (af au.out 0).trans rfl, (af au.out 1).trans rfl, (af aJ.out 0).trans rfl, (af aJ.out 1).trans rfl⟩ (fun hHeld => ?_)
        clear hK K
        refine eY (some 74) ?_
        refine cZ 31 (some 75) HT_ ?_
        refine cZ 32 (some 76) HT_ ?_
        refine cZ 33 (some 77) HT_ ?_
        refine nM HT_ ?_
        try go_wp2
        go_meet
        case rel => exact ⟨_, ((nG != (wrap64 (-t182)))), (by first | rfl | (simp; done) | (simp [*]; done)), H', ⟨by have := HJ8.out; first | omega | exact Nat.le_refl _⟩, ⟨by (with_reducible repeat (first | apply Kd.bu | apply Kd.bv | apply Kd.bg)); exact Kd.bG ay.out (fun _ hk => ⟨hk.1.1.1.1.1.1.1.1, hk.1.1.1.1.1.1.1.2⟩)⟩, ⟨by (with_reducible repeat (first | apply Kd.bu | apply Kd.bv | apply Kd.bg)); exact Kd.bG ax.out (fun _ hk => ⟨hk.1.1.1.1.1.1.1.1, hk.1.1.1.1.1.1.1.2⟩)⟩, ⟨by (with_reducible repeat (first | apply Kd.bu | apply Kd.bv | apply Kd.bg)); exact Kd.bG aG.out (fun _ hk => ⟨hk.1.1.1.1.1.1.1.1, hk.1.1.1.1.1.1.1.2⟩)⟩, ⟨by (with_reducible repeat (first | refine bP ?_ _ | refine bf ?_ | refine bO ?_ _)); exact ai.out⟩, ⟨by (with_reducible repeat (first | refine bP ?_ _ | refine bf ?_ | refine bO ?_ _)); exact au.out⟩, ⟨by (with_reducible repeat (first | refine bP ?_ _ | refine bf ?_ | refine bO ?_ _)); exact aJ.out⟩, ⟨by repeat (first | (with_reducible first | exact HB.out | apply aM | apply aD | apply aH | refine aQ ?_ gB.out | refine aQ ?_ ib.out | refine aQ ?_ jB.out) | exact HB.out)⟩⟩
       ·replace c81 := Bool.eq_false_iff.mpr c81
        subst c81
        have H1 : (ag.j1 kj8 true t105 bA t109 bi) = some r := by rw [if_neg (show ¬ (false = true) by decide)] at H; exact H
        clear H
        have H := H1
        clear H1
        have H' := ae.mk H
        clear H
        try go_wp2
        replace ay := ae.mk (Kd.bg ay.out)
        replace ax := ae.mk (Kd.bg ax.out)
        replace aG := ae.mk (Kd.bg aG.out)
        replace ai := ae.mk (bf ai.out)
        replace au := ae.mk (bf au.out)
        replace aJ := ae.mk (bf aJ.out)
        replace HB := ae.mk (aH HB.out)
        refine j6 (n := 34) (S := fun w' => w'.cell? ⟨bM, 0, none⟩ = some (.bool t105) ∧ w'.cell? ⟨bM, 1, none⟩ = some (.slice fH bA.length fE) ∧ w'.cell? ⟨cu, 0, none⟩ = some (.bool t109) ∧ w'.cell? ⟨cu, 1, none⟩ = some (.slice fO bi.length fP) ∧ w'.cell? ⟨cB, 0, none⟩ = some (.bool eT) ∧ w'.cell? ⟨cB, 1, none⟩ = some (.slice gN dD.length gM)) (ds := []) #[bF,bF,bF,bF,bF,bF,bF,bF,bF,bF,bF,bF,bF,bF,bF,bF,bF,bF,bF,bF,bF,bF,bF,bF,bF,bF,bF,bF,bF,bF,bF,bF,bF,bF] (by kernel_rfl) rfl rfl ⟨(af ai.out 0).trans rfl, (af ai.out 1).trans rfl, (af au.out 0).trans rfl, (af au.out 1).trans rfl, (af aJ.out 0).trans rfl, (af aJ.out 1).trans rfl⟩ (fun hHeld => ?_); refine iQ ag.Ff ag.BL (fun HT_ HW_ => ?_)
        generalize wc.drew = w103 at ay ax aG ai au aJ HB hHeld ⊢
        refine eU 0 (some 44) HT_ HW_ hHeld ?_
        refine eU 1 (some 45) HT_ HW_ hHeld ?_
        refine eU 2 (some 46) HT_ HW_ hHeld ?_
        refine eU 5 (some 49) HT_ HW_ hHeld ?_
        refine eU 6 (some 50) HT_ HW_ hHeld ?_
        refine eU 8 (some 52) HT_ HW_ hHeld ?_
        refine eU 9 (some 53) HT_ HW_ hHeld ?_
        refine gU 3 (some 47) HT_ (fun K hK => ?_)
        refine fo Tryd.func9 #[.agg #[.bool t109, .slice fO bi.length fP], .agg #[.bool eT, .slice gN dD.length gM]] ?_
        with_reducible refine (bE.calls kj8 t109 _ _ bi eT _ _ dD vU t152 _ ?aU ?aV ?bJ ?bK A71.out).mono ?_
        (case aU => exact qs ((Kd.ak ax.out).2.2))
        (case aV => exact (Kd.ak ax.out).2.1)
        (case bJ => exact qs ((Kd.ak aG.out).2.2))
        (case bK => exact (Kd.ak aG.out).2.1)
        rintro e w104 ⟨v153, rfl, ho0, hb⟩
        refine ⟨_, rfl, ?_⟩
        have gq := ae.mk (Kd.bz (Kd.aA (Kd.aA (Kd.aA ho0 (Kd.aY (qr ay))) (Kd.aY (qr ax))) (Kd.aY (qr aG))) (aN (qw HB)))
        replace ay := ae.mk (Kd.aj (qr ay) (Kd.az ho0) hb)
        replace ax := ae.mk (Kd.aj (qr ax) (Kd.az ho0) hb)
        replace aG := ae.mk (Kd.aj (qr aG) (Kd.az ho0) hb)
        replace ai := qbb ai hb
        replace au := qbb au hb
        replace aJ := qbb aJ hb
        replace HB := ae.mk (av (qw HB) hb)
        (try clear hb)
        (try clear hb2)
        (try clear hk)
        (try clear hi)
        (try clear ho0)
        obtain ⟨G6, G7, Dy⟩ := Kd.bD gq.out
        (first | subst Dy | (injection Dy with f1_ f2_ f3_; have f4_ := f1_.symm; have f5_ := f3_.symm; clear f1_ f2_ f3_; subst f4_; subst f5_))
        refine hK.out _ _ ⟨(af ai.out 0).trans rfl, (af ai.out 1).trans rfl, (af au.out 0).trans rfl, (af au.out 1).trans rfl, (af aJ.out 0).trans rfl, (af aJ.out 1).trans rfl⟩ (fun hHeld => ?_)
        clear hK K
        refine eY (some 47) ?_
        refine gU 4 (some 48) HT_ (fun K hK => ?_)
        refine fo Tryd.func10 #[.agg #[.bool t105, .slice fH bA.length fE], .agg #[.bool vU, .slice G6 t152.length G7]] ?_
        with_reducible refine (bC.calls kj8 t105 _ _ bA vU _ _ t152 tu t156 _ ?aU ?aV ?bJ ?bK A72.out).mono ?_
        (case aU => exact qs ((Kd.ak ay.out).2.2))
        (case aV => exact (Kd.ak ay.out).2.1)
        (case bJ => exact qs ((Kd.ak gq.out).2.2))
        (case bK => exact (Kd.ak gq.out).2.1)
        rintro e w106 ⟨v157, rfl, ho0, hb⟩
        refine ⟨_, rfl, ?_⟩
        have gL := ae.mk (Kd.bz (Kd.aA (Kd.aA (Kd.aA (Kd.aA ho0 (Kd.aY (qr ay))) (Kd.aY (qr ax))) (Kd.aY (qr aG))) (Kd.aY (qr gq))) (aN (qw HB)))
        replace ay := ae.mk (Kd.aj (qr ay) (Kd.az ho0) hb)
        replace ax := ae.mk (Kd.aj (qr ax) (Kd.az ho0) hb)
        replace aG := ae.mk (Kd.aj (qr aG) (Kd.az ho0) hb)
        replace gq := ae.mk (Kd.aj (qr gq) (Kd.az ho0) hb)
        replace ai := qbb ai hb
        replace au := qbb au hb
        replace aJ := qbb aJ hb
        replace HB := ae.mk (av (qw HB) hb)
        (try clear hb)
        (try clear hb2)
        (try clear hk)
        (try clear hi)
        (try clear ho0)
        refine hK.out _ _ ⟨(af ai.out 0).trans rfl, (af ai.out 1).trans rfl, (af au.out 0).trans rfl, (af au.out 1).trans rfl, (af aJ.out 0).trans rfl, (af aJ.out 1).trans rfl⟩ (fun hHeld => ?_)
        clear hK K
        refine eY (some 48) ?_
        refine gU 7 (some 51) HT_ (fun K hK => ?_)
        refine fo Tryd.func10 #[.agg #[.bool t105, .slice fH bA.length fE], .agg #[.bool t109, .slice fO bi.length fP]] ?_
        with_reducible refine (bC.calls kj8 t105 _ _ bA t109 _ _ bi t159 t160 _ ?aU ?aV ?bJ ?bK A73.out).mono ?_
        (case aU => exact qs ((Kd.ak ay.out).2.2))
        (case aV => exact (Kd.ak ay.out).2.1)
        (case bJ => exact qs ((Kd.ak ax.out).2.2))
        (case bK => exact (Kd.ak ax.out).2.1)
        rintro e w107 ⟨v161, rfl, ho0, hb⟩
        refine ⟨_, rfl, ?_⟩
        have gY := ae.mk (Kd.bz (Kd.aA (Kd.aA (Kd.aA (Kd.aA (Kd.aA ho0 (Kd.aY (qr ay))) (Kd.aY (qr ax))) (Kd.aY (qr aG))) (Kd.aY (qr gq))) (Kd.aY (qr gL))) (aN (qw HB)))
        replace ay := ae.mk (Kd.aj (qr ay) (Kd.az ho0) hb)
        replace ax := ae.mk (Kd.aj (qr ax) (Kd.az ho0) hb)
        replace aG := ae.mk (Kd.aj (qr aG) (Kd.az ho0) hb)
        replace gq := ae.mk (Kd.aj (qr gq) (Kd.az ho0) hb)
        replace gL := ae.mk (Kd.aj (qr gL) (Kd.az ho0) hb)
        replace ai := qbb ai hb
        replace au := qbb au hb
        replace aJ := qbb aJ hb
        replace HB := ae.mk (av (qw HB) hb)
        (try clear hb)
        (try clear hb2)
        (try clear hk)
        (try clear hi)
        (try clear ho0)
        refine hK.out _ _ ⟨(af ai.out 0).trans rfl, (af ai.out 1).trans rfl, (af au.out 0).trans rfl, (af au.out 1).trans rfl, (af aJ.out 0).trans rfl, (af aJ.out 1).trans rfl⟩ (fun hHeld => ?_)
        clear hK K
        refine eY (some 51) ?_
        refine gU 10 (some 54) HT_ (fun K hK => ?_)
        refine fo Tryd.func10 #[.agg #[.bool t105, .slice fH bA.length fE], .agg #[.bool eT, .slice gN dD.length gM]] ?_
        with_reducible refine (bC.calls kj8 t105 _ _ bA eT _ _ dD vV t164 _ ?aU ?aV ?bJ ?bK A74.out).mono ?_
        (case aU => exact qs ((Kd.ak ay.out).2.2))
        (case aV => exact (Kd.ak ay.out).2.1)
        (case bJ => exact qs ((Kd.ak aG.out).2.2))
        (case bK => exact (Kd.ak aG.out).2.1)
        rintro e w108 ⟨v165, rfl, ho0, hb⟩
        refine ⟨_, rfl, ?_⟩
        have iG := ae.mk (Kd.bz (Kd.aA (Kd.aA (Kd.aA (Kd.aA (Kd.aA (Kd.aA ho0 (Kd.aY (qr ay))) (Kd.aY (qr ax))) (Kd.aY (qr aG))) (Kd.aY (qr gq))) (Kd.aY (qr gL))) (Kd.aY (qr gY))) (aN (qw HB)))
        replace ay := ae.mk (Kd.aj (qr ay) (Kd.az ho0) hb)
        replace ax := ae.mk (Kd.aj (qr ax) (Kd.az ho0) hb)
        replace aG := ae.mk (Kd.aj (qr aG) (Kd.az ho0) hb)
        replace gq := ae.mk (Kd.aj (qr gq) (Kd.az ho0) hb)
        replace gL := ae.mk (Kd.aj (qr gL) (Kd.az ho0) hb)
        replace gY := ae.mk (Kd.aj (qr gY) (Kd.az ho0) hb)
        replace ai := qbb ai hb
        replace au := qbb au hb
        replace aJ := qbb aJ hb
        replace HB := ae.mk (av (qw HB) hb)
        (try clear hb)
        (try clear hb2)
        (try clear hk)
        (try clear hi)
        (try clear ho0)
        obtain ⟨G8, G9, Dz⟩ := Kd.bD gY.out
        (first | subst Dz | (injection Dz with f1_ f2_ f3_; have f4_ := f1_.symm; have f5_ := f3_.symm; clear f1_ f2_ f3_; subst f4_; subst f5_))
        obtain ⟨Ha, He, DC⟩ := Kd.bD iG.out
        (first | subst DC | (injection DC with f1_ f2_ f3_; have f4_ := f1_.symm; have f5_ := f3_.symm; clear f1_ f2_ f3_; subst f4_; subst f5_))
        refine hK.out _ _ ⟨(af ai.out 0).trans rfl, (af ai.out 1).trans rfl, (af au.out 0).trans rfl, (af au.out 1).trans rfl, (af aJ.out 0).trans rfl, (af aJ.out 1).trans rfl⟩ (fun hHeld => ?_)
        clear hK K
        refine eY (some 54) ?_
        refine gU 11 (some 55) HT_ (fun K hK => ?_)
        refine fo Tryd.func9 #[.agg #[.bool t159, .slice G8 t160.length G9], .agg #[.bool vV, .slice Ha t164.length He]] ?_
        with_reducible refine (bE.calls kj8 t159 _ _ t160 vV _ _ t164 t167 t168 _ ?aU ?aV ?bJ ?bK A75.out).mono ?_
        (case aU => exact qs ((Kd.ak gY.out).2.2))
        (case aV => exact (Kd.ak gY.out).2.1)
        (case bJ => exact qs ((Kd.ak iG.out).2.2))
        (case bK => exact (Kd.ak iG.out).2.1)
        rintro e w111 ⟨v169, rfl, ho0, hb⟩
        refine ⟨_, rfl, ?_⟩
        have jC := ae.mk (Kd.bz (Kd.aA (Kd.aA (Kd.aA (Kd.aA (Kd.aA (Kd.aA (Kd.aA ho0 (Kd.aY (qr ay))) (Kd.aY (qr ax))) (Kd.aY (qr aG))) (Kd.aY (qr gq))) (Kd.aY (qr gL))) (Kd.aY (qr gY))) (Kd.aY (qr iG))) (aN (qw HB)))
        replace ay := ae.mk (Kd.aj (qr ay) (Kd.az ho0) hb)
        replace ax := ae.mk (Kd.aj (qr ax) (Kd.az ho0) hb)
        replace aG := ae.mk (Kd.aj (qr aG) (Kd.az ho0) hb)
        replace gq := ae.mk (Kd.aj (qr gq) (Kd.az ho0) hb)
        replace gL := ae.mk (Kd.aj (qr gL) (Kd.az ho0) hb)
        replace gY := ae.mk (Kd.aj (qr gY) (Kd.az ho0) hb)
        replace iG := ae.mk (Kd.aj (qr iG) (Kd.az ho0) hb)
        replace ai := qbb ai hb
        replace au := qbb au hb
        replace aJ := qbb aJ hb
        replace HB := ae.mk (av (qw HB) hb)
        (try clear hb)
        (try clear hb2)
        (try clear hk)
        (try clear hi)
        (try clear ho0)
        obtain ⟨Hf, Hg, DD⟩ := Kd.bD gL.out
        (first | subst DD | (injection DD with f1_ f2_ f3_; have f4_ := f1_.symm; have f5_ := f3_.symm; clear f1_ f2_ f3_; subst f4_; subst f5_))
        obtain ⟨Hl, Hm, DF⟩ := Kd.bD jC.out
        (first | subst DF | (injection DF with f1_ f2_ f3_; have f4_ := f1_.symm; have f5_ := f3_.symm; clear f1_ f2_ f3_; subst f4_; subst f5_))
        refine hK.out _ _ ⟨(af ai.out 0).trans rfl, (af ai.out 1).trans rfl, (af au.out 0).trans rfl, (af au.out 1).trans rfl, (af aJ.out 0).trans rfl, (af aJ.out 1).trans rfl⟩ (fun hHeld => ?_)
        clear hK K
        refine eY (some 55) ?_
        refine gU 12 (some 56) HT_ (fun K hK => ?_)
        refine fo Tryd.func8 #[.agg #[.bool tu, .slice Hf t156.length Hg], .agg #[.bool t167, .slice Hl t168.length Hm]] ?_
        with_reducible refine (aR.calls kj8 tu _ _ t156 t167 _ _ t168 true _ ?aU ?aV ?bJ ?bK A76.out).mono ?_
        (case aU => exact qs ((Kd.ak gL.out).2.2))
        (case aV => exact (Kd.ak gL.out).2.1)
        (case bJ => exact qs ((Kd.ak jC.out).2.2))
        (case bK => exact (Kd.ak jC.out).2.1)
        rintro e w114 ⟨rfl, hb⟩
        refine ⟨_, rfl, ?_⟩
        replace ay := ae.mk (Kd.aI (qr ay) hb)
        replace ax := ae.mk (Kd.aI (qr ax) hb)
        replace aG := ae.mk (Kd.aI (qr aG) hb)
        replace gq := ae.mk (Kd.aI (qr gq) hb)
        replace gL := ae.mk (Kd.aI (qr gL) hb)
        replace gY := ae.mk (Kd.aI (qr gY) hb)
        replace iG := ae.mk (Kd.aI (qr iG) hb)
        replace jC := ae.mk (Kd.aI (qr jC) hb)
        replace ai := qbb ai hb
        replace au := qbb au hb
        replace aJ := qbb aJ hb
        replace HB := ae.mk (av (qw HB) hb)
        (try clear hb)
        (try clear hb2)
        (try clear hk)
        (try clear hi)
        refine hK.out _ _ ⟨(af ai.out 0).trans rfl, (af ai.out 1).trans rfl, (af au.out 0).trans rfl, (af au.out 1).trans rfl, (af aJ.out 0).trans rfl, (af aJ.out 1).trans rfl⟩ (fun hHeld => ?_)
        clear hK K
        refine eY (some 56) ?_
        refine cZ 13 (some 57) HT_ ?_
        refine cZ 14 (some 58) HT_ ?_
        refine eU 15 (some 59) HT_ HW_ hHeld ?_
        refine eU 16 (some 60) HT_ HW_ hHeld ?_
        refine eU 18 (some 62) HT_ HW_ hHeld ?_
        refine eU 20 (some 64) HT_ HW_ hHeld ?_
        refine gU 17 (some 61) HT_ (fun K hK => ?_)
        refine fo Tryd.func9 #[.agg #[.bool t105, .slice fH bA.length fE], .agg #[.bool t109, .slice fO bi.length fP]] ?_
        with_reducible refine (bE.calls kj8 t105 _ _ bA t109 _ _ bi yO t173 _ ?aU ?aV ?bJ ?bK A78.out).mono ?_
        (case aU => exact qs ((Kd.ak ay.out).2.2))
        (case aV => exact (Kd.ak ay.out).2.1)
        (case bJ => exact qs ((Kd.ak ax.out).2.2))
        (case bK => exact (Kd.ak ax.out).2.1)
        rintro e w115 ⟨v174, rfl, ho0, hb⟩
        refine ⟨_, rfl, ?_⟩
        have nC := ae.mk (Kd.bz (Kd.aA (Kd.aA (Kd.aA (Kd.aA (Kd.aA (Kd.aA (Kd.aA (Kd.aA ho0 (Kd.aY (qr ay))) (Kd.aY (qr ax))) (Kd.aY (qr aG))) (Kd.aY (qr gq))) (Kd.aY (qr gL))) (Kd.aY (qr gY))) (Kd.aY (qr iG))) (Kd.aY (qr jC))) (aN (qw HB)))
        replace ay := ae.mk (Kd.aj (qr ay) (Kd.az ho0) hb)
        replace ax := ae.mk (Kd.aj (qr ax) (Kd.az ho0) hb)
        replace aG := ae.mk (Kd.aj (qr aG) (Kd.az ho0) hb)
        replace gq := ae.mk (Kd.aj (qr gq) (Kd.az ho0) hb)
        replace gL := ae.mk (Kd.aj (qr gL) (Kd.az ho0) hb)
        replace gY := ae.mk (Kd.aj (qr gY) (Kd.az ho0) hb)
        replace iG := ae.mk (Kd.aj (qr iG) (Kd.az ho0) hb)
        replace jC := ae.mk (Kd.aj (qr jC) (Kd.az ho0) hb)
        replace ai := qbb ai hb
        replace au := qbb au hb
        replace aJ := qbb aJ hb
        replace HB := ae.mk (av (qw HB) hb)
        (try clear hb)
        (try clear hb2)
        (try clear hk)
        (try clear hi)
        (try clear ho0)
        obtain ⟨Ho, Hq, DI⟩ := Kd.bD nC.out
        (first | subst DI | (injection DI with f1_ f2_ f3_; have f4_ := f1_.symm; have f5_ := f3_.symm; clear f1_ f2_ f3_; subst f4_; subst f5_))
        refine hK.out _ _ ⟨(af ai.out 0).trans rfl, (af ai.out 1).trans rfl, (af au.out 0).trans rfl, (af au.out 1).trans rfl, (af aJ.out 0).trans rfl, (af aJ.out 1).trans rfl⟩ (fun hHeld => ?_)
        clear hK K
        refine eY (some 61) ?_
        refine gU 19 (some 63) HT_ (fun K hK => ?_)
        refine fo Tryd.func11 #[.agg #[.bool yO, .slice Ho t173.length Hq], .agg #[.bool t109, .slice fO bi.length fP]] ?_
        with_reducible refine (jD.calls kj8 yO _ _ t173 t109 _ _ bi yP yQ _ ?aU ?aV ?bJ ?bK A79.out).mono ?_
        (case aU => exact qs ((Kd.ak nC.out).2.2))
        (case aV => exact (Kd.ak nC.out).2.1)
        (case bJ => exact qs ((Kd.ak ax.out).2.2))
        (case bK => exact (Kd.ak ax.out).2.1)
        rintro e w117 ⟨v178, rfl, ho0, hb⟩
        refine ⟨_, rfl, ?_⟩
        have o8 := ae.mk (Kd.bz (Kd.aA (Kd.aA (Kd.aA (Kd.aA (Kd.aA (Kd.aA (Kd.aA (Kd.aA (Kd.aA ho0 (Kd.aY (qr ay))) (Kd.aY (qr ax))) (Kd.aY (qr aG))) (Kd.aY (qr gq))) (Kd.aY (qr gL))) (Kd.aY (qr gY))) (Kd.aY (qr iG))) (Kd.aY (qr jC))) (Kd.aY (qr nC))) (aN (qw HB)))
        replace ay := ae.mk (Kd.aj (qr ay) (Kd.az ho0) hb)
        replace ax := ae.mk (Kd.aj (qr ax) (Kd.az ho0) hb)
        replace aG := ae.mk (Kd.aj (qr aG) (Kd.az ho0) hb)
        replace gq := ae.mk (Kd.aj (qr gq) (Kd.az ho0) hb)
        replace gL := ae.mk (Kd.aj (qr gL) (Kd.az ho0) hb)
        replace gY := ae.mk (Kd.aj (qr gY) (Kd.az ho0) hb)
        replace iG := ae.mk (Kd.aj (qr iG) (Kd.az ho0) hb)
        replace jC := ae.mk (Kd.aj (qr jC) (Kd.az ho0) hb)
        replace nC := ae.mk (Kd.aj (qr nC) (Kd.az ho0) hb)
        replace ai := qbb ai hb
        replace au := qbb au hb
        replace aJ := qbb aJ hb
        replace HB := ae.mk (av (qw HB) hb)
        (try clear hb)
        (try clear hb2)
        (try clear hk)
        (try clear hi)
        (try clear ho0)
        obtain ⟨Hr, Ht, DJ⟩ := Kd.bD o8.out
        (first | subst DJ | (injection DJ with f1_ f2_ f3_; have f4_ := f1_.symm; have f5_ := f3_.symm; clear f1_ f2_ f3_; subst f4_; subst f5_))
        refine hK.out _ _ ⟨(af ai.out 0).trans rfl, (af ai.out 1).trans rfl, (af au.out 0).trans rfl, (af au.out 1).trans rfl, (af aJ.out 0).trans rfl, (af aJ.out 1).trans rfl⟩ (fun hHeld => ?_)
        clear hK K
        refine eY (some 63) ?_
        refine gU 21 (some 65) HT_ (fun K hK => ?_)
        refine fo Tryd.func8 #[.agg #[.bool yP, .slice Hr yQ.length Ht], .agg #[.bool t105, .slice fH bA.length fE]] ?_
        with_reducible refine (aR.calls kj8 yP _ _ yQ t105 _ _ bA false _ ?aU ?aV ?bJ ?bK A80.out).mono ?_
        (case aU => exact qs ((Kd.ak o8.out).2.2))
        (case aV => exact (Kd.ak o8.out).2.1)
        (case bJ => exact qs ((Kd.ak ay.out).2.2))
        (case bK => exact (Kd.ak ay.out).2.1)
        rintro e w119 ⟨rfl, hb⟩
        refine ⟨_, rfl, ?_⟩
        replace ay := ae.mk (Kd.aI (qr ay) hb)
        replace ax := ae.mk (Kd.aI (qr ax) hb)
        replace aG := ae.mk (Kd.aI (qr aG) hb)
        replace gq := ae.mk (Kd.aI (qr gq) hb)
        replace gL := ae.mk (Kd.aI (qr gL) hb)
        replace gY := ae.mk (Kd.aI (qr gY) hb)
        replace iG := ae.mk (Kd.aI (qr iG) hb)
        replace jC := ae.mk (Kd.aI (qr jC) hb)
        replace nC := ae.mk (Kd.aI (qr nC) hb)
        replace o8 := ae.mk (Kd.aI (qr o8) hb)
        replace ai := qbb ai hb
        replace au := qbb au hb
        replace aJ := qbb aJ hb
        replace HB := ae.mk (av (qw HB) hb)
        (try clear hb)
        (try clear hb2)
        (try clear hk)
        (try clear hi)
        refine hK.out _ _ ⟨(af ai.out 0).trans rfl, (af ai.out 1).trans rfl, (af au.out 0).trans rfl, (af au.out 1).trans rfl, (af aJ.out 0).trans rfl, (af aJ.out 1).trans rfl⟩ (fun hHeld => ?_)
        clear hK K
        refine eY (some 65) ?_
        refine cZ 22 (some 66) HT_ ?_
        refine cZ 23 (some 67) HT_ ?_
        refine cZ 24 (some 68) HT_ ?_
        refine fe 25 (some 69) HT_ ?_
        refine fe 26 (some 70) HT_ ?_
        refine fe 27 (some 71) HT_ ?_
        refine fe 28 (some 72) HT_ ?_
        refine fe 29 (some 73) HT_ ?_
        refine fe 30 (some 74) HT_ ?_
        refine fe 31 (some 75) HT_ ?_
        refine fe 32 (some 76) HT_ ?_
        refine cZ 33 (some 77) HT_ ?_
        refine nM HT_ ?_
        try go_wp2
        go_meet
        case rel => exact ⟨_, (true), (by first | rfl | (simp; done) | (simp [*]; done)), H', ⟨by have := HJ8.out; first | omega | exact Nat.le_refl _⟩, ⟨by (with_reducible repeat (first | apply Kd.bu | apply Kd.bv | apply Kd.bg)); exact Kd.bG ay.out (fun _ hk => ⟨hk.1.1.1.1.1.1.1.1, hk.1.1.1.1.1.1.1.2⟩)⟩, ⟨by (with_reducible repeat (first | apply Kd.bu | apply Kd.bv | apply Kd.bg)); exact Kd.bG ax.out (fun _ hk => ⟨hk.1.1.1.1.1.1.1.1, hk.1.1.1.1.1.1.1.2⟩)⟩, ⟨by (with_reducible repeat (first | apply Kd.bu | apply Kd.bv | apply Kd.bg)); exact Kd.bG aG.out (fun _ hk => ⟨hk.1.1.1.1.1.1.1.1, hk.1.1.1.1.1.1.1.2⟩)⟩, ⟨by (with_reducible repeat (first | refine bP ?_ _ | refine bf ?_ | refine bO ?_ _)); exact ai.out⟩, ⟨by (with_reducible repeat (first | refine bP ?_ _ | refine bf ?_ | refine bO ?_ _)); exact au.out⟩, ⟨by (with_reducible repeat (first | refine bP ?_ _ | refine bf ?_ | refine bO ?_ _)); exact aJ.out⟩, ⟨by repeat (first | (with_reducible first | exact HB.out | apply aM | apply aD | apply aH | refine aQ ?_ gB.out | refine aQ ?_ ib.out | refine aQ ?_ jB.out) | exact HB.out)⟩⟩
      ·replace c77 := Bool.eq_false_iff.mpr c77
       subst c77
       have H1 : (ag.j1 kj8 true t105 bA t109 bi) = some r := by rw [if_neg (show ¬ (false = true) by decide)] at H; exact H
       clear H
       have H := H1
       clear H1
       have H' := ae.mk H
       clear H
       try go_wp2
       replace ay := ae.mk (Kd.bg ay.out)
       replace ax := ae.mk (Kd.bg ax.out)
       replace aG := ae.mk (Kd.bg aG.out)
       replace ai := ae.mk (bf ai.out)
       replace au := ae.mk (bf au.out)
       replace aJ := ae.mk (bf aJ.out)
       replace HB := ae.mk (aH HB.out)
       refine j6 (n := 34) (S := fun w' => w'.cell? ⟨bM, 0, none⟩ = some (.bool t105) ∧ w'.cell? ⟨bM, 1, none⟩ = some (.slice fH bA.length fE) ∧ w'.cell? ⟨cu, 0, none⟩ = some (.bool t109) ∧ w'.cell? ⟨cu, 1, none⟩ = some (.slice fO bi.length fP) ∧ w'.cell? ⟨cB, 0, none⟩ = some (.bool eT) ∧ w'.cell? ⟨cB, 1, none⟩ = some (.slice gN dD.length gM)) (ds := []) #[bF,bF,bF,bF,bF,bF,bF,bF,bF,bF,bF,bF,bF,bF,bF,bF,bF,bF,bF,bF,bF,bF,bF,bF,bF,bF,bF,bF,bF,bF,bF,bF,bF,bF] (by kernel_rfl) rfl rfl ⟨(af ai.out 0).trans rfl, (af ai.out 1).trans rfl, (af au.out 0).trans rfl, (af au.out 1).trans rfl, (af aJ.out 0).trans rfl, (af aJ.out 1).trans rfl⟩ (fun hHeld => ?_); refine iQ ag.Ff ag.BL (fun HT_ HW_ => ?_)
       generalize wc.drew = w120 at ay ax aG ai au aJ HB hHeld ⊢
       refine eU 0 (some 44) HT_ HW_ hHeld ?_
       refine eU 1 (some 45) HT_ HW_ hHeld ?_
       refine eU 2 (some 46) HT_ HW_ hHeld ?_
       refine eU 5 (some 49) HT_ HW_ hHeld ?_
       refine eU 6 (some 50) HT_ HW_ hHeld ?_
       refine eU 8 (some 52) HT_ HW_ hHeld ?_
       refine eU 9 (some 53) HT_ HW_ hHeld ?_
       refine gU 3 (some 47) HT_ (fun K hK => ?_)
       refine fo Tryd.func9 #[.agg #[.bool t109, .slice fO bi.length fP], .agg #[.bool eT, .slice gN dD.length gM]] ?_
       with_reducible refine (bE.calls kj8 t109 _ _ bi eT _ _ dD vU t152 _ ?aU ?aV ?bJ ?bK A71.out).mono ?_
       (case aU => exact qs ((Kd.ak ax.out).2.2))
       (case aV => exact (Kd.ak ax.out).2.1)
       (case bJ => exact qs ((Kd.ak aG.out).2.2))
       (case bK => exact (Kd.ak aG.out).2.1)
       rintro e w121 ⟨v153, rfl, ho0, hb⟩
       refine ⟨_, rfl, ?_⟩
       have gq := ae.mk (Kd.bz (Kd.aA (Kd.aA (Kd.aA ho0 (Kd.aY (qr ay))) (Kd.aY (qr ax))) (Kd.aY (qr aG))) (aN (qw HB)))
       replace ay := ae.mk (Kd.aj (qr ay) (Kd.az ho0) hb)
       replace ax := ae.mk (Kd.aj (qr ax) (Kd.az ho0) hb)
       replace aG := ae.mk (Kd.aj (qr aG) (Kd.az ho0) hb)
       replace ai := qbb ai hb
       replace au := qbb au hb
       replace aJ := qbb aJ hb
       replace HB := ae.mk (av (qw HB) hb)
       (try clear hb)
       (try clear hb2)
       (try clear hk)
       (try clear hi)
       (try clear ho0)
       obtain ⟨Hu, Hw, DK⟩ := Kd.bD gq.out
       (first | subst DK | (injection DK with f1_ f2_ f3_; have f4_ := f1_.symm; have f5_ := f3_.symm; clear f1_ f2_ f3_; subst f4_; subst f5_))
       refine hK.out _ _ ⟨(af ai.out 0).trans rfl, (af ai.out 1).trans rfl, (af au.out 0).trans rfl, (af au.out 1).trans rfl, (af aJ.out 0).trans rfl, (af aJ.out 1).trans rfl⟩ (fun hHeld => ?_)
       clear hK K
       refine eY (some 47) ?_
       refine gU 4 (some 48) HT_ (fun K hK => ?_)
       refine fo Tryd.func10 #[.agg #[.bool t105, .slice fH bA.length fE], .agg #[.bool vU, .slice Hu t152.length Hw]] ?_
       with_reducible refine (bC.calls kj8 t105 _ _ bA vU _ _ t152 tu t156 _ ?aU ?aV ?bJ ?bK A72.out).mono ?_
       (case aU => exact qs ((Kd.ak ay.out).2.2))
       (case aV => exact (Kd.ak ay.out).2.1)
       (case bJ => exact qs ((Kd.ak gq.out).2.2))
       (case bK => exact (Kd.ak gq.out).2.1)
       rintro e w123 ⟨v157, rfl, ho0, hb⟩
       refine ⟨_, rfl, ?_⟩
       have gL := ae.mk (Kd.bz (Kd.aA (Kd.aA (Kd.aA (Kd.aA ho0 (Kd.aY (qr ay))) (Kd.aY (qr ax))) (Kd.aY (qr aG))) (Kd.aY (qr gq))) (aN (qw HB)))
       replace ay := ae.mk (Kd.aj (qr ay) (Kd.az ho0) hb)
       replace ax := ae.mk (Kd.aj (qr ax) (Kd.az ho0) hb)
       replace aG := ae.mk (Kd.aj (qr aG) (Kd.az ho0) hb)
       replace gq := ae.mk (Kd.aj (qr gq) (Kd.az ho0) hb)
       replace ai := qbb ai hb
       replace au := qbb au hb
       replace aJ := qbb aJ hb
       replace HB := ae.mk (av (qw HB) hb)
       (try clear hb)
       (try clear hb2)
       (try clear hk)
       (try clear hi)
       (try clear ho0)
       refine hK.out _ _ ⟨(af ai.out 0).trans rfl, (af ai.out 1).trans rfl, (af au.out 0).trans rfl, (af au.out 1).trans rfl, (af aJ.out 0).trans rfl, (af aJ.out 1).trans rfl⟩ (fun hHeld => ?_)
       clear hK K
       refine eY (some 48) ?_
       refine gU 7 (some 51) HT_ (fun K hK => ?_)
       refine fo Tryd.func10 #[.agg #[.bool t105, .slice fH bA.length fE], .agg #[.bool t109, .slice fO bi.length fP]] ?_
       with_reducible refine (bC.calls kj8 t105 _ _ bA t109 _ _ bi t159 t160 _ ?aU ?aV ?bJ ?bK A73.out).mono ?_
       (case aU => exact qs ((Kd.ak ay.out).2.2))
       (case aV => exact (Kd.ak ay.out).2.1)
       (case bJ => exact qs ((Kd.ak ax.out).2.2))
       (case bK => exact (Kd.ak ax.out).2.1)
       rintro e w124 ⟨v161, rfl, ho0, hb⟩
       refine ⟨_, rfl, ?_⟩
       have gY := ae.mk (Kd.bz (Kd.aA (Kd.aA (Kd.aA (Kd.aA (Kd.aA ho0 (Kd.aY (qr ay))) (Kd.aY (qr ax))) (Kd.aY (qr aG))) (Kd.aY (qr gq))) (Kd.aY (qr gL))) (aN (qw HB)))
       replace ay := ae.mk (Kd.aj (qr ay) (Kd.az ho0) hb)
       replace ax := ae.mk (Kd.aj (qr ax) (Kd.az ho0) hb)
       replace aG := ae.mk (Kd.aj (qr aG) (Kd.az ho0) hb)
       replace gq := ae.mk (Kd.aj (qr gq) (Kd.az ho0) hb)
       replace gL := ae.mk (Kd.aj (qr gL) (Kd.az ho0) hb)
       replace ai := qbb ai hb
       replace au := qbb au hb
       replace aJ := qbb aJ hb
       replace HB := ae.mk (av (qw HB) hb)
       (try clear hb)
       (try clear hb2)
       (try clear hk)
       (try clear hi)
       (try clear ho0)
       refine hK.out _ _ ⟨(af ai.out 0).trans rfl, (af ai.out 1).trans rfl, (af au.out 0).trans rfl, (af au.out 1).trans rfl, (af aJ.out 0).trans rfl, (af aJ.out 1).trans rfl⟩ (fun hHeld => ?_)
       clear hK K
       refine eY (some 51) ?_
       refine gU 10 (some 54) HT_ (fun K hK => ?_)
       refine fo Tryd.func10 #[.agg #[.bool t105, .slice fH bA.length fE], .agg #[.bool eT, .slice gN dD.length gM]] ?_
       with_reducible refine (bC.calls kj8 t105 _ _ bA eT _ _ dD vV t164 _ ?aU ?aV ?bJ ?bK A74.out).mono ?_
       (case aU => exact qs ((Kd.ak ay.out).2.2))
       (case aV => exact (Kd.ak ay.out).2.1)
       (case bJ => exact qs ((Kd.ak aG.out).2.2))
       (case bK => exact (Kd.ak aG.out).2.1)
       rintro e w125 ⟨v165, rfl, ho0, hb⟩
       refine ⟨_, rfl, ?_⟩
       have iG := ae.mk (Kd.bz (Kd.aA (Kd.aA (Kd.aA (Kd.aA (Kd.aA (Kd.aA ho0 (Kd.aY (qr ay))) (Kd.aY (qr ax))) (Kd.aY (qr aG))) (Kd.aY (qr gq))) (Kd.aY (qr gL))) (Kd.aY (qr gY))) (aN (qw HB)))
       replace ay := ae.mk (Kd.aj (qr ay) (Kd.az ho0) hb)
       replace ax := ae.mk (Kd.aj (qr ax) (Kd.az ho0) hb)
       replace aG := ae.mk (Kd.aj (qr aG) (Kd.az ho0) hb)
       replace gq := ae.mk (Kd.aj (qr gq) (Kd.az ho0) hb)
       replace gL := ae.mk (Kd.aj (qr gL) (Kd.az ho0) hb)
       replace gY := ae.mk (Kd.aj (qr gY) (Kd.az ho0) hb)
       replace ai := qbb ai hb
       replace au := qbb au hb
       replace aJ := qbb aJ hb
       replace HB := ae.mk (av (qw HB) hb)
       (try clear hb)
       (try clear hb2)
       (try clear hk)
       (try clear hi)
       (try clear ho0)
       obtain ⟨Hy, Hz, DL⟩ := Kd.bD gY.out
       (first | subst DL | (injection DL with f1_ f2_ f3_; have f4_ := f1_.symm; have f5_ := f3_.symm; clear f1_ f2_ f3_; subst f4_; subst f5_))
       obtain ⟨HV, HZ, DN⟩ := Kd.bD iG.out
       (first | subst DN | (injection DN with f1_ f2_ f3_; have f4_ := f1_.symm; have f5_ := f3_.symm; clear f1_ f2_ f3_; subst f4_; subst f5_))
       refine hK.out _ _ ⟨(af ai.out 0).trans rfl, (af ai.out 1).trans rfl, (af au.out 0).trans rfl, (af au.out 1).trans rfl, (af aJ.out 0).trans rfl, (af aJ.out 1).trans rfl⟩ (fun hHeld => ?_)
       clear hK K
       refine eY (some 54) ?_
       refine gU 11 (some 55) HT_ (fun K hK => ?_)
       refine fo Tryd.func9 #[.agg #[.bool t159, .slice Hy t160.length Hz], .agg #[.bool vV, .slice HV t164.length HZ]] ?_
       with_reducible refine (bE.calls kj8 t159 _ _ t160 vV _ _ t164 t167 t168 _ ?aU ?aV ?bJ ?bK A75.out).mono ?_
       (case aU => exact qs ((Kd.ak gY.out).2.2))
       (case aV => exact (Kd.ak gY.out).2.1)
       (case bJ => exact qs ((Kd.ak iG.out).2.2))
       (case bK => exact (Kd.ak iG.out).2.1)
       rintro e w128 ⟨v169, rfl, ho0, hb⟩
       refine ⟨_, rfl, ?_⟩
       have jC := ae.mk (Kd.bz (Kd.aA (Kd.aA (Kd.aA (Kd.aA (Kd.aA (Kd.aA (Kd.aA ho0 (Kd.aY (qr ay))) (Kd.aY (qr ax))) (Kd.aY (qr aG))) (Kd.aY (qr gq))) (Kd.aY (qr gL))) (Kd.aY (qr gY))) (Kd.aY (qr iG))) (aN (qw HB)))
       replace ay := ae.mk (Kd.aj (qr ay) (Kd.az ho0) hb)
       replace ax := ae.mk (Kd.aj (qr ax) (Kd.az ho0) hb)
       replace aG := ae.mk (Kd.aj (qr aG) (Kd.az ho0) hb)
       replace gq := ae.mk (Kd.aj (qr gq) (Kd.az ho0) hb)
       replace gL := ae.mk (Kd.aj (qr gL) (Kd.az ho0) hb)
       replace gY := ae.mk (Kd.aj (qr gY) (Kd.az ho0) hb)
       replace iG := ae.mk (Kd.aj (qr iG) (Kd.az ho0) hb)
       replace ai := qbb ai hb
       replace au := qbb au hb
       replace aJ := qbb aJ hb
       replace HB := ae.mk (av (qw HB) hb)
       (try clear hb)
       (try clear hb2)
       (try clear hk)
       (try clear hi)
       (try clear ho0)
       obtain ⟨H5, H6, DR⟩ := Kd.bD gL.out
       (first | subst DR | (injection DR with f1_ f2_ f3_; have f4_ := f1_.symm; have f5_ := f3_.symm; clear f1_ f2_ f3_; subst f4_; subst f5_))
       obtain ⟨H7, H8, DT⟩ := Kd.bD jC.out
       (first | subst DT | (injection DT with f1_ f2_ f3_; have f4_ := f1_.symm; have f5_ := f3_.symm; clear f1_ f2_ f3_; subst f4_; subst f5_))
       refine hK.out _ _ ⟨(af ai.out 0).trans rfl, (af ai.out 1).trans rfl, (af au.out 0).trans rfl, (af au.out 1).trans rfl, (af aJ.out 0).trans rfl, (af aJ.out 1).trans rfl⟩ (fun hHeld => ?_)
       clear hK K
       refine eY (some 55) ?_
       refine gU 12 (some 56) HT_ (fun K hK => ?_)
       refine fo Tryd.func8 #[.agg #[.bool tu, .slice H5 t156.length H6], .agg #[.bool t167, .slice H7 t168.length H8]] ?_
       with_reducible refine (aR.calls kj8 tu _ _ t156 t167 _ _ t168 false _ ?aU ?aV ?bJ ?bK A76.out).mono ?_
       (case aU => exact qs ((Kd.ak gL.out).2.2))
       (case aV => exact (Kd.ak gL.out).2.1)
       (case bJ => exact qs ((Kd.ak jC.out).2.2))
       (case bK => exact (Kd.ak jC.out).2.1)
       rintro e w131 ⟨rfl, hb⟩
       refine ⟨_, rfl, ?_⟩
       replace ay := ae.mk (Kd.aI (qr ay) hb)
       replace ax := ae.mk (Kd.aI (qr ax) hb)
       replace aG := ae.mk (Kd.aI (qr aG) hb)
       replace gq := ae.mk (Kd.aI (qr gq) hb)
       replace gL := ae.mk (Kd.aI (qr gL) hb)
       replace gY := ae.mk (Kd.aI (qr gY) hb)
       replace iG := ae.mk (Kd.aI (qr iG) hb)
       replace jC := ae.mk (Kd.aI (qr jC) hb)
       replace ai := qbb ai hb
       replace au := qbb au hb
       replace aJ := qbb aJ hb
       replace HB := ae.mk (av (qw HB) hb)
       (try clear hb)
       (try clear hb2)
       (try clear hk)
       (try clear hi)
       refine hK.out _ _ ⟨(af ai.out 0).trans rfl, (af ai.out 1).trans rfl, (af au.out 0).trans rfl, (af au.out 1).trans rfl, (af aJ.out 0).trans rfl, (af aJ.out 1).trans rfl⟩ (fun hHeld => ?_)
       clear hK K
       refine eY (some 56) ?_
       refine cZ 13 (some 57) HT_ ?_
       refine cZ 14 (some 58) HT_ ?_
       refine fe 15 (some 59) HT_ ?_
       refine fe 16 (some 60) HT_ ?_
       refine fe 17 (some 61) HT_ ?_
       refine fe 18 (some 62) HT_ ?_
       refine fe 19 (some 63) HT_ ?_
       refine fe 20 (some 64) HT_ ?_
       refine fe 21 (some 65) HT_ ?_
       refine fe 22 (some 66) HT_ ?_
       refine cZ 23 (some 67) HT_ ?_
       refine cZ 24 (some 68) HT_ ?_
       refine fe 25 (some 69) HT_ ?_
       refine fe 26 (some 70) HT_ ?_
       refine fe 27 (some 71) HT_ ?_
       refine fe 28 (some 72) HT_ ?_
       refine fe 29 (some 73) HT_ ?_
       refine fe 30 (some 74) HT_ ?_
       refine fe 31 (some 75) HT_ ?_
       refine fe 32 (some 76) HT_ ?_
       refine cZ 33 (some 77) HT_ ?_
       refine nM HT_ ?_
       try go_wp2
       go_meet
       case rel => exact ⟨_, (true), (by first | rfl | (simp; done) | (simp [*]; done)), H', ⟨by have := HJ8.out; first | omega | exact Nat.le_refl _⟩, ⟨by (with_reducible repeat (first | apply Kd.bu | apply Kd.bv | apply Kd.bg)); exact Kd.bG ay.out (fun _ hk => ⟨hk.1.1.1.1.1.1, hk.1.1.1.1.1.2⟩)⟩, ⟨by (with_reducible repeat (first | apply Kd.bu | apply Kd.bv | apply Kd.bg)); exact Kd.bG ax.out (fun _ hk => ⟨hk.1.1.1.1.1.1, hk.1.1.1.1.1.2⟩)⟩, ⟨by (with_reducible repeat (first | apply Kd.bu | apply Kd.bv | apply Kd.bg)); exact Kd.bG aG.out (fun _ hk => ⟨hk.1.1.1.1.1.1, hk.1.1.1.1.1.2⟩)⟩, ⟨by (with_reducible repeat (first | refine bP ?_ _ | refine bf ?_ | refine bO ?_ _)); exact ai.out⟩, ⟨by (with_reducible repeat (first | refine bP ?_ _ | refine bf ?_ | refine bO ?_ _)); exact au.out⟩, ⟨by (with_reducible repeat (first | refine bP ?_ _ | refine bf ?_ | refine bO ?_ _)); exact aJ.out⟩, ⟨by repeat (first | (with_reducible first | exact HB.out | apply aM | apply aD | apply aH | refine aQ ?_ gB.out | refine aQ ?_ ib.out | refine aQ ?_ jB.out) | exact HB.out)⟩⟩
     case rest =>
      clear HC70
      try clear c1
      try clear p2
      try clear c7
      try clear c8
      try clear c9
      try clear c10
      try clear c77
      obtain ⟨kq, wU, rfl, HA, HJ69, ay, ax, aG, ai, au, aJ, HB⟩ := hcut
      cases kq with
      | zero => exact absurd HA.out (by simp [ag.j1])
      | succ gX =>
       have H := HA.out
       clear HA
       simp only [ag.j1] at H
       by_cases c132 : wU = true
       ·subst c132
        have H1 : (some false) = some r := by rw [if_pos rfl] at H; exact H
        clear H
        have H := H1
        clear H1
        obtain rfl := Option.some.inj H
        go_wp2
        go_ret
        exact ⟨by first | rfl | (simp [errW_none, errW_some] <;> rfl) | (simp [*, errW_none, errW_some] <;> rfl), by repeat (first | (with_reducible first | exact HB.out | apply aM | apply aD | apply aH | refine aQ ?_ gB.out | refine aQ ?_ ib.out | refine aQ ?_ jB.out) | exact HB.out)⟩
       ·replace c132 := Bool.eq_false_iff.mpr c132
        subst c132
        have H1 : ((dB.f gX t105 bA t109 bi).bind fun mG => (if mG.2.2.2.2 = 0 then ((bC.f gX mG.1 mG.2.1 t109 bi).bind fun uf => ((bE.f gX uf.1 uf.2 mG.2.2.1 mG.2.2.2.1).bind fun qY => ((aR.f gX qY.1 qY.2 t105 bA).bind fun uA => (if uA = true then ((dE.f mG.2.2.1 mG.2.2.2.1).bind fun t203 => (if t203 = 0 then ((aX.f gX false mG.2.2.2.1).bind fun kW => ((aX.f gX false bi).bind fun ky => ((dn.f gX kW.1 kW.2 ky.1 ky.2).bind fun t212 => (some (decide (t212 < 0)))))) else ((dE.f mG.2.2.1 mG.2.2.2.1).bind fun t213 => ((dE.f t109 bi).bind fun om => (if t213 = om then ((aX.f gX false mG.2.2.2.1).bind fun kz => ((aX.f gX false bi).bind fun jU => ((dn.f gX kz.1 kz.2 jU.1 jU.2).bind fun oo => (some (decide (oo < 0)))))) else (some false)))))) else (some false))))) else (some ((bi.length : Int) == 0)))) = some r := by rw [if_neg (show ¬ (false = true) by decide)] at H; exact H
        clear H
        have H := H1
        clear H1
        replace H := Option.bind_eq_some_iff.mp H
        obtain ⟨⟨t183, gm, fV, eB, uZ⟩, A1330, H⟩ := H
        replace H : (if uZ = 0 then ((bC.f gX t183 gm t109 bi).bind fun uf => ((bE.f gX uf.1 uf.2 fV eB).bind fun qY => ((aR.f gX qY.1 qY.2 t105 bA).bind fun uA => (if uA = true then ((dE.f fV eB).bind fun t203 => (if t203 = 0 then ((aX.f gX false eB).bind fun kW => ((aX.f gX false bi).bind fun ky => ((dn.f gX kW.1 kW.2 ky.1 ky.2).bind fun t212 => (some (decide (t212 < 0)))))) else ((dE.f fV eB).bind fun t213 => ((dE.f t109 bi).bind fun om => (if t213 = om then ((aX.f gX false eB).bind fun kz => ((aX.f gX false bi).bind fun jU => ((dn.f gX kz.1 kz.2 jU.1 jU.2).bind fun oo => (some (decide (oo < 0)))))) else (some false)))))) else (some false))))) else (some ((bi.length : Int) == 0))) = some r := H
        have A133 := ae.mk A1330
        clear A1330
        by_cases c134 : uZ = 0
        ·rw [if_pos c134] at H
         have Fg : (uZ == 0) = true := beq_iff_eq.mpr c134
         have Fh : (uZ != 0) = false := bne_eq_false_iff_eq.mpr c134
         clear c134
         replace H := Option.bind_eq_some_iff.mp H
         obtain ⟨⟨t194, tC⟩, A1350, H⟩ := H
         replace H : ((bE.f gX t194 tC fV eB).bind fun qY => ((aR.f gX qY.1 qY.2 t105 bA).bind fun uA => (if uA = true then ((dE.f fV eB).bind fun t203 => (if t203 = 0 then ((aX.f gX false eB).bind fun kW => ((aX.f gX false bi).bind fun ky => ((dn.f gX kW.1 kW.2 ky.1 ky.2).bind fun t212 => (some (decide (t212 < 0)))))) else ((dE.f fV eB).bind fun t213 => ((dE.f t109 bi).bind fun om => (if t213 = om then ((aX.f gX false eB).bind fun kz => ((aX.f gX false bi).bind fun jU => ((dn.f gX kz.1 kz.2 jU.1 jU.2).bind fun oo => (some (decide (oo < 0)))))) else (some false)))))) else (some false)))) = some r := H
         have A135 := ae.mk A1350
         clear A1350
         replace H := Option.bind_eq_some_iff.mp H
         obtain ⟨⟨t198, tF⟩, A1360, H⟩ := H
         replace H : ((aR.f gX t198 tF t105 bA).bind fun uA => (if uA = true then ((dE.f fV eB).bind fun t203 => (if t203 = 0 then ((aX.f gX false eB).bind fun kW => ((aX.f gX false bi).bind fun ky => ((dn.f gX kW.1 kW.2 ky.1 ky.2).bind fun t212 => (some (decide (t212 < 0)))))) else ((dE.f fV eB).bind fun t213 => ((dE.f t109 bi).bind fun om => (if t213 = om then ((aX.f gX false eB).bind fun kz => ((aX.f gX false bi).bind fun jU => ((dn.f gX kz.1 kz.2 jU.1 jU.2).bind fun oo => (some (decide (oo < 0)))))) else (some false)))))) else (some false))) = some r := H
         have A136 := ae.mk A1360
         clear A1360
         replace H := Option.bind_eq_some_iff.mp H
         obtain ⟨uA, A1370, H⟩ := H
         replace H : (if uA = true then ((dE.f fV eB).bind fun t203 => (if t203 = 0 then ((aX.f gX false eB).bind fun kW => ((aX.f gX false bi).bind fun ky => ((dn.f gX kW.1 kW.2 ky.1 ky.2).bind fun t212 => (some (decide (t212 < 0)))))) else ((dE.f fV eB).bind fun t213 => ((dE.f t109 bi).bind fun om => (if t213 = om then ((aX.f gX false eB).bind fun kz => ((aX.f gX false bi).bind fun jU => ((dn.f gX kz.1 kz.2 jU.1 jU.2).bind fun oo => (some (decide (oo < 0)))))) else (some false)))))) else (some false)) = some r := H
         have A137 := ae.mk A1370
         clear A1370
         by_cases c138 : uA = true
         ·subst c138
          have H1 : ((dE.f fV eB).bind fun t203 => (if t203 = 0 then ((aX.f gX false eB).bind fun kW => ((aX.f gX false bi).bind fun ky => ((dn.f gX kW.1 kW.2 ky.1 ky.2).bind fun t212 => (some (decide (t212 < 0)))))) else ((dE.f fV eB).bind fun t213 => ((dE.f t109 bi).bind fun om => (if t213 = om then ((aX.f gX false eB).bind fun kz => ((aX.f gX false bi).bind fun jU => ((dn.f gX kz.1 kz.2 jU.1 jU.2).bind fun oo => (some (decide (oo < 0)))))) else (some false)))))) = some r := by rw [if_pos rfl] at H; exact H
          clear H
          have H := H1
          clear H1
          replace H := Option.bind_eq_some_iff.mp H
          obtain ⟨t203, A1390, H⟩ := H
          replace H : (if t203 = 0 then ((aX.f gX false eB).bind fun kW => ((aX.f gX false bi).bind fun ky => ((dn.f gX kW.1 kW.2 ky.1 ky.2).bind fun t212 => (some (decide (t212 < 0)))))) else ((dE.f fV eB).bind fun t213 => ((dE.f t109 bi).bind fun om => (if t213 = om then ((aX.f gX false eB).bind fun kz => ((aX.f gX false bi).bind fun jU => ((dn.f gX kz.1 kz.2 jU.1 jU.2).bind fun oo => (some (decide (oo < 0)))))) else (some false))))) = some r := H
          have A139 := ae.mk A1390
          clear A1390
          by_cases c140 : t203 = 0
          ·rw [if_pos c140] at H
           have Fj : (t203 == 0) = true := beq_iff_eq.mpr c140
           have Fp : (t203 != 0) = false := bne_eq_false_iff_eq.mpr c140
           clear c140
           replace H := Option.bind_eq_some_iff.mp H
           obtain ⟨⟨BM, BN⟩, A1410, H⟩ := H
           replace H : ((aX.f gX false bi).bind fun ky => ((dn.f gX BM BN ky.1 ky.2).bind fun t212 => (some (decide (t212 < 0))))) = some r := H
           have A141 := ae.mk A1410
           clear A1410
           replace H := Option.bind_eq_some_iff.mp H
           obtain ⟨⟨t208, Da⟩, A1420, H⟩ := H
           replace H : ((dn.f gX BM BN t208 Da).bind fun t212 => (some (decide (t212 < 0)))) = some r := H
           have A142 := ae.mk A1420
           clear A1420
           replace H := Option.bind_eq_some_iff.mp H
           obtain ⟨t212, A1430, H⟩ := H
           replace H : (some (decide (t212 < 0))) = some r := H
           have A143 := ae.mk A1430
           clear A1430
           obtain rfl := Option.some.inj H
           have hnb144 := eD.out
           have hnc144 := eF.out
           have hnb145 := dm.out
           have hnc145 := eZ.out
           have hcz146_0 : wc.cell? ⟨bM, 0, none⟩ = some (.bool t105) := (af ai.out 0).trans rfl
           have hcz146_1 : wc.cell? ⟨bM, 1, none⟩ = some (.slice fH bA.length fE) := (af ai.out 1).trans rfl
           have hfz146_0 := aK ai.out 0
           have hfz146_1 := aK ai.out 1
           have hnb147 := dh.out
           have hnc147 := eX.out
           have hcz148_0 : wc.cell? ⟨cu, 0, none⟩ = some (.bool t109) := (af au.out 0).trans rfl
           have hcz148_1 : wc.cell? ⟨cu, 1, none⟩ = some (.slice fO bi.length fP) := (af au.out 1).trans rfl
           have hfz148_0 := aK au.out 0
           have hfz148_1 := aK au.out 1
           try go_wp2_with (first | ((with_reducible refine aW (f := 13) rfl ?_); refine cO (some 81) rfl rfl Tryd.func13 (by kernel_rfl) rfl #[.agg #[.bool t105, .slice fH bA.length fE], .agg #[.bool t109, .slice fO bi.length fP]] rfl qt ?_; (with_reducible refine (dB.calls gX t105 _ _ bA t109 _ _ bi t183 gm fV eB uZ _ ?aU ?aV ?bJ ?bK A133.out).mono ?_); (case aU => exact qs ((Kd.ak ay.out).2.2)); (case aV => exact (Kd.ak ay.out).2.1); (case bJ => exact qs ((Kd.ak ax.out).2.2)); (case bK => exact (Kd.ak ax.out).2.1); rintro e w149 ⟨v185, v189, rfl, ho0, ho1, hb⟩; refine ⟨_, rfl, ?_⟩; have dF := ae.mk (Kd.bz (Kd.aA (Kd.aA (Kd.aA ho0 (Kd.aY (qr ay))) (Kd.aY (qr ax))) (Kd.aY (qr aG))) (aN (qw HB))); have di := ae.mk (Kd.bz (Kd.aA (Kd.aA (Kd.aA ho1 (Kd.aY (qr ay))) (Kd.aY (qr ax))) (Kd.aY (qr aG))) (aN (qw HB))); replace ay := ae.mk (Kd.bG (Kd.gQ (Kd.gQ (Kd.mo (qr ay) hb) (Kd.az ho0)) (Kd.az ho1)) (fun _ h_ => h_.1)); replace ax := ae.mk (Kd.bG (Kd.gQ (Kd.gQ (Kd.mo (qr ax) hb) (Kd.az ho0)) (Kd.az ho1)) (fun _ h_ => h_.1)); replace aG := ae.mk (Kd.bG (Kd.gQ (Kd.gQ (Kd.mo (qr aG) hb) (Kd.az ho0)) (Kd.az ho1)) (fun _ h_ => h_.1)); replace ai := qbb ai hb; replace au := qbb au hb; replace aJ := qbb aJ hb; replace HB := ae.mk (av (qw HB) hb); (try clear hb); (try clear hb2); (try clear hk); (try clear hi); (try clear ho0); (try clear ho1)) | ((with_reducible refine bR (N := 7) rfl ?_); refine bS ?hg (N := 7) ?hd (cs := #[.bool false, .slice none 0 0]) (t := 25) ?hr ?_; (case hd => rfl); (case hg => rfl); (case hr => first | (go_simp; done) | (go_simp; rfl)); intro bW hg w150 hbox hb; replace ay := ae.mk (Kd.aI (qr ay) hb); replace ax := ae.mk (Kd.aI (qr ax) hb); replace aG := ae.mk (Kd.aI (qr aG) hb); replace dF := ae.mk (Kd.aI (qr dF) hb); replace di := ae.mk (Kd.aI (qr di) hb); have bI := ae.mk (hbox); have GW192 := qge HB hg; have ql := qge HB hg; replace HB := ae.mk (av (qw HB) hb); have iZ := qnl ai hg; have mU := qng ai hg; replace ai := qbb ai hb; have ja := qnl au hg; have mV := qng au hg; replace au := qbb au hb; have jb := qnl aJ hg; have mW := qng aJ hg; replace aJ := qbb aJ hb; clear hb hbox hg) | ((with_reducible refine bR (N := 8) rfl ?_); refine bS ?hg (N := 8) ?hd (cs := #[.bool false, .slice none 0 0]) (t := 25) ?hr ?_; (case hd => rfl); (case hg => rfl); (case hr => first | (go_simp; done) | (go_simp; rfl)); intro bX hg w151 hbox hb; replace ay := ae.mk (Kd.aI (qr ay) hb); replace ax := ae.mk (Kd.aI (qr ax) hb); replace aG := ae.mk (Kd.aI (qr aG) hb); replace dF := ae.mk (Kd.aI (qr dF) hb); replace di := ae.mk (Kd.aI (qr di) hb); have bQ := ae.mk (hbox); have GW193 := qge HB hg; have qm := qge HB hg; replace HB := ae.mk (av (qw HB) hb); have jc := qnl ai hg; have mX := qng ai hg; replace ai := qbb ai hb; have jd := qnl au hg; have mY := qng au hg; replace au := qbb au hb; have je := qnl aJ hg; have mZ := qng aJ hg; replace aJ := qbb aJ hb; have jf := qnl bI hg; have jg := qng bI hg; replace bI := qbb bI hb; clear hb hbox hg; have hnb152 := mU.out; have hnc152 := iZ.out; have hnb153 := mV.out; have hnc153 := ja.out; have hnb154 := mW.out; have hnc154 := jb.out; have hnb155 := jf.out; have hnc155 := jg.out; have hcz156_0 : w151.cell? ⟨bW, 0, none⟩ = some (.bool false) := (af bI.out 0).trans rfl; have hcz156_1 : w151.cell? ⟨bW, 1, none⟩ = some (.slice none 0 0) := (af bI.out 1).trans rfl; have hfz156_0 := aK bI.out 0; have hfz156_1 := aK bI.out 1; obtain ⟨lD, lF, H9⟩ := Kd.bD dF.out; subst H9; have hnb158 := mX.out; have hnc158 := jc.out; have hnb159 := mY.out; have hnc159 := jd.out; have hnb160 := mZ.out; have hnc160 := je.out; have hcz161_0 : w151.cell? ⟨bX, 0, none⟩ = some (.bool false) := (af bQ.out 0).trans rfl; have hcz161_1 : w151.cell? ⟨bX, 1, none⟩ = some (.slice none 0 0) := (af bQ.out 1).trans rfl; have hfz161_0 := aK bQ.out 0; have hfz161_1 := aK bQ.out 1; obtain ⟨kP, kQ, Ia⟩ := Kd.bD di.out; subst Ia))
           have n0_ : ae (Kd.R (Kd.int .u64) 64 ((((w151.setCell ⟨bW, 0, none⟩ (.bool t183)).setCell ⟨bW, 1, none⟩ (.slice lD gm.length lF)).setCell ⟨bX, 0, none⟩ (.bool fV)).setCell ⟨bX, 1, none⟩ (.slice kP eB.length kQ)) w.heap.size (fun k_ => some k_ ≠ (.slice fO bi.length fP : Value).ownBlock ∧ some k_ ≠ (.slice gN dD.length gM : Value).ownBlock ∧ some k_ ≠ (.slice lD gm.length lF : Value).ownBlock ∧ some k_ ≠ (.slice kP eB.length kQ : Value).ownBlock) (.slice fH bA.length fE) bA) := ⟨by (with_reducible repeat (first | apply Kd.bu | apply Kd.bv | apply Kd.bg)); exact Kd.bG (Kd.bH (p := ⟨bX, 1, none⟩) (Kd.bH (p := ⟨bX, 0, none⟩) (Kd.bH (p := ⟨bW, 1, none⟩) (Kd.bH (p := ⟨bW, 0, none⟩) (Kd.bU (Kd.bU ay.out bI.out (by decide)) bQ.out (by decide)) (fun _ hk => hk.1.2) (.bool t183)) (fun _ hk => hk.1.2) (.slice lD gm.length lF)) (fun _ hk => hk.2) (.bool fV)) (fun _ hk => hk.2) (.slice kP eB.length kQ)) (fun _ hk => ⟨hk.1.1.1.1.1, ⟨hk.1.1.1.1.2, ⟨hk.1.1.1.2, hk.1.1.2⟩⟩⟩)⟩
           have n1_ : ae (Kd.R (Kd.int .u64) 64 ((((w151.setCell ⟨bW, 0, none⟩ (.bool t183)).setCell ⟨bW, 1, none⟩ (.slice lD gm.length lF)).setCell ⟨bX, 0, none⟩ (.bool fV)).setCell ⟨bX, 1, none⟩ (.slice kP eB.length kQ)) w.heap.size (fun k_ => some k_ ≠ (.slice fH bA.length fE : Value).ownBlock ∧ some k_ ≠ (.slice gN dD.length gM : Value).ownBlock ∧ some k_ ≠ (.slice lD gm.length lF : Value).ownBlock ∧ some k_ ≠ (.slice kP eB.length kQ : Value).ownBlock) (.slice fO bi.length fP) bi) := ⟨by (with_reducible repeat (first | apply Kd.bu | apply Kd.bv | apply Kd.bg)); exact Kd.bG (Kd.bH (p := ⟨bX, 1, none⟩) (Kd.bH (p := ⟨bX, 0, none⟩) (Kd.bH (p := ⟨bW, 1, none⟩) (Kd.bH (p := ⟨bW, 0, none⟩) (Kd.bU (Kd.bU ax.out bI.out (by decide)) bQ.out (by decide)) (fun _ hk => hk.1.2) (.bool t183)) (fun _ hk => hk.1.2) (.slice lD gm.length lF)) (fun _ hk => hk.2) (.bool fV)) (fun _ hk => hk.2) (.slice kP eB.length kQ)) (fun _ hk => ⟨hk.1.1.1.1.1, ⟨hk.1.1.1.1.2, ⟨hk.1.1.1.2, hk.1.1.2⟩⟩⟩)⟩
           have n2_ : ae (Kd.R (Kd.int .u64) 64 ((((w151.setCell ⟨bW, 0, none⟩ (.bool t183)).setCell ⟨bW, 1, none⟩ (.slice lD gm.length lF)).setCell ⟨bX, 0, none⟩ (.bool fV)).setCell ⟨bX, 1, none⟩ (.slice kP eB.length kQ)) w.heap.size (fun k_ => some k_ ≠ (.slice fH bA.length fE : Value).ownBlock ∧ some k_ ≠ (.slice fO bi.length fP : Value).ownBlock ∧ some k_ ≠ (.slice lD gm.length lF : Value).ownBlock ∧ some k_ ≠ (.slice kP eB.length kQ : Value).ownBlock) (.slice gN dD.length gM) dD) := ⟨by (with_reducible repeat (first | apply Kd.bu | apply Kd.bv | apply Kd.bg)); exact Kd.bG (Kd.bH (p := ⟨bX, 1, none⟩) (Kd.bH (p := ⟨bX, 0, none⟩) (Kd.bH (p := ⟨bW, 1, none⟩) (Kd.bH (p := ⟨bW, 0, none⟩) (Kd.bU (Kd.bU aG.out bI.out (by decide)) bQ.out (by decide)) (fun _ hk => hk.1.2) (.bool t183)) (fun _ hk => hk.1.2) (.slice lD gm.length lF)) (fun _ hk => hk.2) (.bool fV)) (fun _ hk => hk.2) (.slice kP eB.length kQ)) (fun _ hk => ⟨hk.1.1.1.1.1, ⟨hk.1.1.1.1.2, ⟨hk.1.1.1.2, hk.1.1.2⟩⟩⟩)⟩
           have n3_ : ae (Kd.R (Kd.int .u64) 64 ((((w151.setCell ⟨bW, 0, none⟩ (.bool t183)).setCell ⟨bW, 1, none⟩ (.slice lD gm.length lF)).setCell ⟨bX, 0, none⟩ (.bool fV)).setCell ⟨bX, 1, none⟩ (.slice kP eB.length kQ)) w.heap.size (fun k_ => some k_ ≠ (.slice fH bA.length fE : Value).ownBlock ∧ some k_ ≠ (.slice fO bi.length fP : Value).ownBlock ∧ some k_ ≠ (.slice gN dD.length gM : Value).ownBlock ∧ some k_ ≠ (.slice kP eB.length kQ : Value).ownBlock) (.slice lD gm.length lF) gm) := ⟨by (with_reducible repeat (first | apply Kd.bu | apply Kd.bv | apply Kd.bg)); exact Kd.bG (Kd.bH (p := ⟨bX, 1, none⟩) (Kd.bH (p := ⟨bX, 0, none⟩) (Kd.bH (p := ⟨bW, 1, none⟩) (Kd.bH (p := ⟨bW, 0, none⟩) (Kd.bU (Kd.bU dF.out bI.out (by decide)) bQ.out (by decide)) (fun _ hk => hk.1.2) (.bool t183)) (fun _ hk => hk.1.2) (.slice lD gm.length lF)) (fun _ hk => hk.2) (.bool fV)) (fun _ hk => hk.2) (.slice kP eB.length kQ)) (fun _ hk => ⟨hk.1.1.1.1.2, ⟨hk.1.1.1.2, ⟨hk.1.1.2, hk.1.1.1.1.1⟩⟩⟩)⟩
           have n4_ : ae (Kd.R (Kd.int .u64) 64 ((((w151.setCell ⟨bW, 0, none⟩ (.bool t183)).setCell ⟨bW, 1, none⟩ (.slice lD gm.length lF)).setCell ⟨bX, 0, none⟩ (.bool fV)).setCell ⟨bX, 1, none⟩ (.slice kP eB.length kQ)) w.heap.size (fun k_ => some k_ ≠ (.slice fH bA.length fE : Value).ownBlock ∧ some k_ ≠ (.slice fO bi.length fP : Value).ownBlock ∧ some k_ ≠ (.slice gN dD.length gM : Value).ownBlock ∧ some k_ ≠ (.slice lD gm.length lF : Value).ownBlock) (.slice kP eB.length kQ) eB) := ⟨by (with_reducible repeat (first | apply Kd.bu | apply Kd.bv | apply Kd.bg)); exact Kd.bG (Kd.bH (p := ⟨bX, 1, none⟩) (Kd.bH (p := ⟨bX, 0, none⟩) (Kd.bH (p := ⟨bW, 1, none⟩) (Kd.bH (p := ⟨bW, 0, none⟩) (Kd.bU (Kd.bU di.out bI.out (by decide)) bQ.out (by decide)) (fun _ hk => hk.1.2) (.bool t183)) (fun _ hk => hk.1.2) (.slice lD gm.length lF)) (fun _ hk => hk.2) (.bool fV)) (fun _ hk => hk.2) (.slice kP eB.length kQ)) (fun _ hk => ⟨hk.1.1.1.1.2, ⟨hk.1.1.1.2, ⟨hk.1.1.2, hk.1.1.1.1.1⟩⟩⟩)⟩
           have n5_ : ae (((((w151.setCell ⟨bW, 0, none⟩ (.bool t183)).setCell ⟨bW, 1, none⟩ (.slice lD gm.length lF)).setCell ⟨bX, 0, none⟩ (.bool fV)).setCell ⟨bX, 1, none⟩ (.slice kP eB.length kQ)).heap[bM]? = some (.cells #[.bool t105, .slice fH bA.length fE] 25 (0, 0))) := ⟨by refine bN ?_ jc.out _; refine bN ?_ jc.out _; refine bN ?_ iZ.out _; refine bN ?_ iZ.out _; (with_reducible repeat (first | refine bP ?_ _ | refine bf ?_ | refine bO ?_ _)); exact ai.out⟩
           have n6_ : ae (((((w151.setCell ⟨bW, 0, none⟩ (.bool t183)).setCell ⟨bW, 1, none⟩ (.slice lD gm.length lF)).setCell ⟨bX, 0, none⟩ (.bool fV)).setCell ⟨bX, 1, none⟩ (.slice kP eB.length kQ)).heap[cu]? = some (.cells #[.bool t109, .slice fO bi.length fP] 25 (0, 0))) := ⟨by refine bN ?_ jd.out _; refine bN ?_ jd.out _; refine bN ?_ ja.out _; refine bN ?_ ja.out _; (with_reducible repeat (first | refine bP ?_ _ | refine bf ?_ | refine bO ?_ _)); exact au.out⟩
           have n7_ : ae (((((w151.setCell ⟨bW, 0, none⟩ (.bool t183)).setCell ⟨bW, 1, none⟩ (.slice lD gm.length lF)).setCell ⟨bX, 0, none⟩ (.bool fV)).setCell ⟨bX, 1, none⟩ (.slice kP eB.length kQ)).heap[cB]? = some (.cells #[.bool eT, .slice gN dD.length gM] 25 (0, 0))) := ⟨by refine bN ?_ je.out _; refine bN ?_ je.out _; refine bN ?_ jb.out _; refine bN ?_ jb.out _; (with_reducible repeat (first | refine bP ?_ _ | refine bf ?_ | refine bO ?_ _)); exact aJ.out⟩
           have n8_ : ae (((((w151.setCell ⟨bW, 0, none⟩ (.bool t183)).setCell ⟨bW, 1, none⟩ (.slice lD gm.length lF)).setCell ⟨bX, 0, none⟩ (.bool fV)).setCell ⟨bX, 1, none⟩ (.slice kP eB.length kQ)).heap[bW]? = some (.cells #[.bool t183, .slice lD gm.length lF] 25 (0, 0))) := ⟨by refine bN ?_ jf.out _; refine bN ?_ jf.out _; refine dG (cs := #[.bool t183, .slice none 0 0]) ?_ 1 _ rfl; refine dG (cs := #[.bool false, .slice none 0 0]) ?_ 0 _ rfl; (with_reducible repeat (first | refine bP ?_ _ | refine bf ?_ | refine bO ?_ _)); exact bI.out⟩
           have n9_ : ae (((((w151.setCell ⟨bW, 0, none⟩ (.bool t183)).setCell ⟨bW, 1, none⟩ (.slice lD gm.length lF)).setCell ⟨bX, 0, none⟩ (.bool fV)).setCell ⟨bX, 1, none⟩ (.slice kP eB.length kQ)).heap[bX]? = some (.cells #[.bool fV, .slice kP eB.length kQ] 25 (0, 0))) := ⟨by refine dG (cs := #[.bool fV, .slice none 0 0]) ?_ 1 _ rfl; refine dG (cs := #[.bool false, .slice none 0 0]) ?_ 0 _ rfl; refine bN ?_ jg.out _; refine bN ?_ jg.out _; (with_reducible repeat (first | refine bP ?_ _ | refine bf ?_ | refine bO ?_ _)); exact bQ.out⟩
           have rV : ae (Below w.heap.size w ((((w151.setCell ⟨bW, 0, none⟩ (.bool t183)).setCell ⟨bW, 1, none⟩ (.slice lD gm.length lF)).setCell ⟨bX, 0, none⟩ (.bool fV)).setCell ⟨bX, 1, none⟩ (.slice kP eB.length kQ))) := ⟨by repeat (first | (with_reducible first | exact HB.out | apply aM | apply aD | apply aH | refine aQ ?_ gB.out | refine aQ ?_ ib.out | refine aQ ?_ jB.out | refine aQ ?_ ql.out | refine aQ ?_ qm.out) | exact HB.out)⟩
           (try clear ay)
           (try clear ax)
           (try clear aG)
           (try clear dF)
           (try clear di)
           (try clear ai)
           (try clear au)
           (try clear aJ)
           (try clear bI)
           (try clear bQ)
           (try clear HB)
           generalize ((((w151.setCell ⟨bW, 0, none⟩ (.bool t183)).setCell ⟨bW, 1, none⟩ (.slice lD gm.length lF)).setCell ⟨bX, 0, none⟩ (.bool fV)).setCell ⟨bX, 1, none⟩ (.slice kP eB.length kQ)) = w163 at n0_ n1_ n2_ n3_ n4_ n5_ n6_ n7_ n8_ n9_ rV ⊢
           have ay := n0_
           have ax := n1_
           have aG := n2_
           have dF := n3_
           have di := n4_
           have ai := n5_
           have au := n6_
           have aJ := n7_
           have bI := n8_
           have bQ := n9_
           have HB := rV
           clear n0_ n1_ n2_ n3_ n4_ n5_ n6_ n7_ n8_ n9_ rV
           replace ay := ae.mk (Kd.bg ay.out)
           replace ax := ae.mk (Kd.bg ax.out)
           replace aG := ae.mk (Kd.bg aG.out)
           replace dF := ae.mk (Kd.bg dF.out)
           replace di := ae.mk (Kd.bg di.out)
           replace ai := ae.mk (bf ai.out)
           replace au := ae.mk (bf au.out)
           replace aJ := ae.mk (bf aJ.out)
           replace bI := ae.mk (bf bI.out)
           replace bQ := ae.mk (bf bQ.out)
           replace HB := ae.mk (aH HB.out)
           refine j6 (n := 30) (S := fun w' => w'.cell? ⟨bW, 0, none⟩ = some (.bool t183) ∧ w'.cell? ⟨bW, 1, none⟩ = some (.slice lD gm.length lF) ∧ w'.cell? ⟨cu, 0, none⟩ = some (.bool t109) ∧ w'.cell? ⟨cu, 1, none⟩ = some (.slice fO bi.length fP) ∧ w'.cell? ⟨bX, 0, none⟩ = some (.bool fV) ∧ w'.cell? ⟨bX, 1, none⟩ = some (.slice kP eB.length kQ) ∧ w'.cell? ⟨bM, 0, none⟩ = some (.bool t105) ∧ w'.cell? ⟨bM, 1, none⟩ = some (.slice fH bA.length fE)) (ds := []) #[bF,bF,bF,bF,bF,bF,bF,bF,bF,bF,bF,bF,bF,bF,bF,bF,bF,bF,bF,bF,bF,bF,bF,bF,bF,bF,bF,bF,bF,bF] (by kernel_rfl) rfl rfl ⟨(af bI.out 0).trans rfl, (af bI.out 1).trans rfl, (af au.out 0).trans rfl, (af au.out 1).trans rfl, (af bQ.out 0).trans rfl, (af bQ.out 1).trans rfl, (af ai.out 0).trans rfl, (af ai.out 1).trans rfl⟩ (fun hHeld => ?_); refine iQ ag.zw ag.wT (fun HT_ HW_ => ?_)
           generalize w163.drew = w164 at ay ax aG dF di ai au aJ bI bQ HB hHeld ⊢
           refine eU 0 (some 91) HT_ HW_ hHeld ?_
           refine eU 1 (some 92) HT_ HW_ hHeld ?_
           refine eU 3 (some 94) HT_ HW_ hHeld ?_
           refine eU 5 (some 96) HT_ HW_ hHeld ?_
           refine gU 2 (some 93) HT_ (fun K hK => ?_)
           refine fo Tryd.func10 #[.agg #[.bool t183, .slice lD gm.length lF], .agg #[.bool t109, .slice fO bi.length fP]] ?_
           with_reducible refine (bC.calls gX t183 _ _ gm t109 _ _ bi t194 tC _ ?aU ?aV ?bJ ?bK A135.out).mono ?_
           (case aU => exact qs ((Kd.ak dF.out).2.2))
           (case aV => exact (Kd.ak dF.out).2.1)
           (case bJ => exact qs ((Kd.ak ax.out).2.2))
           (case bK => exact (Kd.ak ax.out).2.1)
           rintro e w165 ⟨v196, rfl, ho0, hb⟩
           refine ⟨_, rfl, ?_⟩
           have gJ := ae.mk (Kd.bz (Kd.aA (Kd.aA (Kd.aA (Kd.aA (Kd.aA ho0 (Kd.aY (qr ay))) (Kd.aY (qr ax))) (Kd.aY (qr aG))) (Kd.aY (qr dF))) (Kd.aY (qr di))) (aN (qw HB)))
           replace ay := ae.mk (Kd.aj (qr ay) (Kd.az ho0) hb)
           replace ax := ae.mk (Kd.aj (qr ax) (Kd.az ho0) hb)
           replace aG := ae.mk (Kd.aj (qr aG) (Kd.az ho0) hb)
           replace dF := ae.mk (Kd.aj (qr dF) (Kd.az ho0) hb)
           replace di := ae.mk (Kd.aj (qr di) (Kd.az ho0) hb)
           replace ai := qbb ai hb
           replace au := qbb au hb
           replace aJ := qbb aJ hb
           replace bI := qbb bI hb
           replace bQ := qbb bQ hb
           replace HB := ae.mk (av (qw HB) hb)
           (try clear hb)
           (try clear hb2)
           (try clear hk)
           (try clear hi)
           (try clear ho0)
           obtain ⟨Ib, Ic, DU⟩ := Kd.bD gJ.out
           (first | subst DU | (injection DU with f1_ f2_ f3_; have f4_ := f1_.symm; have f5_ := f3_.symm; clear f1_ f2_ f3_; subst f4_; subst f5_))
           refine hK.out _ _ ⟨(af bI.out 0).trans rfl, (af bI.out 1).trans rfl, (af au.out 0).trans rfl, (af au.out 1).trans rfl, (af bQ.out 0).trans rfl, (af bQ.out 1).trans rfl, (af ai.out 0).trans rfl, (af ai.out 1).trans rfl⟩ (fun hHeld => ?_)
           clear hK K
           refine eY (some 93) ?_
           refine gU 4 (some 95) HT_ (fun K hK => ?_)
           refine fo Tryd.func9 #[.agg #[.bool t194, .slice Ib tC.length Ic], .agg #[.bool fV, .slice kP eB.length kQ]] ?_
           with_reducible refine (bE.calls gX t194 _ _ tC fV _ _ eB t198 tF _ ?aU ?aV ?bJ ?bK A136.out).mono ?_
           (case aU => exact qs ((Kd.ak gJ.out).2.2))
           (case aV => exact (Kd.ak gJ.out).2.1)
           (case bJ => exact qs ((Kd.ak di.out).2.2))
           (case bK => exact (Kd.ak di.out).2.1)
           rintro e w167 ⟨v200, rfl, ho0, hb⟩
           refine ⟨_, rfl, ?_⟩
           have ic := ae.mk (Kd.bz (Kd.aA (Kd.aA (Kd.aA (Kd.aA (Kd.aA (Kd.aA ho0 (Kd.aY (qr ay))) (Kd.aY (qr ax))) (Kd.aY (qr aG))) (Kd.aY (qr dF))) (Kd.aY (qr di))) (Kd.aY (qr gJ))) (aN (qw HB)))
           replace ay := ae.mk (Kd.aj (qr ay) (Kd.az ho0) hb)
           replace ax := ae.mk (Kd.aj (qr ax) (Kd.az ho0) hb)
           replace aG := ae.mk (Kd.aj (qr aG) (Kd.az ho0) hb)
           replace dF := ae.mk (Kd.aj (qr dF) (Kd.az ho0) hb)
           replace di := ae.mk (Kd.aj (qr di) (Kd.az ho0) hb)
           replace gJ := ae.mk (Kd.aj (qr gJ) (Kd.az ho0) hb)
           replace ai := qbb ai hb
           replace au := qbb au hb
           replace aJ := qbb aJ hb
           replace bI := qbb bI hb
           replace bQ := qbb bQ hb
           replace HB := ae.mk (av (qw HB) hb)
           (try clear hb)
           (try clear hb2)
           (try clear hk)
           (try clear hi)
           (try clear ho0)
           obtain ⟨Ie, Ig, DV⟩ := Kd.bD ic.out
           (first | subst DV | (injection DV with f1_ f2_ f3_; have f4_ := f1_.symm; have f5_ := f3_.symm; clear f1_ f2_ f3_; subst f4_; subst f5_))
           refine hK.out _ _ ⟨(af bI.out 0).trans rfl, (af bI.out 1).trans rfl, (af au.out 0).trans rfl, (af au.out 1).trans rfl, (af bQ.out 0).trans rfl, (af bQ.out 1).trans rfl, (af ai.out 0).trans rfl, (af ai.out 1).trans rfl⟩ (fun hHeld => ?_)
           clear hK K
           refine eY (some 95) ?_
           refine gU 6 (some 97) HT_ (fun K hK => ?_)
           refine fo Tryd.func8 #[.agg #[.bool t198, .slice Ie tF.length Ig], .agg #[.bool t105, .slice fH bA.length fE]] ?_
           with_reducible refine (aR.calls gX t198 _ _ tF t105 _ _ bA true _ ?aU ?aV ?bJ ?bK A137.out).mono ?_
           (case aU => exact qs ((Kd.ak ic.out).2.2))
           (case aV => exact (Kd.ak ic.out).2.1)
           (case bJ => exact qs ((Kd.ak ay.out).2.2))
           (case bK => exact (Kd.ak ay.out).2.1)
           rintro e w169 ⟨rfl, hb⟩
           refine ⟨_, rfl, ?_⟩
           replace ay := ae.mk (Kd.aI (qr ay) hb)
           replace ax := ae.mk (Kd.aI (qr ax) hb)
           replace aG := ae.mk (Kd.aI (qr aG) hb)
           replace dF := ae.mk (Kd.aI (qr dF) hb)
           replace di := ae.mk (Kd.aI (qr di) hb)
           replace gJ := ae.mk (Kd.aI (qr gJ) hb)
           replace ic := ae.mk (Kd.aI (qr ic) hb)
           replace ai := qbb ai hb
           replace au := qbb au hb
           replace aJ := qbb aJ hb
           replace bI := qbb bI hb
           replace bQ := qbb bQ hb
           replace HB := ae.mk (av (qw HB) hb)
           (try clear hb)
           (try clear hb2)
           (try clear hk)
           (try clear hi)
           refine hK.out _ _ ⟨(af bI.out 0).trans rfl, (af bI.out 1).trans rfl, (af au.out 0).trans rfl, (af au.out 1).trans rfl, (af bQ.out 0).trans rfl, (af bQ.out 1).trans rfl, (af ai.out 0).trans rfl, (af ai.out 1).trans rfl⟩ (fun hHeld => ?_)
           clear hK K
           refine eY (some 97) ?_
           refine cZ 7 (some 98) HT_ ?_
           refine eU 8 (some 99) HT_ HW_ hHeld ?_
           refine gU 9 (some 100) HT_ (fun K hK => ?_)
           refine fo Tryd.func14 #[.agg #[.bool fV, .slice kP eB.length kQ]] ?_
           with_reducible refine (dE.calls fV _ _ eB t203 _ ?aU ?aV A139.out).mono ?_
           (case aU => exact qs ((Kd.ak di.out).2.2))
           (case aV => exact (Kd.ak di.out).2.1)
           rintro e w170 ⟨rfl, hb⟩
           refine ⟨_, rfl, ?_⟩
           replace ay := ae.mk (Kd.aI (qr ay) hb)
           replace ax := ae.mk (Kd.aI (qr ax) hb)
           replace aG := ae.mk (Kd.aI (qr aG) hb)
           replace dF := ae.mk (Kd.aI (qr dF) hb)
           replace di := ae.mk (Kd.aI (qr di) hb)
           replace gJ := ae.mk (Kd.aI (qr gJ) hb)
           replace ic := ae.mk (Kd.aI (qr ic) hb)
           replace ai := qbb ai hb
           replace au := qbb au hb
           replace aJ := qbb aJ hb
           replace bI := qbb bI hb
           replace bQ := qbb bQ hb
           replace HB := ae.mk (av (qw HB) hb)
           (try clear hb)
           (try clear hb2)
           (try clear hk)
           (try clear hi)
           refine hK.out _ _ ⟨(af bI.out 0).trans rfl, (af bI.out 1).trans rfl, (af au.out 0).trans rfl, (af au.out 1).trans rfl, (af bQ.out 0).trans rfl, (af bQ.out 1).trans rfl, (af ai.out 0).trans rfl, (af ai.out 1).trans rfl⟩ (fun hHeld => ?_)
           clear hK K
           refine eY (some 100) ?_
           refine cZ 10 (some 101) HT_ ?_
           refine cZ 11 (some 102) HT_ ?_
           refine fe 12 (some 103) HT_ ?_
           refine fe 13 (some 104) HT_ ?_
           refine fe 14 (some 105) HT_ ?_
           refine fe 15 (some 106) HT_ ?_
           refine fe 16 (some 107) HT_ ?_
           refine cZ 17 (some 108) HT_ ?_
           refine cZ 18 (some 109) HT_ ?_
           refine cZ 19 (some 110) HT_ ?_
           refine cZ 20 (some 111) HT_ ?_
           refine cZ 23 (some 114) HT_ ?_
           refine eU 21 (some 112) HT_ HW_ hHeld ?_
           refine eU 24 (some 115) HT_ HW_ hHeld ?_
           refine gU 22 (some 113) HT_ (fun K hK => ?_)
           refine fo Tryd.func15 #[.bool false, .slice kP eB.length kQ] ?_
           with_reducible refine (aX.calls gX false _ _ eB BM BN _ ?aU ?aV A141.out).mono ?_
           (case aU => exact qs ((Kd.ak di.out).2.2))
           (case aV => exact (Kd.ak di.out).2.1)
           rintro e w171 ⟨v206, rfl, ho0, hb⟩
           refine ⟨_, rfl, ?_⟩
           have uh := ae.mk (Kd.bz (Kd.aA (Kd.aA (Kd.aA (Kd.aA (Kd.aA (Kd.aA (Kd.aA ho0 (Kd.aY (qr ay))) (Kd.aY (qr ax))) (Kd.aY (qr aG))) (Kd.aY (qr dF))) (Kd.aY (qr di))) (Kd.aY (qr gJ))) (Kd.aY (qr ic))) (aN (qw HB)))
           replace ay := ae.mk (Kd.aj (qr ay) (Kd.az ho0) hb)
           replace ax := ae.mk (Kd.aj (qr ax) (Kd.az ho0) hb)
           replace aG := ae.mk (Kd.aj (qr aG) (Kd.az ho0) hb)
           replace dF := ae.mk (Kd.aj (qr dF) (Kd.az ho0) hb)
           replace di := ae.mk (Kd.aj (qr di) (Kd.az ho0) hb)
           replace gJ := ae.mk (Kd.aj (qr gJ) (Kd.az ho0) hb)
           replace ic := ae.mk (Kd.aj (qr ic) (Kd.az ho0) hb)
           replace ai := qbb ai hb
           replace au := qbb au hb
           replace aJ := qbb aJ hb
           replace bI := qbb bI hb
           replace bQ := qbb bQ hb
           replace HB := ae.mk (av (qw HB) hb)
           (try clear hb)
           (try clear hb2)
           (try clear hk)
           (try clear hi)
           (try clear ho0)
           refine hK.out _ _ ⟨(af bI.out 0).trans rfl, (af bI.out 1).trans rfl, (af au.out 0).trans rfl, (af au.out 1).trans rfl, (af bQ.out 0).trans rfl, (af bQ.out 1).trans rfl, (af ai.out 0).trans rfl, (af ai.out 1).trans rfl⟩ (fun hHeld => ?_)
           clear hK K
           refine eY (some 113) ?_
           refine gU 25 (some 116) HT_ (fun K hK => ?_)
           refine fo Tryd.func15 #[.bool false, .slice fO bi.length fP] ?_
           with_reducible refine (aX.calls gX false _ _ bi t208 Da _ ?aU ?aV A142.out).mono ?_
           (case aU => exact qs ((Kd.ak ax.out).2.2))
           (case aV => exact (Kd.ak ax.out).2.1)
           rintro e w172 ⟨v210, rfl, ho0, hb⟩
           refine ⟨_, rfl, ?_⟩
           have xN := ae.mk (Kd.bz (Kd.aA (Kd.aA (Kd.aA (Kd.aA (Kd.aA (Kd.aA (Kd.aA (Kd.aA ho0 (Kd.aY (qr ay))) (Kd.aY (qr ax))) (Kd.aY (qr aG))) (Kd.aY (qr dF))) (Kd.aY (qr di))) (Kd.aY (qr gJ))) (Kd.aY (qr ic))) (Kd.aY (qr uh))) (aN (qw HB)))
           replace ay := ae.mk (Kd.aj (qr ay) (Kd.az ho0) hb)
           replace ax := ae.mk (Kd.aj (qr ax) (Kd.az ho0) hb)
           replace aG := ae.mk (Kd.aj (qr aG) (Kd.az ho0) hb)
           replace dF := ae.mk (Kd.aj (qr dF) (Kd.az ho0) hb)
           replace di := ae.mk (Kd.aj (qr di) (Kd.az ho0) hb)
           replace gJ := ae.mk (Kd.aj (qr gJ) (Kd.az ho0) hb)
           replace ic := ae.mk (Kd.aj (qr ic) (Kd.az ho0) hb)
           replace uh := ae.mk (Kd.aj (qr uh) (Kd.az ho0) hb)
           replace ai := qbb ai hb
           replace au := qbb au hb
           replace aJ := qbb aJ hb
           replace bI := qbb bI hb
           replace bQ := qbb bQ hb
           replace HB := ae.mk (av (qw HB) hb)
           (try clear hb)
           (try clear hb2)
           (try clear hk)
           (try clear hi)
           (try clear ho0)
           obtain ⟨Ih, Ii, DW⟩ := Kd.bD uh.out
           (first | subst DW | (injection DW with f1_ f2_ f3_; have f4_ := f1_.symm; have f5_ := f3_.symm; clear f1_ f2_ f3_; subst f4_; subst f5_))
           obtain ⟨Ij, Ik, DX⟩ := Kd.bD xN.out
           (first | subst DX | (injection DX with f1_ f2_ f3_; have f4_ := f1_.symm; have f5_ := f3_.symm; clear f1_ f2_ f3_; subst f4_; subst f5_))
           refine hK.out _ _ ⟨(af bI.out 0).trans rfl, (af bI.out 1).trans rfl, (af au.out 0).trans rfl, (af au.out 1).trans rfl, (af bQ.out 0).trans rfl, (af bQ.out 1).trans rfl, (af ai.out 0).trans rfl, (af ai.out 1).trans rfl⟩ (fun hHeld => ?_)
           clear hK K
           refine eY (some 116) ?_
           refine gU 26 (some 117) HT_ (fun K hK => ?_)
           refine fo Tryd.func12 #[.agg #[.bool BM, .slice Ih BN.length Ii], .agg #[.bool t208, .slice Ij Da.length Ik]] ?_
           with_reducible refine (dn.calls gX BM _ _ BN t208 _ _ Da t212 _ ?aU ?aV ?bJ ?bK A143.out).mono ?_
           (case aU => exact qs ((Kd.ak uh.out).2.2))
           (case aV => exact (Kd.ak uh.out).2.1)
           (case bJ => exact qs ((Kd.ak xN.out).2.2))
           (case bK => exact (Kd.ak xN.out).2.1)
           rintro e w175 ⟨rfl, hb⟩
           refine ⟨_, rfl, ?_⟩
           replace ay := ae.mk (Kd.aI (qr ay) hb)
           replace ax := ae.mk (Kd.aI (qr ax) hb)
           replace aG := ae.mk (Kd.aI (qr aG) hb)
           replace dF := ae.mk (Kd.aI (qr dF) hb)
           replace di := ae.mk (Kd.aI (qr di) hb)
           replace gJ := ae.mk (Kd.aI (qr gJ) hb)
           replace ic := ae.mk (Kd.aI (qr ic) hb)
           replace uh := ae.mk (Kd.aI (qr uh) hb)
           replace xN := ae.mk (Kd.aI (qr xN) hb)
           replace ai := qbb ai hb
           replace au := qbb au hb
           replace aJ := qbb aJ hb
           replace bI := qbb bI hb
           replace bQ := qbb bQ hb
           replace HB := ae.mk (av (qw HB) hb)
           (try clear hb)
           (try clear hb2)
           (try clear hk)
           (try clear hi)
           refine hK.out _ _ ⟨(af bI.out 0).trans rfl, (af bI.out 1).trans rfl, (af au.out 0).trans rfl, (af au.out 1).trans rfl, (af bQ.out 0).trans rfl, (af bQ.out 1).trans rfl, (af ai.out 0).trans rfl, (af ai.out 1).trans rfl⟩ (fun hHeld => ?_)
           clear hK K
           refine eY (some 117) ?_
           refine cZ 27 (some 118) HT_ ?_
           refine cZ 28 (some 119) HT_ ?_
           refine cZ 29 (some 6) HT_ ?_
           refine nM HT_ ?_
           try go_wp2
           go_ret
           exact ⟨by first | rfl | (simp [errW_none, errW_some] <;> rfl) | (simp [*, errW_none, errW_some] <;> rfl), by repeat (first | (with_reducible first | exact HB.out | apply aM | apply aD | apply aH | refine aQ ?_ gB.out | refine aQ ?_ ib.out | refine aQ ?_ jB.out | refine aQ ?_ ql.out | refine aQ ?_ qm.out) | exact HB.out)⟩
          ·rw [if_neg c140] at H
           have Fj : (t203 == 0) = false := beq_eq_false_iff_ne.mpr c140
           have Fp : (t203 != 0) = true := bne_iff_ne.mpr c140
           replace H := Option.bind_eq_some_iff.mp H
           obtain ⟨t213, A1760, H⟩ := H
           replace H : ((dE.f t109 bi).bind fun om => (if t213 = om then ((aX.f gX false eB).bind fun kz => ((aX.f gX false bi).bind fun jU => ((dn.f gX kz.1 kz.2 jU.1 jU.2).bind fun oo => (some (decide (oo < 0)))))) else (some false))) = some r := H
           have A176 := ae.mk A1760
           clear A1760
           replace H := Option.bind_eq_some_iff.mp H
           obtain ⟨om, A1770, H⟩ := H
           replace H : (if t213 = om then ((aX.f gX false eB).bind fun kz => ((aX.f gX false bi).bind fun jU => ((dn.f gX kz.1 kz.2 jU.1 jU.2).bind fun oo => (some (decide (oo < 0)))))) else (some false)) = some r := H
           have A177 := ae.mk A1770
           clear A1770
           by_cases c178 : t213 = om
           ·rw [if_pos c178] at H
            have Fq : (t213 == om) = true := beq_iff_eq.mpr c178
            have Fs : (t213 != om) = false := bne_eq_false_iff_eq.mpr c178
            clear c178
            replace H := Option.bind_eq_some_iff.mp H
            obtain ⟨⟨BO, BP⟩, A1790, H⟩ := H
            replace H : ((aX.f gX false bi).bind fun jU => ((dn.f gX BO BP jU.1 jU.2).bind fun oo => (some (decide (oo < 0))))) = some r := H
            have A179 := ae.mk A1790
            clear A1790
            replace H := Option.bind_eq_some_iff.mp H
            obtain ⟨⟨Db, Dc⟩, A1800, H⟩ := H
            replace H : ((dn.f gX BO BP Db Dc).bind fun oo => (some (decide (oo < 0)))) = some r := H
            have A180 := ae.mk A1800
            clear A1800
            replace H := Option.bind_eq_some_iff.mp H
            obtain ⟨oo, A1810, H⟩ := H
            replace H : (some (decide (oo < 0))) = some r := H
            have A181 := ae.mk A1810
            clear A1810
            obtain rfl := Option.some.inj H
            have hnb182 := eD.out
            have hnc182 := eF.out
            have hnb183 := dm.out
            have hnc183 := eZ.out
            have hcz184_0 : wc.cell? ⟨bM, 0, none⟩ = some (.bool t105) := (af ai.out 0).trans rfl
            have hcz184_1 : wc.cell? ⟨bM, 1, none⟩ = some (.slice fH bA.length fE) := (af ai.out 1).trans rfl
            have hfz184_0 := aK ai.out 0
            have hfz184_1 := aK ai.out 1
            have hnb185 := dh.out
            have hnc185 := eX.out
            have hcz186_0 : wc.cell? ⟨cu, 0, none⟩ = some (.bool t109) := (af au.out 0).trans rfl
            have hcz186_1 : wc.cell? ⟨cu, 1, none⟩ = some (.slice fO bi.length fP) := (af au.out 1).trans rfl
            have hfz186_0 := aK au.out 0
            have hfz186_1 := aK au.out 1
            try go_wp2_with (first | ((with_reducible refine aW (f := 13) rfl ?_); refine cO (some 81) rfl rfl Tryd.func13 (by kernel_rfl) rfl #[.agg #[.bool t105, .slice fH bA.length fE], .agg #[.bool t109, .slice fO bi.length fP]] rfl qt ?_; (with_reducible refine (dB.calls gX t105 _ _ bA t109 _ _ bi t183 gm fV eB uZ _ ?aU ?aV ?bJ ?bK A133.out).mono ?_); (case aU => exact qs ((Kd.ak ay.out).2.2)); (case aV => exact (Kd.ak ay.out).2.1); (case bJ => exact qs ((Kd.ak ax.out).2.2)); (case bK => exact (Kd.ak ax.out).2.1); rintro e w187 ⟨v185, v189, rfl, ho0, ho1, hb⟩; refine ⟨_, rfl, ?_⟩; have dF := ae.mk (Kd.bz (Kd.aA (Kd.aA (Kd.aA ho0 (Kd.aY (qr ay))) (Kd.aY (qr ax))) (Kd.aY (qr aG))) (aN (qw HB))); have di := ae.mk (Kd.bz (Kd.aA (Kd.aA (Kd.aA ho1 (Kd.aY (qr ay))) (Kd.aY (qr ax))) (Kd.aY (qr aG))) (aN (qw HB))); replace ay := ae.mk (Kd.bG (Kd.gQ (Kd.gQ (Kd.mo (qr ay) hb) (Kd.az ho0)) (Kd.az ho1)) (fun _ h_ => h_.1)); replace ax := ae.mk (Kd.bG (Kd.gQ (Kd.gQ (Kd.mo (qr ax) hb) (Kd.az ho0)) (Kd.az ho1)) (fun _ h_ => h_.1)); replace aG := ae.mk (Kd.bG (Kd.gQ (Kd.gQ (Kd.mo (qr aG) hb) (Kd.az ho0)) (Kd.az ho1)) (fun _ h_ => h_.1)); replace ai := qbb ai hb; replace au := qbb au hb; replace aJ := qbb aJ hb; replace HB := ae.mk (av (qw HB) hb); (try clear hb); (try clear hb2); (try clear hk); (try clear hi); (try clear ho0); (try clear ho1)) | ((with_reducible refine bR (N := 7) rfl ?_); refine bS ?hg (N := 7) ?hd (cs := #[.bool false, .slice none 0 0]) (t := 25) ?hr ?_; (case hd => rfl); (case hg => rfl); (case hr => first | (go_simp; done) | (go_simp; rfl)); intro bW hg w188 hbox hb; replace ay := ae.mk (Kd.aI (qr ay) hb); replace ax := ae.mk (Kd.aI (qr ax) hb); replace aG := ae.mk (Kd.aI (qr aG) hb); replace dF := ae.mk (Kd.aI (qr dF) hb); replace di := ae.mk (Kd.aI (qr di) hb); have bI := ae.mk (hbox); have GW192 := qge HB hg; have ql := qge HB hg; replace HB := ae.mk (av (qw HB) hb); have iZ := qnl ai hg; have mU := qng ai hg; replace ai := qbb ai hb; have ja := qnl au hg; have mV := qng au hg; replace au := qbb au hb; have jb := qnl aJ hg; have mW := qng aJ hg; replace aJ := qbb aJ hb; clear hb hbox hg) | ((with_reducible refine bR (N := 8) rfl ?_); refine bS ?hg (N := 8) ?hd (cs := #[.bool false, .slice none 0 0]) (t := 25) ?hr ?_; (case hd => rfl); (case hg => rfl); (case hr => first | (go_simp; done) | (go_simp; rfl)); intro bX hg w189 hbox hb; replace ay := ae.mk (Kd.aI (qr ay) hb); replace ax := ae.mk (Kd.aI (qr ax) hb); replace aG := ae.mk (Kd.aI (qr aG) hb); replace dF := ae.mk (Kd.aI (qr dF) hb); replace di := ae.mk (Kd.aI (qr di) hb); have bQ := ae.mk (hbox); have GW193 := qge HB hg; have qm := qge HB hg; replace HB := ae.mk (av (qw HB) hb); have jc := qnl ai hg; have mX := qng ai hg; replace ai := qbb ai hb; have jd := qnl au hg; have mY := qng au hg; replace au := qbb au hb; have je := qnl aJ hg; have mZ := qng aJ hg; replace aJ := qbb aJ hb; have jf := qnl bI hg; have jg := qng bI hg; replace bI := qbb bI hb; clear hb hbox hg; have hnb190 := mU.out; have hnc190 := iZ.out; have hnb191 := mV.out; have hnc191 := ja.out; have hnb192 := mW.out; have hnc192 := jb.out; have hnb193 := jf.out; have hnc193 := jg.out; have hcz194_0 : w189.cell? ⟨bW, 0, none⟩ = some (.bool false) := (af bI.out 0).trans rfl; have hcz194_1 : w189.cell? ⟨bW, 1, none⟩ = some (.slice none 0 0) := (af bI.out 1).trans rfl; have hfz194_0 := aK bI.out 0; have hfz194_1 := aK bI.out 1; obtain ⟨lG, lH, Il⟩ := Kd.bD dF.out; subst Il; have hnb196 := mX.out; have hnc196 := jc.out; have hnb197 := mY.out; have hnc197 := jd.out; have hnb198 := mZ.out; have hnc198 := je.out; have hcz199_0 : w189.cell? ⟨bX, 0, none⟩ = some (.bool false) := (af bQ.out 0).trans rfl; have hcz199_1 : w189.cell? ⟨bX, 1, none⟩ = some (.slice none 0 0) := (af bQ.out 1).trans rfl; have hfz199_0 := aK bQ.out 0; have hfz199_1 := aK bQ.out 1; obtain ⟨kG, kH, Im⟩ := Kd.bD di.out; subst Im))
            have n0_ : ae (Kd.R (Kd.int .u64) 64 ((((w189.setCell ⟨bW, 0, none⟩ (.bool t183)).setCell ⟨bW, 1, none⟩ (.slice lG gm.length lH)).setCell ⟨bX, 0, none⟩ (.bool fV)).setCell ⟨bX, 1, none⟩ (.slice kG eB.length kH)) w.heap.size (fun k_ => some k_ ≠ (.slice fO bi.length fP : Value).ownBlock ∧ some k_ ≠ (.slice gN dD.length gM : Value).ownBlock ∧ some k_ ≠ (.slice lG gm.length lH : Value).ownBlock ∧ some k_ ≠ (.slice kG eB.length kH : Value).ownBlock) (.slice fH bA.length fE) bA) := ⟨by (with_reducible repeat (first | apply Kd.bu | apply Kd.bv | apply Kd.bg)); exact Kd.bG (Kd.bH (p := ⟨bX, 1, none⟩) (Kd.bH (p := ⟨bX, 0, none⟩) (Kd.bH (p := ⟨bW, 1, none⟩) (Kd.bH (p := ⟨bW, 0, none⟩) (Kd.bU (Kd.bU ay.out bI.out (by decide)) bQ.out (by decide)) (fun _ hk => hk.1.2) (.bool t183)) (fun _ hk => hk.1.2) (.slice lG gm.length lH)) (fun _ hk => hk.2) (.bool fV)) (fun _ hk => hk.2) (.slice kG eB.length kH)) (fun _ hk => ⟨hk.1.1.1.1.1, ⟨hk.1.1.1.1.2, ⟨hk.1.1.1.2, hk.1.1.2⟩⟩⟩)⟩
            have n1_ : ae (Kd.R (Kd.int .u64) 64 ((((w189.setCell ⟨bW, 0, none⟩ (.bool t183)).setCell ⟨bW, 1, none⟩ (.slice lG gm.length lH)).setCell ⟨bX, 0, none⟩ (.bool fV)).setCell ⟨bX, 1, none⟩ (.slice kG eB.length kH)) w.heap.size (fun k_ => some k_ ≠ (.slice fH bA.length fE : Value).ownBlock ∧ some k_ ≠ (.slice gN dD.length gM : Value).ownBlock ∧ some k_ ≠ (.slice lG gm.length lH : Value).ownBlock ∧ some k_ ≠ (.slice kG eB.length kH : Value).ownBlock) (.slice fO bi.length fP) bi) := ⟨by (with_reducible repeat (first | apply Kd.bu | apply Kd.bv | apply Kd.bg)); exact Kd.bG (Kd.bH (p := ⟨bX, 1, none⟩) (Kd.bH (p := ⟨bX, 0, none⟩) (Kd.bH (p := ⟨bW, 1, none⟩) (Kd.bH (p := ⟨bW, 0, none⟩) (Kd.bU (Kd.bU ax.out bI.out (by decide)) bQ.out (by decide)) (fun _ hk => hk.1.2) (.bool t183)) (fun _ hk => hk.1.2) (.slice lG gm.length lH)) (fun _ hk => hk.2) (.bool fV)) (fun _ hk => hk.2) (.slice kG eB.length kH)) (fun _ hk => ⟨hk.1.1.1.1.1, ⟨hk.1.1.1.1.2, ⟨hk.1.1.1.2, hk.1.1.2⟩⟩⟩)⟩
            have n2_ : ae (Kd.R (Kd.int .u64) 64 ((((w189.setCell ⟨bW, 0, none⟩ (.bool t183)).setCell ⟨bW, 1, none⟩ (.slice lG gm.length lH)).setCell ⟨bX, 0, none⟩ (.bool fV)).setCell ⟨bX, 1, none⟩ (.slice kG eB.length kH)) w.heap.size (fun k_ => some k_ ≠ (.slice fH bA.length fE : Value).ownBlock ∧ some k_ ≠ (.slice fO bi.length fP : Value).ownBlock ∧ some k_ ≠ (.slice lG gm.length lH : Value).ownBlock ∧ some k_ ≠ (.slice kG eB.length kH : Value).ownBlock) (.slice gN dD.length gM) dD) := ⟨by (with_reducible repeat (first | apply Kd.bu | apply Kd.bv | apply Kd.bg)); exact Kd.bG (Kd.bH (p := ⟨bX, 1, none⟩) (Kd.bH (p := ⟨bX, 0, none⟩) (Kd.bH (p := ⟨bW, 1, none⟩) (Kd.bH (p := ⟨bW, 0, none⟩) (Kd.bU (Kd.bU aG.out bI.out (by decide)) bQ.out (by decide)) (fun _ hk => hk.1.2) (.bool t183)) (fun _ hk => hk.1.2) (.slice lG gm.length lH)) (fun _ hk => hk.2) (.bool fV)) (fun _ hk => hk.2) (.slice kG eB.length kH)) (fun _ hk => ⟨hk.1.1.1.1.1, ⟨hk.1.1.1.1.2, ⟨hk.1.1.1.2, hk.1.1.2⟩⟩⟩)⟩
            have n3_ : ae (Kd.R (Kd.int .u64) 64 ((((w189.setCell ⟨bW, 0, none⟩ (.bool t183)).setCell ⟨bW, 1, none⟩ (.slice lG gm.length lH)).setCell ⟨bX, 0, none⟩ (.bool fV)).setCell ⟨bX, 1, none⟩ (.slice kG eB.length kH)) w.heap.size (fun k_ => some k_ ≠ (.slice fH bA.length fE : Value).ownBlock ∧ some k_ ≠ (.slice fO bi.length fP : Value).ownBlock ∧ some k_ ≠ (.slice gN dD.length gM : Value).ownBlock ∧ some k_ ≠ (.slice kG eB.length kH : Value).ownBlock) (.slice lG gm.length lH) gm) := ⟨by (with_reducible repeat (first | apply Kd.bu | apply Kd.bv | apply Kd.bg)); exact Kd.bG (Kd.bH (p := ⟨bX, 1, none⟩) (Kd.bH (p := ⟨bX, 0, none⟩) (Kd.bH (p := ⟨bW, 1, none⟩) (Kd.bH (p := ⟨bW, 0, none⟩) (Kd.bU (Kd.bU dF.out bI.out (by decide)) bQ.out (by decide)) (fun _ hk => hk.1.2) (.bool t183)) (fun _ hk => hk.1.2) (.slice lG gm.length lH)) (fun _ hk => hk.2) (.bool fV)) (fun _ hk => hk.2) (.slice kG eB.length kH)) (fun _ hk => ⟨hk.1.1.1.1.2, ⟨hk.1.1.1.2, ⟨hk.1.1.2, hk.1.1.1.1.1⟩⟩⟩)⟩
            have n4_ : ae (Kd.R (Kd.int .u64) 64 ((((w189.setCell ⟨bW, 0, none⟩ (.bool t183)).setCell ⟨bW, 1, none⟩ (.slice lG gm.length lH)).setCell ⟨bX, 0, none⟩ (.bool fV)).setCell ⟨bX, 1, none⟩ (.slice kG eB.length kH)) w.heap.size (fun k_ => some k_ ≠ (.slice fH bA.length fE : Value).ownBlock ∧ some k_ ≠ (.slice fO bi.length fP : Value).ownBlock ∧ some k_ ≠ (.slice gN dD.length gM : Value).ownBlock ∧ some k_ ≠ (.slice lG gm.length lH : Value).ownBlock) (.slice kG eB.length kH) eB) := ⟨by (with_reducible repeat (first | apply Kd.bu | apply Kd.bv | apply Kd.bg)); exact Kd.bG (Kd.bH (p := ⟨bX, 1, none⟩) (Kd.bH (p := ⟨bX, 0, none⟩) (Kd.bH (p := ⟨bW, 1, none⟩) (Kd.bH (p := ⟨bW, 0, none⟩) (Kd.bU (Kd.bU di.out bI.out (by decide)) bQ.out (by decide)) (fun _ hk => hk.1.2) (.bool t183)) (fun _ hk => hk.1.2) (.slice lG gm.length lH)) (fun _ hk => hk.2) (.bool fV)) (fun _ hk => hk.2) (.slice kG eB.length kH)) (fun _ hk => ⟨hk.1.1.1.1.2, ⟨hk.1.1.1.2, ⟨hk.1.1.2, hk.1.1.1.1.1⟩⟩⟩)⟩
            have n5_ : ae (((((w189.setCell ⟨bW, 0, none⟩ (.bool t183)).setCell ⟨bW, 1, none⟩ (.slice lG gm.length lH)).setCell ⟨bX, 0, none⟩ (.bool fV)).setCell ⟨bX, 1, none⟩ (.slice kG eB.length kH)).heap[bM]? = some (.cells #[.bool t105, .slice fH bA.length fE] 25 (0, 0))) := ⟨by refine bN ?_ jc.out _; refine bN ?_ jc.out _; refine bN ?_ iZ.out _; refine bN ?_ iZ.out _; (with_reducible repeat (first | refine bP ?_ _ | refine bf ?_ | refine bO ?_ _)); exact ai.out⟩
            have n6_ : ae (((((w189.setCell ⟨bW, 0, none⟩ (.bool t183)).setCell ⟨bW, 1, none⟩ (.slice lG gm.length lH)).setCell ⟨bX, 0, none⟩ (.bool fV)).setCell ⟨bX, 1, none⟩ (.slice kG eB.length kH)).heap[cu]? = some (.cells #[.bool t109, .slice fO bi.length fP] 25 (0, 0))) := ⟨by refine bN ?_ jd.out _; refine bN ?_ jd.out _; refine bN ?_ ja.out _; refine bN ?_ ja.out _; (with_reducible repeat (first | refine bP ?_ _ | refine bf ?_ | refine bO ?_ _)); exact au.out⟩
            have n7_ : ae (((((w189.setCell ⟨bW, 0, none⟩ (.bool t183)).setCell ⟨bW, 1, none⟩ (.slice lG gm.length lH)).setCell ⟨bX, 0, none⟩ (.bool fV)).setCell ⟨bX, 1, none⟩ (.slice kG eB.length kH)).heap[cB]? = some (.cells #[.bool eT, .slice gN dD.length gM] 25 (0, 0))) := ⟨by refine bN ?_ je.out _; refine bN ?_ je.out _; refine bN ?_ jb.out _; refine bN ?_ jb.out _; (with_reducible repeat (first | refine bP ?_ _ | refine bf ?_ | refine bO ?_ _)); exact aJ.out⟩
            have n8_ : ae (((((w189.setCell ⟨bW, 0, none⟩ (.bool t183)).setCell ⟨bW, 1, none⟩ (.slice lG gm.length lH)).setCell ⟨bX, 0, none⟩ (.bool fV)).setCell ⟨bX, 1, none⟩ (.slice kG eB.length kH)).heap[bW]? = some (.cells #[.bool t183, .slice lG gm.length lH] 25 (0, 0))) := ⟨by refine bN ?_ jf.out _; refine bN ?_ jf.out _; refine dG (cs := #[.bool t183, .slice none 0 0]) ?_ 1 _ rfl; refine dG (cs := #[.bool false, .slice none 0 0]) ?_ 0 _ rfl; (with_reducible repeat (first | refine bP ?_ _ | refine bf ?_ | refine bO ?_ _)); exact bI.out⟩
            have n9_ : ae (((((w189.setCell ⟨bW, 0, none⟩ (.bool t183)).setCell ⟨bW, 1, none⟩ (.slice lG gm.length lH)).setCell ⟨bX, 0, none⟩ (.bool fV)).setCell ⟨bX, 1, none⟩ (.slice kG eB.length kH)).heap[bX]? = some (.cells #[.bool fV, .slice kG eB.length kH] 25 (0, 0))) := ⟨by refine dG (cs := #[.bool fV, .slice none 0 0]) ?_ 1 _ rfl; refine dG (cs := #[.bool false, .slice none 0 0]) ?_ 0 _ rfl; refine bN ?_ jg.out _; refine bN ?_ jg.out _; (with_reducible repeat (first | refine bP ?_ _ | refine bf ?_ | refine bO ?_ _)); exact bQ.out⟩
            have rV : ae (Below w.heap.size w ((((w189.setCell ⟨bW, 0, none⟩ (.bool t183)).setCell ⟨bW, 1, none⟩ (.slice lG gm.length lH)).setCell ⟨bX, 0, none⟩ (.bool fV)).setCell ⟨bX, 1, none⟩ (.slice kG eB.length kH))) := ⟨by repeat (first | (with_reducible first | exact HB.out | apply aM | apply aD | apply aH | refine aQ ?_ gB.out | refine aQ ?_ ib.out | refine aQ ?_ jB.out | refine aQ ?_ ql.out | refine aQ ?_ qm.out) | exact HB.out)⟩
            (try clear ay)
            (try clear ax)
            (try clear aG)
            (try clear dF)
            (try clear di)
            (try clear ai)
            (try clear au)
            (try clear aJ)
            (try clear bI)
            (try clear bQ)
            (try clear HB)
            generalize ((((w189.setCell ⟨bW, 0, none⟩ (.bool t183)).setCell ⟨bW, 1, none⟩ (.slice lG gm.length lH)).setCell ⟨bX, 0, none⟩ (.bool fV)).setCell ⟨bX, 1, none⟩ (.slice kG eB.length kH)) = w201 at n0_ n1_ n2_ n3_ n4_ n5_ n6_ n7_ n8_ n9_ rV ⊢
            have ay := n0_
            have ax := n1_
            have aG := n2_
            have dF := n3_
            have di := n4_
            have ai := n5_
            have au := n6_
            have aJ := n7_
            have bI := n8_
            have bQ := n9_
            have HB := rV
            clear n0_ n1_ n2_ n3_ n4_ n5_ n6_ n7_ n8_ n9_ rV
            replace ay := ae.mk (Kd.bg ay.out)
            replace ax := ae.mk (Kd.bg ax.out)
            replace aG := ae.mk (Kd.bg aG.out)
            replace dF := ae.mk (Kd.bg dF.out)
            replace di := ae.mk (Kd.bg di.out)
            replace ai := ae.mk (bf ai.out)
            replace au := ae.mk (bf au.out)
            replace aJ := ae.mk (bf aJ.out)
            replace bI := ae.mk (bf bI.out)
            replace bQ := ae.mk (bf bQ.out)
            replace HB := ae.mk (aH HB.out)
            refine j6 (n := 30) (S := fun w' => w'.cell? ⟨bW, 0, none⟩ = some (.bool t183) ∧ w'.cell? ⟨bW, 1, none⟩ = some (.slice lG gm.length lH) ∧ w'.cell? ⟨cu, 0, none⟩ = some (.bool t109) ∧ w'.cell? ⟨cu, 1, none⟩ = some (.slice fO bi.length fP) ∧ w'.cell? ⟨bX, 0, none⟩ = some (.bool fV) ∧ w'.cell? ⟨bX, 1, none⟩ = some (.slice kG eB.length kH) ∧ w'.cell? ⟨bM, 0, none⟩ = some (.bool t105) ∧ w'.cell? ⟨bM, 1, none⟩ = some (.slice fH bA.length fE)) (ds := []) #[bF,bF,bF,bF,bF,bF,bF,bF,bF,bF,bF,bF,bF,bF,bF,bF,bF,bF,bF,bF,bF,bF,bF,bF,bF,bF,bF,bF,bF,bF] (by kernel_rfl) rfl rfl ⟨(af bI.out 0).trans rfl, (af bI.out 1).trans rfl, (af au.out 0).trans rfl, (af au.out 1).trans rfl, (af bQ.out 0).trans rfl, (af bQ.out 1).trans rfl, (af ai.out 0).trans rfl, (af ai.out 1).trans rfl⟩ (fun hHeld => ?_); refine iQ ag.zw ag.wT (fun HT_ HW_ => ?_)
            generalize w201.drew = w202 at ay ax aG dF di ai au aJ bI bQ HB hHeld ⊢
            refine eU 0 (some 91) HT_ HW_ hHeld ?_
            refine eU 1 (some 92) HT_ HW_ hHeld ?_
            refine eU 3 (some 94) HT_ HW_ hHeld ?_
            refine eU 5 (some 96) HT_ HW_ hHeld ?_
            refine gU 2 (some 93) HT_ (fun K hK => ?_)
            refine fo Tryd.func10 #[.agg #[.bool t183, .slice lG gm.length lH], .agg #[.bool t109, .slice fO bi.length fP]] ?_
            with_reducible refine (bC.calls gX t183 _ _ gm t109 _ _ bi t194 tC _ ?aU ?aV ?bJ ?bK A135.out).mono ?_
            (case aU => exact qs ((Kd.ak dF.out).2.2))
            (case aV => exact (Kd.ak dF.out).2.1)
            (case bJ => exact qs ((Kd.ak ax.out).2.2))
            (case bK => exact (Kd.ak ax.out).2.1)
            rintro e w203 ⟨v196, rfl, ho0, hb⟩
            refine ⟨_, rfl, ?_⟩
            have gJ := ae.mk (Kd.bz (Kd.aA (Kd.aA (Kd.aA (Kd.aA (Kd.aA ho0 (Kd.aY (qr ay))) (Kd.aY (qr ax))) (Kd.aY (qr aG))) (Kd.aY (qr dF))) (Kd.aY (qr di))) (aN (qw HB)))
            replace ay := ae.mk (Kd.aj (qr ay) (Kd.az ho0) hb)
            replace ax := ae.mk (Kd.aj (qr ax) (Kd.az ho0) hb)
            replace aG := ae.mk (Kd.aj (qr aG) (Kd.az ho0) hb)
            replace dF := ae.mk (Kd.aj (qr dF) (Kd.az ho0) hb)
            replace di := ae.mk (Kd.aj (qr di) (Kd.az ho0) hb)
            replace ai := qbb ai hb
            replace au := qbb au hb
            replace aJ := qbb aJ hb
            replace bI := qbb bI hb
            replace bQ := qbb bQ hb
            replace HB := ae.mk (av (qw HB) hb)
            (try clear hb)
            (try clear hb2)
            (try clear hk)
            (try clear hi)
            (try clear ho0)
            obtain ⟨Ip, Iq, DY⟩ := Kd.bD gJ.out
            (first | subst DY | (injection DY with f1_ f2_ f3_; have f4_ := f1_.symm; have f5_ := f3_.symm; clear f1_ f2_ f3_; subst f4_; subst f5_))
            refine hK.out _ _ ⟨(af bI.out 0).trans rfl, (af bI.out 1).trans rfl, (af au.out 0).trans rfl, (af au.out 1).trans rfl, (af bQ.out 0).trans rfl, (af bQ.out 1).trans rfl, (af ai.out 0).trans rfl, (af ai.out 1).trans rfl⟩ (fun hHeld => ?_)
            clear hK K
            refine eY (some 93) ?_
            refine gU 4 (some 95) HT_ (fun K hK => ?_)
            refine fo Tryd.func9 #[.agg #[.bool t194, .slice Ip tC.length Iq], .agg #[.bool fV, .slice kG eB.length kH]] ?_
            with_reducible refine (bE.calls gX t194 _ _ tC fV _ _ eB t198 tF _ ?aU ?aV ?bJ ?bK A136.out).mono ?_
            (case aU => exact qs ((Kd.ak gJ.out).2.2))
            (case aV => exact (Kd.ak gJ.out).2.1)
            (case bJ => exact qs ((Kd.ak di.out).2.2))
            (case bK => exact (Kd.ak di.out).2.1)
            rintro e w205 ⟨v200, rfl, ho0, hb⟩
            refine ⟨_, rfl, ?_⟩
            have ic := ae.mk (Kd.bz (Kd.aA (Kd.aA (Kd.aA (Kd.aA (Kd.aA (Kd.aA ho0 (Kd.aY (qr ay))) (Kd.aY (qr ax))) (Kd.aY (qr aG))) (Kd.aY (qr dF))) (Kd.aY (qr di))) (Kd.aY (qr gJ))) (aN (qw HB)))
            replace ay := ae.mk (Kd.aj (qr ay) (Kd.az ho0) hb)
            replace ax := ae.mk (Kd.aj (qr ax) (Kd.az ho0) hb)
            replace aG := ae.mk (Kd.aj (qr aG) (Kd.az ho0) hb)
            replace dF := ae.mk (Kd.aj (qr dF) (Kd.az ho0) hb)
            replace di := ae.mk (Kd.aj (qr di) (Kd.az ho0) hb)
            replace gJ := ae.mk (Kd.aj (qr gJ) (Kd.az ho0) hb)
            replace ai := qbb ai hb
            replace au := qbb au hb
            replace aJ := qbb aJ hb
            replace bI := qbb bI hb
            replace bQ := qbb bQ hb
            replace HB := ae.mk (av (qw HB) hb)
            (try clear hb)
            (try clear hb2)
            (try clear hk)
            (try clear hi)
            (try clear ho0)
            obtain ⟨Ir, Iu, DZ⟩ := Kd.bD ic.out
            (first | subst DZ | (injection DZ with f1_ f2_ f3_; have f4_ := f1_.symm; have f5_ := f3_.symm; clear f1_ f2_ f3_; subst f4_; subst f5_))
            refine hK.out _ _ ⟨(af bI.out 0).trans rfl, (af bI.out 1).trans rfl, (af au.out 0).trans rfl, (af au.out 1).trans rfl, (af bQ.out 0).trans rfl, (af bQ.out 1).trans rfl, (af ai.out 0).trans rfl, (af ai.out 1).trans rfl⟩ (fun hHeld => ?_)
            clear hK K
            refine eY (some 95) ?_
            refine gU 6 (some 97) HT_ (fun K hK => ?_)
            refine fo Tryd.func8 #[.agg #[.bool t198, .slice Ir tF.length Iu], .agg #[.bool t105, .slice fH bA.length fE]] ?_
            with_reducible refine (aR.calls gX t198 _ _ tF t105 _ _ bA true _ ?aU ?aV ?bJ ?bK A137.out).mono ?_
            (case aU => exact qs ((Kd.ak ic.out).2.2))
            (case aV => exact (Kd.ak ic.out).2.1)
            (case bJ => exact qs ((Kd.ak ay.out).2.2))
            (case bK => exact (Kd.ak ay.out).2.1)
            rintro e w207 ⟨rfl, hb⟩
            refine ⟨_, rfl, ?_⟩
            replace ay := ae.mk (Kd.aI (qr ay) hb)
            replace ax := ae.mk (Kd.aI (qr ax) hb)
            replace aG := ae.mk (Kd.aI (qr aG) hb)
            replace dF := ae.mk (Kd.aI (qr dF) hb)
            replace di := ae.mk (Kd.aI (qr di) hb)
            replace gJ := ae.mk (Kd.aI (qr gJ) hb)
            replace ic := ae.mk (Kd.aI (qr ic) hb)
            replace ai := qbb ai hb
            replace au := qbb au hb
            replace aJ := qbb aJ hb
            replace bI := qbb bI hb
            replace bQ := qbb bQ hb
            replace HB := ae.mk (av (qw HB) hb)
            (try clear hb)
            (try clear hb2)
            (try clear hk)
            (try clear hi)
            refine hK.out _ _ ⟨(af bI.out 0).trans rfl, (af bI.out 1).trans rfl, (af au.out 0).trans rfl, (af au.out 1).trans rfl, (af bQ.out 0).trans rfl, (af bQ.out 1).trans rfl, (af ai.out 0).trans rfl, (af ai.out 1).trans rfl⟩ (fun hHeld => ?_)
            clear hK K
            refine eY (some 97) ?_
            refine cZ 7 (some 98) HT_ ?_
            refine eU 8 (some 99) HT_ HW_ hHeld ?_
            refine gU 9 (some 100) HT_ (fun K hK => ?_)
            refine fo Tryd.func14 #[.agg #[.bool fV, .slice kG eB.length kH]] ?_
            with_reducible refine (dE.calls fV _ _ eB t203 _ ?aU ?aV A139.out).mono ?_
            (case aU => exact qs ((Kd.ak di.out).2.2))
            (case aV => exact (Kd.ak di.out).2.1)
            rintro e w208 ⟨rfl, hb⟩
            refine ⟨_, rfl, ?_⟩
            replace ay := ae.mk (Kd.aI (qr ay) hb)
            replace ax := ae.mk (Kd.aI (qr ax) hb)
            replace aG := ae.mk (Kd.aI (qr aG) hb)
            replace dF := ae.mk (Kd.aI (qr dF) hb)
            replace di := ae.mk (Kd.aI (qr di) hb)
            replace gJ := ae.mk (Kd.aI (qr gJ) hb)
            replace ic := ae.mk (Kd.aI (qr ic) hb)
            replace ai := qbb ai hb
            replace au := qbb au hb
            replace aJ := qbb aJ hb
            replace bI := qbb bI hb
            replace bQ := qbb bQ hb
            replace HB := ae.mk (av (qw HB) hb)
            (try clear hb)
            (try clear hb2)
            (try clear hk)
            (try clear hi)
            refine hK.out _ _ ⟨(af bI.out 0).trans rfl, (af bI.out 1).trans rfl, (af au.out 0).trans rfl, (af au.out 1).trans rfl, (af bQ.out 0).trans rfl, (af bQ.out 1).trans rfl, (af ai.out 0).trans rfl, (af ai.out 1).trans rfl⟩ (fun hHeld => ?_)
            clear hK K
            refine eY (some 100) ?_
            refine cZ 10 (some 101) HT_ ?_
            refine cZ 11 (some 102) HT_ ?_
            refine eU 12 (some 103) HT_ HW_ hHeld ?_
            refine eU 14 (some 105) HT_ HW_ hHeld ?_
            refine gU 13 (some 104) HT_ (fun K hK => ?_)
            refine fo Tryd.func14 #[.agg #[.bool fV, .slice kG eB.length kH]] ?_
            with_reducible refine (dE.calls fV _ _ eB t213 _ ?aU ?aV A176.out).mono ?_
            (case aU => exact qs ((Kd.ak di.out).2.2))
            (case aV => exact (Kd.ak di.out).2.1)
            rintro e w209 ⟨rfl, hb⟩
            refine ⟨_, rfl, ?_⟩
            replace ay := ae.mk (Kd.aI (qr ay) hb)
            replace ax := ae.mk (Kd.aI (qr ax) hb)
            replace aG := ae.mk (Kd.aI (qr aG) hb)
            replace dF := ae.mk (Kd.aI (qr dF) hb)
            replace di := ae.mk (Kd.aI (qr di) hb)
            replace gJ := ae.mk (Kd.aI (qr gJ) hb)
            replace ic := ae.mk (Kd.aI (qr ic) hb)
            replace ai := qbb ai hb
            replace au := qbb au hb
            replace aJ := qbb aJ hb
            replace bI := qbb bI hb
            replace bQ := qbb bQ hb
            replace HB := ae.mk (av (qw HB) hb)
            (try clear hb)
            (try clear hb2)
            (try clear hk)
            (try clear hi)
            refine hK.out _ _ ⟨(af bI.out 0).trans rfl, (af bI.out 1).trans rfl, (af au.out 0).trans rfl, (af au.out 1).trans rfl, (af bQ.out 0).trans rfl, (af bQ.out 1).trans rfl, (af ai.out 0).trans rfl, (af ai.out 1).trans rfl⟩ (fun hHeld => ?_)
            clear hK K
            refine eY (some 104) ?_
            refine gU 15 (some 106) HT_ (fun K hK => ?_)
            refine fo Tryd.func14 #[.agg #[.bool t109, .slice fO bi.length fP]] ?_
            with_reducible refine (dE.calls t109 _ _ bi om _ ?aU ?aV A177.out).mono ?_
            (case aU => exact qs ((Kd.ak ax.out).2.2))
            (case aV => exact (Kd.ak ax.out).2.1)
            rintro e w210 ⟨rfl, hb⟩
            refine ⟨_, rfl, ?_⟩
            replace ay := ae.mk (Kd.aI (qr ay) hb)
            replace ax := ae.mk (Kd.aI (qr ax) hb)
            replace aG := ae.mk (Kd.aI (qr aG) hb)
            replace dF := ae.mk (Kd.aI (qr dF) hb)
            replace di := ae.mk (Kd.aI (qr di) hb)
            replace gJ := ae.mk (Kd.aI (qr gJ) hb)
            replace ic := ae.mk (Kd.aI (qr ic) hb)
            replace ai := qbb ai hb
            replace au := qbb au hb
            replace aJ := qbb aJ hb
            replace bI := qbb bI hb
            replace bQ := qbb bQ hb
            replace HB := ae.mk (av (qw HB) hb)
            (try clear hb)
            (try clear hb2)
            (try clear hk)
            (try clear hi)
            refine hK.out _ _ ⟨(af bI.out 0).trans rfl, (af bI.out 1).trans rfl, (af au.out 0).trans rfl, (af au.out 1).trans rfl, (af bQ.out 0).trans rfl, (af bQ.out 1).trans rfl, (af ai.out 0).trans rfl, (af ai.out 1).trans rfl⟩ (fun hHeld => ?_)
            clear hK K
            refine eY (some 106) ?_
            refine cZ 16 (some 107) HT_ ?_
            refine cZ 17 (some 108) HT_ ?_
            refine cZ 18 (some 109) HT_ ?_
            refine cZ 19 (some 110) HT_ ?_
            refine cZ 20 (some 111) HT_ ?_
            refine cZ 23 (some 114) HT_ ?_
            refine eU 21 (some 112) HT_ HW_ hHeld ?_
            refine eU 24 (some 115) HT_ HW_ hHeld ?_
            refine gU 22 (some 113) HT_ (fun K hK => ?_)
            refine fo Tryd.func15 #[.bool false, .slice kG eB.length kH] ?_
            with_reducible refine (aX.calls gX false _ _ eB BO BP _ ?aU ?aV A179.out).mono ?_
            (case aU => exact qs ((Kd.ak di.out).2.2))
            (case aV => exact (Kd.ak di.out).2.1)
            rintro e w211 ⟨v217, rfl, ho0, hb⟩
            refine ⟨_, rfl, ?_⟩
            have ui := ae.mk (Kd.bz (Kd.aA (Kd.aA (Kd.aA (Kd.aA (Kd.aA (Kd.aA (Kd.aA ho0 (Kd.aY (qr ay))) (Kd.aY (qr ax))) (Kd.aY (qr aG))) (Kd.aY (qr dF))) (Kd.aY (qr di))) (Kd.aY (qr gJ))) (Kd.aY (qr ic))) (aN (qw HB)))
            replace ay := ae.mk (Kd.aj (qr ay) (Kd.az ho0) hb)
            replace ax := ae.mk (Kd.aj (qr ax) (Kd.az ho0) hb)
            replace aG := ae.mk (Kd.aj (qr aG) (Kd.az ho0) hb)
            replace dF := ae.mk (Kd.aj (qr dF) (Kd.az ho0) hb)
            replace di := ae.mk (Kd.aj (qr di) (Kd.az ho0) hb)
            replace gJ := ae.mk (Kd.aj (qr gJ) (Kd.az ho0) hb)
            replace ic := ae.mk (Kd.aj (qr ic) (Kd.az ho0) hb)
            replace ai := qbb ai hb
            replace au := qbb au hb
            replace aJ := qbb aJ hb
            replace bI := qbb bI hb
            replace bQ := qbb bQ hb
            replace HB := ae.mk (av (qw HB) hb)
            (try clear hb)
            (try clear hb2)
            (try clear hk)
            (try clear hi)
            (try clear ho0)
            refine hK.out _ _ ⟨(af bI.out 0).trans rfl, (af bI.out 1).trans rfl, (af au.out 0).trans rfl, (af au.out 1).trans rfl, (af bQ.out 0).trans rfl, (af bQ.out 1).trans rfl, (af ai.out 0).trans rfl, (af ai.out 1).trans rfl⟩ (fun hHeld => ?_)
            clear hK K
            refine eY (some 113) ?_
            refine gU 25 (some 116) HT_ (fun K hK => ?_)
            refine fo Tryd.func15 #[.bool false, .slice fO bi.length fP] ?_
            with_reducible refine (aX.calls gX false _ _ bi Db Dc _ ?aU ?aV A180.out).mono ?_
            (case aU => exact qs ((Kd.ak ax.out).2.2))
            (case aV => exact (Kd.ak ax.out).2.1)
            rintro e w212 ⟨v221, rfl, ho0, hb⟩
            refine ⟨_, rfl, ?_⟩
            have xO := ae.mk (Kd.bz (Kd.aA (Kd.aA (Kd.aA (Kd.aA (Kd.aA (Kd.aA (Kd.aA (Kd.aA ho0 (Kd.aY (qr ay))) (Kd.aY (qr ax))) (Kd.aY (qr aG))) (Kd.aY (qr dF))) (Kd.aY (qr di))) (Kd.aY (qr gJ))) (Kd.aY (qr ic))) (Kd.aY (qr ui))) (aN (qw HB)))
            replace ay := ae.mk (Kd.aj (qr ay) (Kd.az ho0) hb)
            replace ax := ae.mk (Kd.aj (qr ax) (Kd.az ho0) hb)
            replace aG := ae.mk (Kd.aj (qr aG) (Kd.az ho0) hb)
            replace dF := ae.mk (Kd.aj (qr dF) (Kd.az ho0) hb)
            replace di := ae.mk (Kd.aj (qr di) (Kd.az ho0) hb)
            replace gJ := ae.mk (Kd.aj (qr gJ) (Kd.az ho0) hb)
            replace ic := ae.mk (Kd.aj (qr ic) (Kd.az ho0) hb)
            replace ui := ae.mk (Kd.aj (qr ui) (Kd.az ho0) hb)
            replace ai := qbb ai hb
            replace au := qbb au hb
            replace aJ := qbb aJ hb
            replace bI := qbb bI hb
            replace bQ := qbb bQ hb
            replace HB := ae.mk (av (qw HB) hb)
            (try clear hb)
            (try clear hb2)
            (try clear hk)
            (try clear hi)
            (try clear ho0)
            obtain ⟨Iw, Iy, D5⟩ := Kd.bD ui.out
            (first | subst D5 | (injection D5 with f1_ f2_ f3_; have f4_ := f1_.symm; have f5_ := f3_.symm; clear f1_ f2_ f3_; subst f4_; subst f5_))
            obtain ⟨Iz, IA, D6⟩ := Kd.bD xO.out
            (first | subst D6 | (injection D6 with f1_ f2_ f3_; have f4_ := f1_.symm; have f5_ := f3_.symm; clear f1_ f2_ f3_; subst f4_; subst f5_))
            refine hK.out _ _ ⟨(af bI.out 0).trans rfl, (af bI.out 1).trans rfl, (af au.out 0).trans rfl, (af au.out 1).trans rfl, (af bQ.out 0).trans rfl, (af bQ.out 1).trans rfl, (af ai.out 0).trans rfl, (af ai.out 1).trans rfl⟩ (fun hHeld => ?_)
            clear hK K
            refine eY (some 116) ?_
            refine gU 26 (some 117) HT_ (fun K hK => ?_)
            refine fo Tryd.func12 #[.agg #[.bool BO, .slice Iw BP.length Iy], .agg #[.bool Db, .slice Iz Dc.length IA]] ?_
            with_reducible refine (dn.calls gX BO _ _ BP Db _ _ Dc oo _ ?aU ?aV ?bJ ?bK A181.out).mono ?_
            (case aU => exact qs ((Kd.ak ui.out).2.2))
            (case aV => exact (Kd.ak ui.out).2.1)
            (case bJ => exact qs ((Kd.ak xO.out).2.2))
            (case bK => exact (Kd.ak xO.out).2.1)
            rintro e w215 ⟨rfl, hb⟩
            refine ⟨_, rfl, ?_⟩
            replace ay := ae.mk (Kd.aI (qr ay) hb)
            replace ax := ae.mk (Kd.aI (qr ax) hb)
            replace aG := ae.mk (Kd.aI (qr aG) hb)
            replace dF := ae.mk (Kd.aI (qr dF) hb)
            replace di := ae.mk (Kd.aI (qr di) hb)
            replace gJ := ae.mk (Kd.aI (qr gJ) hb)
            replace ic := ae.mk (Kd.aI (qr ic) hb)
            replace ui := ae.mk (Kd.aI (qr ui) hb)
            replace xO := ae.mk (Kd.aI (qr xO) hb)
            replace ai := qbb ai hb
            replace au := qbb au hb
            replace aJ := qbb aJ hb
            replace bI := qbb bI hb
            replace bQ := qbb bQ hb
            replace HB := ae.mk (av (qw HB) hb)
            (try clear hb)
            (try clear hb2)
            (try clear hk)
            (try clear hi)
            refine hK.out _ _ ⟨(af bI.out 0).trans rfl, (af bI.out 1).trans rfl, (af au.out 0).trans rfl, (af au.out 1).trans rfl, (af bQ.out 0).trans rfl, (af bQ.out 1).trans rfl, (af ai.out 0).trans rfl, (af ai.out 1).trans rfl⟩ (fun hHeld => ?_)
            clear hK K
            refine eY (some 117) ?_
            refine cZ 27 (some 118) HT_ ?_
            refine cZ 28 (some 119) HT_ ?_
            refine cZ 29 (some 6) HT_ ?_
            refine nM HT_ ?_
            try go_wp2
            go_ret
            exact ⟨by first | rfl | (simp [errW_none, errW_some] <;> rfl) | (simp [*, errW_none, errW_some] <;> rfl), by repeat (first | (with_reducible first | exact HB.out | apply aM | apply aD | apply aH | refine aQ ?_ gB.out | refine aQ ?_ ib.out | refine aQ ?_ jB.out | refine aQ ?_ ql.out | refine aQ ?_ qm.out) | exact HB.out)⟩
           ·rw [if_neg c178] at H
            have Fq : (t213 == om) = false := beq_eq_false_iff_ne.mpr c178
            have Fs : (t213 != om) = true := bne_iff_ne.mpr c178
            obtain rfl := Option.some.inj H
            have hnb216 := eD.out
            have hnc216 := eF.out
            have hnb217 := dm.out
            have hnc217 := eZ.out
            have hcz218_0 : wc.cell? ⟨bM, 0, none⟩ = some (.bool t105) := (af ai.out 0).trans rfl
            have hcz218_1 : wc.cell? ⟨bM, 1, none⟩ = some (.slice fH bA.length fE) := (af ai.out 1).trans rfl
            have hfz218_0 := aK ai.out 0
            have hfz218_1 := aK ai.out 1
            have hnb219 := dh.out
            have hnc219 := eX.out
            have hcz220_0 : wc.cell? ⟨cu, 0, none⟩ = some (.bool t109) := (af au.out 0).trans rfl
            have hcz220_1 : wc.cell? ⟨cu, 1, none⟩ = some (.slice fO bi.length fP) := (af au.out 1).trans rfl
            have hfz220_0 := aK au.out 0
            have hfz220_1 := aK au.out 1
            try go_wp2_with (first | ((with_reducible refine aW (f := 13) rfl ?_); refine cO (some 81) rfl rfl Tryd.func13 (by kernel_rfl) rfl #[.agg #[.bool t105, .slice fH bA.length fE], .agg #[.bool t109, .slice fO bi.length fP]] rfl qt ?_; (with_reducible refine (dB.calls gX t105 _ _ bA t109 _ _ bi t183 gm fV eB uZ _ ?aU ?aV ?bJ ?bK A133.out).mono ?_); (case aU => exact qs ((Kd.ak ay.out).2.2)); (case aV => exact (Kd.ak ay.out).2.1); (case bJ => exact qs ((Kd.ak ax.out).2.2)); (case bK => exact (Kd.ak ax.out).2.1); rintro e w221 ⟨v185, v189, rfl, ho0, ho1, hb⟩; refine ⟨_, rfl, ?_⟩; have dF := ae.mk (Kd.bz (Kd.aA (Kd.aA (Kd.aA ho0 (Kd.aY (qr ay))) (Kd.aY (qr ax))) (Kd.aY (qr aG))) (aN (qw HB))); have di := ae.mk (Kd.bz (Kd.aA (Kd.aA (Kd.aA ho1 (Kd.aY (qr ay))) (Kd.aY (qr ax))) (Kd.aY (qr aG))) (aN (qw HB))); replace ay := ae.mk (Kd.bG (Kd.gQ (Kd.gQ (Kd.mo (qr ay) hb) (Kd.az ho0)) (Kd.az ho1)) (fun _ h_ => h_.1)); replace ax := ae.mk (Kd.bG (Kd.gQ (Kd.gQ (Kd.mo (qr ax) hb) (Kd.az ho0)) (Kd.az ho1)) (fun _ h_ => h_.1)); replace aG := ae.mk (Kd.bG (Kd.gQ (Kd.gQ (Kd.mo (qr aG) hb) (Kd.az ho0)) (Kd.az ho1)) (fun _ h_ => h_.1)); replace ai := qbb ai hb; replace au := qbb au hb; replace aJ := qbb aJ hb; replace HB := ae.mk (av (qw HB) hb); (try clear hb); (try clear hb2); (try clear hk); (try clear hi); (try clear ho0); (try clear ho1)) | ((with_reducible refine bR (N := 7) rfl ?_); refine bS ?hg (N := 7) ?hd (cs := #[.bool false, .slice none 0 0]) (t := 25) ?hr ?_; (case hd => rfl); (case hg => rfl); (case hr => first | (go_simp; done) | (go_simp; rfl)); intro bW hg w222 hbox hb; replace ay := ae.mk (Kd.aI (qr ay) hb); replace ax := ae.mk (Kd.aI (qr ax) hb); replace aG := ae.mk (Kd.aI (qr aG) hb); replace dF := ae.mk (Kd.aI (qr dF) hb); replace di := ae.mk (Kd.aI (qr di) hb); have bI := ae.mk (hbox); have GW192 := qge HB hg; have ql := qge HB hg; replace HB := ae.mk (av (qw HB) hb); have iZ := qnl ai hg; have mU := qng ai hg; replace ai := qbb ai hb; have ja := qnl au hg; have mV := qng au hg; replace au := qbb au hb; have jb := qnl aJ hg; have mW := qng aJ hg; replace aJ := qbb aJ hb; clear hb hbox hg) | ((with_reducible refine bR (N := 8) rfl ?_); refine bS ?hg (N := 8) ?hd (cs := #[.bool false, .slice none 0 0]) (t := 25) ?hr ?_; (case hd => rfl); (case hg => rfl); (case hr => first | (go_simp; done) | (go_simp; rfl)); intro bX hg w223 hbox hb; replace ay := ae.mk (Kd.aI (qr ay) hb); replace ax := ae.mk (Kd.aI (qr ax) hb); replace aG := ae.mk (Kd.aI (qr aG) hb); replace dF := ae.mk (Kd.aI (qr dF) hb); replace di := ae.mk (Kd.aI (qr di) hb); have bQ := ae.mk (hbox); have GW193 := qge HB hg; have qm := qge HB hg; replace HB := ae.mk (av (qw HB) hb); have jc := qnl ai hg; have mX := qng ai hg; replace ai := qbb ai hb; have jd := qnl au hg; have mY := qng au hg; replace au := qbb au hb; have je := qnl aJ hg; have mZ := qng aJ hg; replace aJ := qbb aJ hb; have jf := qnl bI hg; have jg := qng bI hg; replace bI := qbb bI hb; clear hb hbox hg; have hnb224 := mU.out; have hnc224 := iZ.out; have hnb225 := mV.out; have hnc225 := ja.out; have hnb226 := mW.out; have hnc226 := jb.out; have hnb227 := jf.out; have hnc227 := jg.out; have hcz228_0 : w223.cell? ⟨bW, 0, none⟩ = some (.bool false) := (af bI.out 0).trans rfl; have hcz228_1 : w223.cell? ⟨bW, 1, none⟩ = some (.slice none 0 0) := (af bI.out 1).trans rfl; have hfz228_0 := aK bI.out 0; have hfz228_1 := aK bI.out 1; obtain ⟨lI, lJ, IB⟩ := Kd.bD dF.out; subst IB; have hnb230 := mX.out; have hnc230 := jc.out; have hnb231 := mY.out; have hnc231 := jd.out; have hnb232 := mZ.out; have hnc232 := je.out; have hcz233_0 : w223.cell? ⟨bX, 0, none⟩ = some (.bool false) := (af bQ.out 0).trans rfl; have hcz233_1 : w223.cell? ⟨bX, 1, none⟩ = some (.slice none 0 0) := (af bQ.out 1).trans rfl; have hfz233_0 := aK bQ.out 0; have hfz233_1 := aK bQ.out 1; obtain ⟨kR, kS, IC⟩ := Kd.bD di.out; subst IC))
            have n0_ : ae (Kd.R (Kd.int .u64) 64 ((((w223.setCell ⟨bW, 0, none⟩ (.bool t183)).setCell ⟨bW, 1, none⟩ (.slice lI gm.length lJ)).setCell ⟨bX, 0, none⟩ (.bool fV)).setCell ⟨bX, 1, none⟩ (.slice kR eB.length kS)) w.heap.size (fun k_ => some k_ ≠ (.slice fO bi.length fP : Value).ownBlock ∧ some k_ ≠ (.slice gN dD.length gM : Value).ownBlock ∧ some k_ ≠ (.slice lI gm.length lJ : Value).ownBlock ∧ some k_ ≠ (.slice kR eB.length kS : Value).ownBlock) (.slice fH bA.length fE) bA) := ⟨by (with_reducible repeat (first | apply Kd.bu | apply Kd.bv | apply Kd.bg)); exact Kd.bG (Kd.bH (p := ⟨bX, 1, none⟩) (Kd.bH (p := ⟨bX, 0, none⟩) (Kd.bH (p := ⟨bW, 1, none⟩) (Kd.bH (p := ⟨bW, 0, none⟩) (Kd.bU (Kd.bU ay.out bI.out (by decide)) bQ.out (by decide)) (fun _ hk => hk.1.2) (.bool t183)) (fun _ hk => hk.1.2) (.slice lI gm.length lJ)) (fun _ hk => hk.2) (.bool fV)) (fun _ hk => hk.2) (.slice kR eB.length kS)) (fun _ hk => ⟨hk.1.1.1.1.1, ⟨hk.1.1.1.1.2, ⟨hk.1.1.1.2, hk.1.1.2⟩⟩⟩)⟩
            have n1_ : ae (Kd.R (Kd.int .u64) 64 ((((w223.setCell ⟨bW, 0, none⟩ (.bool t183)).setCell ⟨bW, 1, none⟩ (.slice lI gm.length lJ)).setCell ⟨bX, 0, none⟩ (.bool fV)).setCell ⟨bX, 1, none⟩ (.slice kR eB.length kS)) w.heap.size (fun k_ => some k_ ≠ (.slice fH bA.length fE : Value).ownBlock ∧ some k_ ≠ (.slice gN dD.length gM : Value).ownBlock ∧ some k_ ≠ (.slice lI gm.length lJ : Value).ownBlock ∧ some k_ ≠ (.slice kR eB.length kS : Value).ownBlock) (.slice fO bi.length fP) bi) := ⟨by (with_reducible repeat (first | apply Kd.bu | apply Kd.bv | apply Kd.bg)); exact Kd.bG (Kd.bH (p := ⟨bX, 1, none⟩) (Kd.bH (p := ⟨bX, 0, none⟩) (Kd.bH (p := ⟨bW, 1, none⟩) (Kd.bH (p := ⟨bW, 0, none⟩) (Kd.bU (Kd.bU ax.out bI.out (by decide)) bQ.out (by decide)) (fun _ hk => hk.1.2) (.bool t183)) (fun _ hk => hk.1.2) (.slice lI gm.length lJ)) (fun _ hk => hk.2) (.bool fV)) (fun _ hk => hk.2) (.slice kR eB.length kS)) (fun _ hk => ⟨hk.1.1.1.1.1, ⟨hk.1.1.1.1.2, ⟨hk.1.1.1.2, hk.1.1.2⟩⟩⟩)⟩
            have n2_ : ae (Kd.R (Kd.int .u64) 64 ((((w223.setCell ⟨bW, 0, none⟩ (.bool t183)).setCell ⟨bW, 1, none⟩ (.slice lI gm.length lJ)).setCell ⟨bX, 0, none⟩ (.bool fV)).setCell ⟨bX, 1, none⟩ (.slice kR eB.length kS)) w.heap.size (fun k_ => some k_ ≠ (.slice fH bA.length fE : Value).ownBlock ∧ some k_ ≠ (.slice fO bi.length fP : Value).ownBlock ∧ some k_ ≠ (.slice lI gm.length lJ : Value).ownBlock ∧ some k_ ≠ (.slice kR eB.length kS : Value).ownBlock) (.slice gN dD.length gM) dD) := ⟨by (with_reducible repeat (first | apply Kd.bu | apply Kd.bv | apply Kd.bg)); exact Kd.bG (Kd.bH (p := ⟨bX, 1, none⟩) (Kd.bH (p := ⟨bX, 0, none⟩) (Kd.bH (p := ⟨bW, 1, none⟩) (Kd.bH (p := ⟨bW, 0, none⟩) (Kd.bU (Kd.bU aG.out bI.out (by decide)) bQ.out (by decide)) (fun _ hk => hk.1.2) (.bool t183)) (fun _ hk => hk.1.2) (.slice lI gm.length lJ)) (fun _ hk => hk.2) (.bool fV)) (fun _ hk => hk.2) (.slice kR eB.length kS)) (fun _ hk => ⟨hk.1.1.1.1.1, ⟨hk.1.1.1.1.2, ⟨hk.1.1.1.2, hk.1.1.2⟩⟩⟩)⟩
            have n3_ : ae (Kd.R (Kd.int .u64) 64 ((((w223.setCell ⟨bW, 0, none⟩ (.bool t183)).setCell ⟨bW, 1, none⟩ (.slice lI gm.length lJ)).setCell ⟨bX, 0, none⟩ (.bool fV)).setCell ⟨bX, 1, none⟩ (.slice kR eB.length kS)) w.heap.size (fun k_ => some k_ ≠ (.slice fH bA.length fE : Value).ownBlock ∧ some k_ ≠ (.slice fO bi.length fP : Value).ownBlock ∧ some k_ ≠ (.slice gN dD.length gM : Value).ownBlock ∧ some k_ ≠ (.slice kR eB.length kS : Value).ownBlock) (.slice lI gm.length lJ) gm) := ⟨by (with_reducible repeat (first | apply Kd.bu | apply Kd.bv | apply Kd.bg)); exact Kd.bG (Kd.bH (p := ⟨bX, 1, none⟩) (Kd.bH (p := ⟨bX, 0, none⟩) (Kd.bH (p := ⟨bW, 1, none⟩) (Kd.bH (p := ⟨bW, 0, none⟩) (Kd.bU (Kd.bU dF.out bI.out (by decide)) bQ.out (by decide)) (fun _ hk => hk.1.2) (.bool t183)) (fun _ hk => hk.1.2) (.slice lI gm.length lJ)) (fun _ hk => hk.2) (.bool fV)) (fun _ hk => hk.2) (.slice kR eB.length kS)) (fun _ hk => ⟨hk.1.1.1.1.2, ⟨hk.1.1.1.2, ⟨hk.1.1.2, hk.1.1.1.1.1⟩⟩⟩)⟩
            have n4_ : ae (Kd.R (Kd.int .u64) 64 ((((w223.setCell ⟨bW, 0, none⟩ (.bool t183)).setCell ⟨bW, 1, none⟩ (.slice lI gm.length lJ)).setCell ⟨bX, 0, none⟩ (.bool fV)).setCell ⟨bX, 1, none⟩ (.slice kR eB.length kS)) w.heap.size (fun k_ => some k_ ≠ (.slice fH bA.length fE : Value).ownBlock ∧ some k_ ≠ (.slice fO bi.length fP : Value).ownBlock ∧ some k_ ≠ (.slice gN dD.length gM : Value).ownBlock ∧ some k_ ≠ (.slice lI gm.length lJ : Value).ownBlock) (.slice kR eB.length kS) eB) := ⟨by (with_reducible repeat (first | apply Kd.bu | apply Kd.bv | apply Kd.bg)); exact Kd.bG (Kd.bH (p := ⟨bX, 1, none⟩) (Kd.bH (p := ⟨bX, 0, none⟩) (Kd.bH (p := ⟨bW, 1, none⟩) (Kd.bH (p := ⟨bW, 0, none⟩) (Kd.bU (Kd.bU di.out bI.out (by decide)) bQ.out (by decide)) (fun _ hk => hk.1.2) (.bool t183)) (fun _ hk => hk.1.2) (.slice lI gm.length lJ)) (fun _ hk => hk.2) (.bool fV)) (fun _ hk => hk.2) (.slice kR eB.length kS)) (fun _ hk => ⟨hk.1.1.1.1.2, ⟨hk.1.1.1.2, ⟨hk.1.1.2, hk.1.1.1.1.1⟩⟩⟩)⟩
            have n5_ : ae (((((w223.setCell ⟨bW, 0, none⟩ (.bool t183)).setCell ⟨bW, 1, none⟩ (.slice lI gm.length lJ)).setCell ⟨bX, 0, none⟩ (.bool fV)).setCell ⟨bX, 1, none⟩ (.slice kR eB.length kS)).heap[bM]? = some (.cells #[.bool t105, .slice fH bA.length fE] 25 (0, 0))) := ⟨by refine bN ?_ jc.out _; refine bN ?_ jc.out _; refine bN ?_ iZ.out _; refine bN ?_ iZ.out _; (with_reducible repeat (first | refine bP ?_ _ | refine bf ?_ | refine bO ?_ _)); exact ai.out⟩
            have n6_ : ae (((((w223.setCell ⟨bW, 0, none⟩ (.bool t183)).setCell ⟨bW, 1, none⟩ (.slice lI gm.length lJ)).setCell ⟨bX, 0, none⟩ (.bool fV)).setCell ⟨bX, 1, none⟩ (.slice kR eB.length kS)).heap[cu]? = some (.cells #[.bool t109, .slice fO bi.length fP] 25 (0, 0))) := ⟨by refine bN ?_ jd.out _; refine bN ?_ jd.out _; refine bN ?_ ja.out _; refine bN ?_ ja.out _; (with_reducible repeat (first | refine bP ?_ _ | refine bf ?_ | refine bO ?_ _)); exact au.out⟩
            have n7_ : ae (((((w223.setCell ⟨bW, 0, none⟩ (.bool t183)).setCell ⟨bW, 1, none⟩ (.slice lI gm.length lJ)).setCell ⟨bX, 0, none⟩ (.bool fV)).setCell ⟨bX, 1, none⟩ (.slice kR eB.length kS)).heap[cB]? = some (.cells #[.bool eT, .slice gN dD.length gM] 25 (0, 0))) := ⟨by refine bN ?_ je.out _; refine bN ?_ je.out _; refine bN ?_ jb.out _; refine bN ?_ jb.out _; (with_reducible repeat (first | refine bP ?_ _ | refine bf ?_ | refine bO ?_ _)); exact aJ.out⟩
            have n8_ : ae (((((w223.setCell ⟨bW, 0, none⟩ (.bool t183)).setCell ⟨bW, 1, none⟩ (.slice lI gm.length lJ)).setCell ⟨bX, 0, none⟩ (.bool fV)).setCell ⟨bX, 1, none⟩ (.slice kR eB.length kS)).heap[bW]? = some (.cells #[.bool t183, .slice lI gm.length lJ] 25 (0, 0))) := ⟨by refine bN ?_ jf.out _; refine bN ?_ jf.out _; refine dG (cs := #[.bool t183, .slice none 0 0]) ?_ 1 _ rfl; refine dG (cs := #[.bool false, .slice none 0 0]) ?_ 0 _ rfl; (with_reducible repeat (first | refine bP ?_ _ | refine bf ?_ | refine bO ?_ _)); exact bI.out⟩
            have n9_ : ae (((((w223.setCell ⟨bW, 0, none⟩ (.bool t183)).setCell ⟨bW, 1, none⟩ (.slice lI gm.length lJ)).setCell ⟨bX, 0, none⟩ (.bool fV)).setCell ⟨bX, 1, none⟩ (.slice kR eB.length kS)).heap[bX]? = some (.cells #[.bool fV, .slice kR eB.length kS] 25 (0, 0))) := ⟨by refine dG (cs := #[.bool fV, .slice none 0 0]) ?_ 1 _ rfl; refine dG (cs := #[.bool false, .slice none 0 0]) ?_ 0 _ rfl; refine bN ?_ jg.out _; refine bN ?_ jg.out _; (with_reducible repeat (first | refine bP ?_ _ | refine bf ?_ | refine bO ?_ _)); exact bQ.out⟩
            have rV : ae (Below w.heap.size w ((((w223.setCell ⟨bW, 0, none⟩ (.bool t183)).setCell ⟨bW, 1, none⟩ (.slice lI gm.length lJ)).setCell ⟨bX, 0, none⟩ (.bool fV)).setCell ⟨bX, 1, none⟩ (.slice kR eB.length kS))) := ⟨by repeat (first | (with_reducible first | exact HB.out | apply aM | apply aD | apply aH | refine aQ ?_ gB.out | refine aQ ?_ ib.out | refine aQ ?_ jB.out | refine aQ ?_ ql.out | refine aQ ?_ qm.out) | exact HB.out)⟩
            (try clear ay)
            (try clear ax)
            (try clear aG)
            (try clear dF)
            (try clear di)
            (try clear ai)
            (try clear au)
            (try clear aJ)
            (try clear bI)
            (try clear bQ)
            (try clear HB)
            generalize ((((w223.setCell ⟨bW, 0, none⟩ (.bool t183)).setCell ⟨bW, 1, none⟩ (.slice lI gm.length lJ)).setCell ⟨bX, 0, none⟩ (.bool fV)).setCell ⟨bX, 1, none⟩ (.slice kR eB.length kS)) = w235 at n0_ n1_ n2_ n3_ n4_ n5_ n6_ n7_ n8_ n9_ rV ⊢
            have ay := n0_
            have ax := n1_
            have aG := n2_
            have dF := n3_
            have di := n4_
            have ai := n5_
            have au := n6_
            have aJ := n7_
            have bI := n8_
            have bQ := n9_
            have HB := rV
            clear n0_ n1_ n2_ n3_ n4_ n5_ n6_ n7_ n8_ n9_ rV
            replace ay := ae.mk (Kd.bg ay.out)
            replace ax := ae.mk (Kd.bg ax.out)
            replace aG := ae.mk (Kd.bg aG.out)
            replace dF := ae.mk (Kd.bg dF.out)
            replace di := ae.mk (Kd.bg di.out)
            replace ai := ae.mk (bf ai.out)
            replace au := ae.mk (bf au.out)
            replace aJ := ae.mk (bf aJ.out)
            replace bI := ae.mk (bf bI.out)
            replace bQ := ae.mk (bf bQ.out)
            replace HB := ae.mk (aH HB.out)
            refine j6 (n := 30) (S := fun w' => w'.cell? ⟨bW, 0, none⟩ = some (.bool t183) ∧ w'.cell? ⟨bW, 1, none⟩ = some (.slice lI gm.length lJ) ∧ w'.cell? ⟨cu, 0, none⟩ = some (.bool t109) ∧ w'.cell? ⟨cu, 1, none⟩ = some (.slice fO bi.length fP) ∧ w'.cell? ⟨bX, 0, none⟩ = some (.bool fV) ∧ w'.cell? ⟨bX, 1, none⟩ = some (.slice kR eB.length kS) ∧ w'.cell? ⟨bM, 0, none⟩ = some (.bool t105) ∧ w'.cell? ⟨bM, 1, none⟩ = some (.slice fH bA.length fE)) (ds := []) #[bF,bF,bF,bF,bF,bF,bF,bF,bF,bF,bF,bF,bF,bF,bF,bF,bF,bF,bF,bF,bF,bF,bF,bF,bF,bF,bF,bF,bF,bF] (by kernel_rfl) rfl rfl ⟨(af bI.out 0).trans rfl, (af bI.out 1).trans rfl, (af au.out 0).trans rfl, (af au.out 1).trans rfl, (af bQ.out 0).trans rfl, (af bQ.out 1).trans rfl, (af ai.out 0).trans rfl, (af ai.out 1).trans rfl⟩ (fun hHeld => ?_); refine iQ ag.zw ag.wT (fun HT_ HW_ => ?_)
            generalize w235.drew = w236 at ay ax aG dF di ai au aJ bI bQ HB hHeld ⊢
            refine eU 0 (some 91) HT_ HW_ hHeld ?_
            refine eU 1 (some 92) HT_ HW_ hHeld ?_
            refine eU 3 (some 94) HT_ HW_ hHeld ?_
            refine eU 5 (some 96) HT_ HW_ hHeld ?_
            refine gU 2 (some 93) HT_ (fun K hK => ?_)
            refine fo Tryd.func10 #[.agg #[.bool t183, .slice lI gm.length lJ], .agg #[.bool t109, .slice fO bi.length fP]] ?_
            with_reducible refine (bC.calls gX t183 _ _ gm t109 _ _ bi t194 tC _ ?aU ?aV ?bJ ?bK A135.out).mono ?_
            (case aU => exact qs ((Kd.ak dF.out).2.2))
            (case aV => exact (Kd.ak dF.out).2.1)
            (case bJ => exact qs ((Kd.ak ax.out).2.2))
            (case bK => exact (Kd.ak ax.out).2.1)
            rintro e w237 ⟨v196, rfl, ho0, hb⟩
            refine ⟨_, rfl, ?_⟩
            have gJ := ae.mk (Kd.bz (Kd.aA (Kd.aA (Kd.aA (Kd.aA (Kd.aA ho0 (Kd.aY (qr ay))) (Kd.aY (qr ax))) (Kd.aY (qr aG))) (Kd.aY (qr dF))) (Kd.aY (qr di))) (aN (qw HB)))
            replace ay := ae.mk (Kd.aj (qr ay) (Kd.az ho0) hb)
            replace ax := ae.mk (Kd.aj (qr ax) (Kd.az ho0) hb)
            replace aG := ae.mk (Kd.aj (qr aG) (Kd.az ho0) hb)
            replace dF := ae.mk (Kd.aj (qr dF) (Kd.az ho0) hb)
            replace di := ae.mk (Kd.aj (qr di) (Kd.az ho0) hb)
            replace ai := qbb ai hb
            replace au := qbb au hb
            replace aJ := qbb aJ hb
            replace bI := qbb bI hb
            replace bQ := qbb bQ hb
            replace HB := ae.mk (av (qw HB) hb)
            (try clear hb)
            (try clear hb2)
            (try clear hk)
            (try clear hi)
            (try clear ho0)
            obtain ⟨IE, IG, D7⟩ := Kd.bD gJ.out
            (first | subst D7 | (injection D7 with f1_ f2_ f3_; have f4_ := f1_.symm; have f5_ := f3_.symm; clear f1_ f2_ f3_; subst f4_; subst f5_))
            refine hK.out _ _ ⟨(af bI.out 0).trans rfl, (af bI.out 1).trans rfl, (af au.out 0).trans rfl, (af au.out 1).trans rfl, (af bQ.out 0).trans rfl, (af bQ.out 1).trans rfl, (af ai.out 0).trans rfl, (af ai.out 1).trans rfl⟩ (fun hHeld => ?_)
            clear hK K
            refine eY (some 93) ?_
            refine gU 4 (some 95) HT_ (fun K hK => ?_)
            refine fo Tryd.func9 #[.agg #[.bool t194, .slice IE tC.length IG], .agg #[.bool fV, .slice kR eB.length kS]] ?_
            with_reducible refine (bE.calls gX t194 _ _ tC fV _ _ eB t198 tF _ ?aU ?aV ?bJ ?bK A136.out).mono ?_
            (case aU => exact qs ((Kd.ak gJ.out).2.2))
            (case aV => exact (Kd.ak gJ.out).2.1)
            (case bJ => exact qs ((Kd.ak di.out).2.2))
            (case bK => exact (Kd.ak di.out).2.1)
            rintro e w239 ⟨v200, rfl, ho0, hb⟩
            refine ⟨_, rfl, ?_⟩
            have ic := ae.mk (Kd.bz (Kd.aA (Kd.aA (Kd.aA (Kd.aA (Kd.aA (Kd.aA ho0 (Kd.aY (qr ay))) (Kd.aY (qr ax))) (Kd.aY (qr aG))) (Kd.aY (qr dF))) (Kd.aY (qr di))) (Kd.aY (qr gJ))) (aN (qw HB)))
            replace ay := ae.mk (Kd.aj (qr ay) (Kd.az ho0) hb)
            replace ax := ae.mk (Kd.aj (qr ax) (Kd.az ho0) hb)
            replace aG := ae.mk (Kd.aj (qr aG) (Kd.az ho0) hb)
            replace dF := ae.mk (Kd.aj (qr dF) (Kd.az ho0) hb)
            replace di := ae.mk (Kd.aj (qr di) (Kd.az ho0) hb)
            replace gJ := ae.mk (Kd.aj (qr gJ) (Kd.az ho0) hb)
            replace ai := qbb ai hb
            replace au := qbb au hb
            replace aJ := qbb aJ hb
            replace bI := qbb bI hb
            replace bQ := qbb bQ hb
            replace HB := ae.mk (av (qw HB) hb)
            (try clear hb)
            (try clear hb2)
            (try clear hk)
            (try clear hi)
            (try clear ho0)
            obtain ⟨II, IJ, D8⟩ := Kd.bD ic.out
            (first | subst D8 | (injection D8 with f1_ f2_ f3_; have f4_ := f1_.symm; have f5_ := f3_.symm; clear f1_ f2_ f3_; subst f4_; subst f5_))
            refine hK.out _ _ ⟨(af bI.out 0).trans rfl, (af bI.out 1).trans rfl, (af au.out 0).trans rfl, (af au.out 1).trans rfl, (af bQ.out 0).trans rfl, (af bQ.out 1).trans rfl, (af ai.out 0).trans rfl, (af ai.out 1).trans rfl⟩ (fun hHeld => ?_)
            clear hK K
            refine eY (some 95) ?_
            refine gU 6 (some 97) HT_ (fun K hK => ?_)
            refine fo Tryd.func8 #[.agg #[.bool t198, .slice II tF.length IJ], .agg #[.bool t105, .slice fH bA.length fE]] ?_
            with_reducible refine (aR.calls gX t198 _ _ tF t105 _ _ bA true _ ?aU ?aV ?bJ ?bK A137.out).mono ?_
            (case aU => exact qs ((Kd.ak ic.out).2.2))
            (case aV => exact (Kd.ak ic.out).2.1)
            (case bJ => exact qs ((Kd.ak ay.out).2.2))
            (case bK => exact (Kd.ak ay.out).2.1)
            rintro e w241 ⟨rfl, hb⟩
            refine ⟨_, rfl, ?_⟩
            replace ay := ae.mk (Kd.aI (qr ay) hb)
            replace ax := ae.mk (Kd.aI (qr ax) hb)
            replace aG := ae.mk (Kd.aI (qr aG) hb)
            replace dF := ae.mk (Kd.aI (qr dF) hb)
            replace di := ae.mk (Kd.aI (qr di) hb)
            replace gJ := ae.mk (Kd.aI (qr gJ) hb)
            replace ic := ae.mk (Kd.aI (qr ic) hb)
            replace ai := qbb ai hb
            replace au := qbb au hb
            replace aJ := qbb aJ hb
            replace bI := qbb bI hb
            replace bQ := qbb bQ hb
            replace HB := ae.mk (av (qw HB) hb)
            (try clear hb)
            (try clear hb2)
            (try clear hk)
            (try clear hi)
            refine hK.out _ _ ⟨(af bI.out 0).trans rfl, (af bI.out 1).trans rfl, (af au.out 0).trans rfl, (af au.out 1).trans rfl, (af bQ.out 0).trans rfl, (af bQ.out 1).trans rfl, (af ai.out 0).trans rfl, (af ai.out 1).trans rfl⟩ (fun hHeld => ?_)
            clear hK K
            refine eY (some 97) ?_
            refine cZ 7 (some 98) HT_ ?_
            refine eU 8 (some 99) HT_ HW_ hHeld ?_
            refine gU 9 (some 100) HT_ (fun K hK => ?_)
            refine fo Tryd.func14 #[.agg #[.bool fV, .slice kR eB.length kS]] ?_
            with_reducible refine (dE.calls fV _ _ eB t203 _ ?aU ?aV A139.out).mono ?_
            (case aU => exact qs ((Kd.ak di.out).2.2))
            (case aV => exact (Kd.ak di.out).2.1)
            rintro e w242 ⟨rfl, hb⟩
            refine ⟨_, rfl, ?_⟩
            replace ay := ae.mk (Kd.aI (qr ay) hb)
            replace ax := ae.mk (Kd.aI (qr ax) hb)
            replace aG := ae.mk (Kd.aI (qr aG) hb)
            replace dF := ae.mk (Kd.aI (qr dF) hb)
            replace di := ae.mk (Kd.aI (qr di) hb)
            replace gJ := ae.mk (Kd.aI (qr gJ) hb)
            replace ic := ae.mk (Kd.aI (qr ic) hb)
            replace ai := qbb ai hb
            replace au := qbb au hb
            replace aJ := qbb aJ hb
            replace bI := qbb bI hb
            replace bQ := qbb bQ hb
            replace HB := ae.mk (av (qw HB) hb)
            (try clear hb)
            (try clear hb2)
            (try clear hk)
            (try clear hi)
            refine hK.out _ _ ⟨(af bI.out 0).trans rfl, (af bI.out 1).trans rfl, (af au.out 0).trans rfl, (af au.out 1).trans rfl, (af bQ.out 0).trans rfl, (af bQ.out 1).trans rfl, (af ai.out 0).trans rfl, (af ai.out 1).trans rfl⟩ (fun hHeld => ?_)
            clear hK K
            refine eY (some 100) ?_
            refine cZ 10 (some 101) HT_ ?_
            refine cZ 11 (some 102) HT_ ?_
            refine eU 12 (some 103) HT_ HW_ hHeld ?_
            refine eU 14 (some 105) HT_ HW_ hHeld ?_
            refine gU 13 (some 104) HT_ (fun K hK => ?_)
            refine fo Tryd.func14 #[.agg #[.bool fV, .slice kR eB.length kS]] ?_
            with_reducible refine (dE.calls fV _ _ eB t213 _ ?aU ?aV A176.out).mono ?_
            (case aU => exact qs ((Kd.ak di.out).2.2))
            (case aV => exact (Kd.ak di.out).2.1)
            rintro e w243 ⟨rfl, hb⟩
            refine ⟨_, rfl, ?_⟩
            replace ay := ae.mk (Kd.aI (qr ay) hb)
            replace ax := ae.mk (Kd.aI (qr ax) hb)
            replace aG := ae.mk (Kd.aI (qr aG) hb)
            replace dF := ae.mk (Kd.aI (qr dF) hb)
            replace di := ae.mk (Kd.aI (qr di) hb)
            replace gJ := ae.mk (Kd.aI (qr gJ) hb)
            replace ic := ae.mk (Kd.aI (qr ic) hb)
            replace ai := qbb ai hb
            replace au := qbb au hb
            replace aJ := qbb aJ hb
            replace bI := qbb bI hb
            replace bQ := qbb bQ hb
            replace HB := ae.mk (av (qw HB) hb)
            (try clear hb)
            (try clear hb2)
            (try clear hk)
            (try clear hi)
            refine hK.out _ _ ⟨(af bI.out 0).trans rfl, (af bI.out 1).trans rfl, (af au.out 0).trans rfl, (af au.out 1).trans rfl, (af bQ.out 0).trans rfl, (af bQ.out 1).trans rfl, (af ai.out 0).trans rfl, (af ai.out 1).trans rfl⟩ (fun hHeld => ?_)
            clear hK K
            refine eY (some 104) ?_
            refine gU 15 (some 106) HT_ (fun K hK => ?_)
            refine fo Tryd.func14 #[.agg #[.bool t109, .slice fO bi.length fP]] ?_
            with_reducible refine (dE.calls t109 _ _ bi om _ ?aU ?aV A177.out).mono ?_
            (case aU => exact qs ((Kd.ak ax.out).2.2))
            (case aV => exact (Kd.ak ax.out).2.1)
            rintro e w244 ⟨rfl, hb⟩
            refine ⟨_, rfl, ?_⟩
            replace ay := ae.mk (Kd.aI (qr ay) hb)
            replace ax := ae.mk (Kd.aI (qr ax) hb)
            replace aG := ae.mk (Kd.aI (qr aG) hb)
            replace dF := ae.mk (Kd.aI (qr dF) hb)
            replace di := ae.mk (Kd.aI (qr di) hb)
            replace gJ := ae.mk (Kd.aI (qr gJ) hb)
            replace ic := ae.mk (Kd.aI (qr ic) hb)
            replace ai := qbb ai hb
            replace au := qbb au hb
            replace aJ := qbb aJ hb
            replace bI := qbb bI hb
            replace bQ := qbb bQ hb
            replace HB := ae.mk (av (qw HB) hb)
            (try clear hb)
            (try clear hb2)
            (try clear hk)
            (try clear hi)
            refine hK.out _ _ ⟨(af bI.out 0).trans rfl, (af bI.out 1).trans rfl, (af au.out 0).trans rfl, (af au.out 1).trans rfl, (af bQ.out 0).trans rfl, (af bQ.out 1).trans rfl, (af ai.out 0).trans rfl, (af ai.out 1).trans rfl⟩ (fun hHeld => ?_)
            clear hK K
            refine eY (some 106) ?_
            refine cZ 16 (some 107) HT_ ?_
            refine cZ 17 (some 108) HT_ ?_
            refine cZ 18 (some 109) HT_ ?_
            refine cZ 19 (some 110) HT_ ?_
            refine fe 20 (some 111) HT_ ?_
            refine fe 21 (some 112) HT_ ?_
            refine fe 22 (some 113) HT_ ?_
            refine fe 23 (some 114) HT_ ?_
            refine fe 24 (some 115) HT_ ?_
            refine fe 25 (some 116) HT_ ?_
            refine fe 26 (some 117) HT_ ?_
            refine fe 27 (some 118) HT_ ?_
            refine cZ 28 (some 119) HT_ ?_
            refine cZ 29 (some 6) HT_ ?_
            refine nM HT_ ?_
            try go_wp2
            go_ret
            exact ⟨by first | rfl | (simp [errW_none, errW_some] <;> rfl) | (simp [*, errW_none, errW_some] <;> rfl), by repeat (first | (with_reducible first | exact HB.out | apply aM | apply aD | apply aH | refine aQ ?_ gB.out | refine aQ ?_ ib.out | refine aQ ?_ jB.out | refine aQ ?_ ql.out | refine aQ ?_ qm.out) | exact HB.out)⟩
         ·replace c138 := Bool.eq_false_iff.mpr c138
          subst c138
          have H1 : (some false) = some r := by rw [if_neg (show ¬ (false = true) by decide)] at H; exact H
          clear H
          have H := H1
          clear H1
          obtain rfl := Option.some.inj H
          have hnb245 := eD.out
          have hnc245 := eF.out
          have hnb246 := dm.out
          have hnc246 := eZ.out
          have hcz247_0 : wc.cell? ⟨bM, 0, none⟩ = some (.bool t105) := (af ai.out 0).trans rfl
          have hcz247_1 : wc.cell? ⟨bM, 1, none⟩ = some (.slice fH bA.length fE) := (af ai.out 1).trans rfl
          have hfz247_0 := aK ai.out 0
          have hfz247_1 := aK ai.out 1
          have hnb248 := dh.out
          have hnc248 := eX.out
          have hcz249_0 : wc.cell? ⟨cu, 0, none⟩ = some (.bool t109) := (af au.out 0).trans rfl
          have hcz249_1 : wc.cell? ⟨cu, 1, none⟩ = some (.slice fO bi.length fP) := (af au.out 1).trans rfl
          have hfz249_0 := aK au.out 0
          have hfz249_1 := aK au.out 1
          try go_wp2_with (first | ((with_reducible refine aW (f := 13) rfl ?_); refine cO (some 81) rfl rfl Tryd.func13 (by kernel_rfl) rfl #[.agg #[.bool t105, .slice fH bA.length fE], .agg #[.bool t109, .slice fO bi.length fP]] rfl qt ?_; (with_reducible refine (dB.calls gX t105 _ _ bA t109 _ _ bi t183 gm fV eB uZ _ ?aU ?aV ?bJ ?bK A133.out).mono ?_); (case aU => exact qs ((Kd.ak ay.out).2.2)); (case aV => exact (Kd.ak ay.out).2.1); (case bJ => exact qs ((Kd.ak ax.out).2.2)); (case bK => exact (Kd.ak ax.out).2.1); rintro e w250 ⟨v185, v189, rfl, ho0, ho1, hb⟩; refine ⟨_, rfl, ?_⟩; have dF := ae.mk (Kd.bz (Kd.aA (Kd.aA (Kd.aA ho0 (Kd.aY (qr ay))) (Kd.aY (qr ax))) (Kd.aY (qr aG))) (aN (qw HB))); have di := ae.mk (Kd.bz (Kd.aA (Kd.aA (Kd.aA ho1 (Kd.aY (qr ay))) (Kd.aY (qr ax))) (Kd.aY (qr aG))) (aN (qw HB))); replace ay := ae.mk (Kd.bG (Kd.gQ (Kd.gQ (Kd.mo (qr ay) hb) (Kd.az ho0)) (Kd.az ho1)) (fun _ h_ => h_.1)); replace ax := ae.mk (Kd.bG (Kd.gQ (Kd.gQ (Kd.mo (qr ax) hb) (Kd.az ho0)) (Kd.az ho1)) (fun _ h_ => h_.1)); replace aG := ae.mk (Kd.bG (Kd.gQ (Kd.gQ (Kd.mo (qr aG) hb) (Kd.az ho0)) (Kd.az ho1)) (fun _ h_ => h_.1)); replace ai := qbb ai hb; replace au := qbb au hb; replace aJ := qbb aJ hb; replace HB := ae.mk (av (qw HB) hb); (try clear hb); (try clear hb2); (try clear hk); (try clear hi); (try clear ho0); (try clear ho1)) | ((with_reducible refine bR (N := 7) rfl ?_); refine bS ?hg (N := 7) ?hd (cs := #[.bool false, .slice none 0 0]) (t := 25) ?hr ?_; (case hd => rfl); (case hg => rfl); (case hr => first | (go_simp; done) | (go_simp; rfl)); intro bW hg w251 hbox hb; replace ay := ae.mk (Kd.aI (qr ay) hb); replace ax := ae.mk (Kd.aI (qr ax) hb); replace aG := ae.mk (Kd.aI (qr aG) hb); replace dF := ae.mk (Kd.aI (qr dF) hb); replace di := ae.mk (Kd.aI (qr di) hb); have bI := ae.mk (hbox); have GW192 := qge HB hg; have ql := qge HB hg; replace HB := ae.mk (av (qw HB) hb); have iZ := qnl ai hg; have mU := qng ai hg; replace ai := qbb ai hb; have ja := qnl au hg; have mV := qng au hg; replace au := qbb au hb; have jb := qnl aJ hg; have mW := qng aJ hg; replace aJ := qbb aJ hb; clear hb hbox hg) | ((with_reducible refine bR (N := 8) rfl ?_); refine bS ?hg (N := 8) ?hd (cs := #[.bool false, .slice none 0 0]) (t := 25) ?hr ?_; (case hd => rfl); (case hg => rfl); (case hr => first | (go_simp; done) | (go_simp; rfl)); intro bX hg w252 hbox hb; replace ay := ae.mk (Kd.aI (qr ay) hb); replace ax := ae.mk (Kd.aI (qr ax) hb); replace aG := ae.mk (Kd.aI (qr aG) hb); replace dF := ae.mk (Kd.aI (qr dF) hb); replace di := ae.mk (Kd.aI (qr di) hb); have bQ := ae.mk (hbox); have GW193 := qge HB hg; have qm := qge HB hg; replace HB := ae.mk (av (qw HB) hb); have jc := qnl ai hg; have mX := qng ai hg; replace ai := qbb ai hb; have jd := qnl au hg; have mY := qng au hg; replace au := qbb au hb; have je := qnl aJ hg; have mZ := qng aJ hg; replace aJ := qbb aJ hb; have jf := qnl bI hg; have jg := qng bI hg; replace bI := qbb bI hb; clear hb hbox hg; have hnb253 := mU.out; have hnc253 := iZ.out; have hnb254 := mV.out; have hnc254 := ja.out; have hnb255 := mW.out; have hnc255 := jb.out; have hnb256 := jf.out; have hnc256 := jg.out; have hcz257_0 : w252.cell? ⟨bW, 0, none⟩ = some (.bool false) := (af bI.out 0).trans rfl; have hcz257_1 : w252.cell? ⟨bW, 1, none⟩ = some (.slice none 0 0) := (af bI.out 1).trans rfl; have hfz257_0 := aK bI.out 0; have hfz257_1 := aK bI.out 1; obtain ⟨lK, lL, IK⟩ := Kd.bD dF.out; subst IK; have hnb259 := mX.out; have hnc259 := jc.out; have hnb260 := mY.out; have hnc260 := jd.out; have hnb261 := mZ.out; have hnc261 := je.out; have hcz262_0 : w252.cell? ⟨bX, 0, none⟩ = some (.bool false) := (af bQ.out 0).trans rfl; have hcz262_1 : w252.cell? ⟨bX, 1, none⟩ = some (.slice none 0 0) := (af bQ.out 1).trans rfl; have hfz262_0 := aK bQ.out 0; have hfz262_1 := aK bQ.out 1; obtain ⟨lM, lN, IL⟩ := Kd.bD di.out; subst IL))
          have n0_ : ae (Kd.R (Kd.int .u64) 64 ((((w252.setCell ⟨bW, 0, none⟩ (.bool t183)).setCell ⟨bW, 1, none⟩ (.slice lK gm.length lL)).setCell ⟨bX, 0, none⟩ (.bool fV)).setCell ⟨bX, 1, none⟩ (.slice lM eB.length lN)) w.heap.size (fun k_ => some k_ ≠ (.slice fO bi.length fP : Value).ownBlock ∧ some k_ ≠ (.slice gN dD.length gM : Value).ownBlock ∧ some k_ ≠ (.slice lK gm.length lL : Value).ownBlock ∧ some k_ ≠ (.slice lM eB.length lN : Value).ownBlock) (.slice fH bA.length fE) bA) := ⟨by (with_reducible repeat (first | apply Kd.bu | apply Kd.bv | apply Kd.bg)); exact Kd.bG (Kd.bH (p := ⟨bX, 1, none⟩) (Kd.bH (p := ⟨bX, 0, none⟩) (Kd.bH (p := ⟨bW, 1, none⟩) (Kd.bH (p := ⟨bW, 0, none⟩) (Kd.bU (Kd.bU ay.out bI.out (by decide)) bQ.out (by decide)) (fun _ hk => hk.1.2) (.bool t183)) (fun _ hk => hk.1.2) (.slice lK gm.length lL)) (fun _ hk => hk.2) (.bool fV)) (fun _ hk => hk.2) (.slice lM eB.length lN)) (fun _ hk => ⟨hk.1.1.1.1.1, ⟨hk.1.1.1.1.2, ⟨hk.1.1.1.2, hk.1.1.2⟩⟩⟩)⟩
          have n1_ : ae (Kd.R (Kd.int .u64) 64 ((((w252.setCell ⟨bW, 0, none⟩ (.bool t183)).setCell ⟨bW, 1, none⟩ (.slice lK gm.length lL)).setCell ⟨bX, 0, none⟩ (.bool fV)).setCell ⟨bX, 1, none⟩ (.slice lM eB.length lN)) w.heap.size (fun k_ => some k_ ≠ (.slice fH bA.length fE : Value).ownBlock ∧ some k_ ≠ (.slice gN dD.length gM : Value).ownBlock ∧ some k_ ≠ (.slice lK gm.length lL : Value).ownBlock ∧ some k_ ≠ (.slice lM eB.length lN : Value).ownBlock) (.slice fO bi.length fP) bi) := ⟨by (with_reducible repeat (first | apply Kd.bu | apply Kd.bv | apply Kd.bg)); exact Kd.bG (Kd.bH (p := ⟨bX, 1, none⟩) (Kd.bH (p := ⟨bX, 0, none⟩) (Kd.bH (p := ⟨bW, 1, none⟩) (Kd.bH (p := ⟨bW, 0, none⟩) (Kd.bU (Kd.bU ax.out bI.out (by decide)) bQ.out (by decide)) (fun _ hk => hk.1.2) (.bool t183)) (fun _ hk => hk.1.2) (.slice lK gm.length lL)) (fun _ hk => hk.2) (.bool fV)) (fun _ hk => hk.2) (.slice lM eB.length lN)) (fun _ hk => ⟨hk.1.1.1.1.1, ⟨hk.1.1.1.1.2, ⟨hk.1.1.1.2, hk.1.1.2⟩⟩⟩)⟩
          have n2_ : ae (Kd.R (Kd.int .u64) 64 ((((w252.setCell ⟨bW, 0, none⟩ (.bool t183)).setCell ⟨bW, 1, none⟩ (.slice lK gm.length lL)).setCell ⟨bX, 0, none⟩ (.bool fV)).setCell ⟨bX, 1, none⟩ (.slice lM eB.length lN)) w.heap.size (fun k_ => some k_ ≠ (.slice fH bA.length fE : Value).ownBlock ∧ some k_ ≠ (.slice fO bi.length fP : Value).ownBlock ∧ some k_ ≠ (.slice lK gm.length lL : Value).ownBlock ∧ some k_ ≠ (.slice lM eB.length lN : Value).ownBlock) (.slice gN dD.length gM) dD) := ⟨by (with_reducible repeat (first | apply Kd.bu | apply Kd.bv | apply Kd.bg)); exact Kd.bG (Kd.bH (p := ⟨bX, 1, none⟩) (Kd.bH (p := ⟨bX, 0, none⟩) (Kd.bH (p := ⟨bW, 1, none⟩) (Kd.bH (p := ⟨bW, 0, none⟩) (Kd.bU (Kd.bU aG.out bI.out (by decide)) bQ.out (by decide)) (fun _ hk => hk.1.2) (.bool t183)) (fun _ hk => hk.1.2) (.slice lK gm.length lL)) (fun _ hk => hk.2) (.bool fV)) (fun _ hk => hk.2) (.slice lM eB.length lN)) (fun _ hk => ⟨hk.1.1.1.1.1, ⟨hk.1.1.1.1.2, ⟨hk.1.1.1.2, hk.1.1.2⟩⟩⟩)⟩
          have n3_ : ae (Kd.R (Kd.int .u64) 64 ((((w252.setCell ⟨bW, 0, none⟩ (.bool t183)).setCell ⟨bW, 1, none⟩ (.slice lK gm.length lL)).setCell ⟨bX, 0, none⟩ (.bool fV)).setCell ⟨bX, 1, none⟩ (.slice lM eB.length lN)) w.heap.size (fun k_ => some k_ ≠ (.slice fH bA.length fE : Value).ownBlock ∧ some k_ ≠ (.slice fO bi.length fP : Value).ownBlock ∧ some k_ ≠ (.slice gN dD.length gM : Value).ownBlock ∧ some k_ ≠ (.slice lM eB.length lN : Value).ownBlock) (.slice lK gm.length lL) gm) := ⟨by (with_reducible repeat (first | apply Kd.bu | apply Kd.bv | apply Kd.bg)); exact Kd.bG (Kd.bH (p := ⟨bX, 1, none⟩) (Kd.bH (p := ⟨bX, 0, none⟩) (Kd.bH (p := ⟨bW, 1, none⟩) (Kd.bH (p := ⟨bW, 0, none⟩) (Kd.bU (Kd.bU dF.out bI.out (by decide)) bQ.out (by decide)) (fun _ hk => hk.1.2) (.bool t183)) (fun _ hk => hk.1.2) (.slice lK gm.length lL)) (fun _ hk => hk.2) (.bool fV)) (fun _ hk => hk.2) (.slice lM eB.length lN)) (fun _ hk => ⟨hk.1.1.1.1.2, ⟨hk.1.1.1.2, ⟨hk.1.1.2, hk.1.1.1.1.1⟩⟩⟩)⟩
          have n4_ : ae (Kd.R (Kd.int .u64) 64 ((((w252.setCell ⟨bW, 0, none⟩ (.bool t183)).setCell ⟨bW, 1, none⟩ (.slice lK gm.length lL)).setCell ⟨bX, 0, none⟩ (.bool fV)).setCell ⟨bX, 1, none⟩ (.slice lM eB.length lN)) w.heap.size (fun k_ => some k_ ≠ (.slice fH bA.length fE : Value).ownBlock ∧ some k_ ≠ (.slice fO bi.length fP : Value).ownBlock ∧ some k_ ≠ (.slice gN dD.length gM : Value).ownBlock ∧ some k_ ≠ (.slice lK gm.length lL : Value).ownBlock) (.slice lM eB.length lN) eB) := ⟨by (with_reducible repeat (first | apply Kd.bu | apply Kd.bv | apply Kd.bg)); exact Kd.bG (Kd.bH (p := ⟨bX, 1, none⟩) (Kd.bH (p := ⟨bX, 0, none⟩) (Kd.bH (p := ⟨bW, 1, none⟩) (Kd.bH (p := ⟨bW, 0, none⟩) (Kd.bU (Kd.bU di.out bI.out (by decide)) bQ.out (by decide)) (fun _ hk => hk.1.2) (.bool t183)) (fun _ hk => hk.1.2) (.slice lK gm.length lL)) (fun _ hk => hk.2) (.bool fV)) (fun _ hk => hk.2) (.slice lM eB.length lN)) (fun _ hk => ⟨hk.1.1.1.1.2, ⟨hk.1.1.1.2, ⟨hk.1.1.2, hk.1.1.1.1.1⟩⟩⟩)⟩
          have n5_ : ae (((((w252.setCell ⟨bW, 0, none⟩ (.bool t183)).setCell ⟨bW, 1, none⟩ (.slice lK gm.length lL)).setCell ⟨bX, 0, none⟩ (.bool fV)).setCell ⟨bX, 1, none⟩ (.slice lM eB.length lN)).heap[bM]? = some (.cells #[.bool t105, .slice fH bA.length fE] 25 (0, 0))) := ⟨by refine bN ?_ jc.out _; refine bN ?_ jc.out _; refine bN ?_ iZ.out _; refine bN ?_ iZ.out _; (with_reducible repeat (first | refine bP ?_ _ | refine bf ?_ | refine bO ?_ _)); exact ai.out⟩
          have n6_ : ae (((((w252.setCell ⟨bW, 0, none⟩ (.bool t183)).setCell ⟨bW, 1, none⟩ (.slice lK gm.length lL)).setCell ⟨bX, 0, none⟩ (.bool fV)).setCell ⟨bX, 1, none⟩ (.slice lM eB.length lN)).heap[cu]? = some (.cells #[.bool t109, .slice fO bi.length fP] 25 (0, 0))) := ⟨by refine bN ?_ jd.out _; refine bN ?_ jd.out _; refine bN ?_ ja.out _; refine bN ?_ ja.out _; (with_reducible repeat (first | refine bP ?_ _ | refine bf ?_ | refine bO ?_ _)); exact au.out⟩
          have n7_ : ae (((((w252.setCell ⟨bW, 0, none⟩ (.bool t183)).setCell ⟨bW, 1, none⟩ (.slice lK gm.length lL)).setCell ⟨bX, 0, none⟩ (.bool fV)).setCell ⟨bX, 1, none⟩ (.slice lM eB.length lN)).heap[cB]? = some (.cells #[.bool eT, .slice gN dD.length gM] 25 (0, 0))) := ⟨by refine bN ?_ je.out _; refine bN ?_ je.out _; refine bN ?_ jb.out _; refine bN ?_ jb.out _; (with_reducible repeat (first | refine bP ?_ _ | refine bf ?_ | refine bO ?_ _)); exact aJ.out⟩
          have n8_ : ae (((((w252.setCell ⟨bW, 0, none⟩ (.bool t183)).setCell ⟨bW, 1, none⟩ (.slice lK gm.length lL)).setCell ⟨bX, 0, none⟩ (.bool fV)).setCell ⟨bX, 1, none⟩ (.slice lM eB.length lN)).heap[bW]? = some (.cells #[.bool t183, .slice lK gm.length lL] 25 (0, 0))) := ⟨by refine bN ?_ jf.out _; refine bN ?_ jf.out _; refine dG (cs := #[.bool t183, .slice none 0 0]) ?_ 1 _ rfl; refine dG (cs := #[.bool false, .slice none 0 0]) ?_ 0 _ rfl; (with_reducible repeat (first | refine bP ?_ _ | refine bf ?_ | refine bO ?_ _)); exact bI.out⟩
          have n9_ : ae (((((w252.setCell ⟨bW, 0, none⟩ (.bool t183)).setCell ⟨bW, 1, none⟩ (.slice lK gm.length lL)).setCell ⟨bX, 0, none⟩ (.bool fV)).setCell ⟨bX, 1, none⟩ (.slice lM eB.length lN)).heap[bX]? = some (.cells #[.bool fV, .slice lM eB.length lN] 25 (0, 0))) := ⟨by refine dG (cs := #[.bool fV, .slice none 0 0]) ?_ 1 _ rfl; refine dG (cs := #[.bool false, .slice none 0 0]) ?_ 0 _ rfl; refine bN ?_ jg.out _; refine bN ?_ jg.out _; (with_reducible repeat (first | refine bP ?_ _ | refine bf ?_ | refine bO ?_ _)); exact bQ.out⟩
          have rV : ae (Below w.heap.size w ((((w252.setCell ⟨bW, 0, none⟩ (.bool t183)).setCell ⟨bW, 1, none⟩ (.slice lK gm.length lL)).setCell ⟨bX, 0, none⟩ (.bool fV)).setCell ⟨bX, 1, none⟩ (.slice lM eB.length lN))) := ⟨by repeat (first | (with_reducible first | exact HB.out | apply aM | apply aD | apply aH | refine aQ ?_ gB.out | refine aQ ?_ ib.out | refine aQ ?_ jB.out | refine aQ ?_ ql.out | refine aQ ?_ qm.out) | exact HB.out)⟩
          (try clear ay)
          (try clear ax)
          (try clear aG)
          (try clear dF)
          (try clear di)
          (try clear ai)
          (try clear au)
          (try clear aJ)
          (try clear bI)
          (try clear bQ)
          (try clear HB)
          generalize ((((w252.setCell ⟨bW, 0, none⟩ (.bool t183)).setCell ⟨bW, 1, none⟩ (.slice lK gm.length lL)).setCell ⟨bX, 0, none⟩ (.bool fV)).setCell ⟨bX, 1, none⟩ (.slice lM eB.length lN)) = w264 at n0_ n1_ n2_ n3_ n4_ n5_ n6_ n7_ n8_ n9_ rV ⊢
          have ay := n0_
          have ax := n1_
          have aG := n2_
          have dF := n3_
          have di := n4_
          have ai := n5_
          have au := n6_
          have aJ := n7_
          have bI := n8_
          have bQ := n9_
          have HB := rV
          clear n0_ n1_ n2_ n3_ n4_ n5_ n6_ n7_ n8_ n9_ rV
          replace ay := ae.mk (Kd.bg ay.out)
          replace ax := ae.mk (Kd.bg ax.out)
          replace aG := ae.mk (Kd.bg aG.out)
          replace dF := ae.mk (Kd.bg dF.out)
          replace di := ae.mk (Kd.bg di.out)
          replace ai := ae.mk (bf ai.out)
          replace au := ae.mk (bf au.out)
          replace aJ := ae.mk (bf aJ.out)
          replace bI := ae.mk (bf bI.out)
          replace bQ := ae.mk (bf bQ.out)
          replace HB := ae.mk (aH HB.out)
          refine j6 (n := 30) (S := fun w' => w'.cell? ⟨bW, 0, none⟩ = some (.bool t183) ∧ w'.cell? ⟨bW, 1, none⟩ = some (.slice lK gm.length lL) ∧ w'.cell? ⟨cu, 0, none⟩ = some (.bool t109) ∧ w'.cell? ⟨cu, 1, none⟩ = some (.slice fO bi.length fP) ∧ w'.cell? ⟨bX, 0, none⟩ = some (.bool fV) ∧ w'.cell? ⟨bX, 1, none⟩ = some (.slice lM eB.length lN) ∧ w'.cell? ⟨bM, 0, none⟩ = some (.bool t105) ∧ w'.cell? ⟨bM, 1, none⟩ = some (.slice fH bA.length fE)) (ds := []) #[bF,bF,bF,bF,bF,bF,bF,bF,bF,bF,bF,bF,bF,bF,bF,bF,bF,bF,bF,bF,bF,bF,bF,bF,bF,bF,bF,bF,bF,bF] (by kernel_rfl) rfl rfl ⟨(af bI.out 0).trans rfl, (af bI.out 1).trans rfl, (af au.out 0).trans rfl, (af au.out 1).trans rfl, (af bQ.out 0).trans rfl, (af bQ.out 1).trans rfl, (af ai.out 0).trans rfl, (af ai.out 1).trans rfl⟩ (fun hHeld => ?_); refine iQ ag.zw ag.wT (fun HT_ HW_ => ?_)
          generalize w264.drew = w265 at ay ax aG dF di ai au aJ bI bQ HB hHeld ⊢
          refine eU 0 (some 91) HT_ HW_ hHeld ?_
          refine eU 1 (some 92) HT_ HW_ hHeld ?_
          refine eU 3 (some 94) HT_ HW_ hHeld ?_
          refine eU 5 (some 96) HT_ HW_ hHeld ?_
          refine gU 2 (some 93) HT_ (fun K hK => ?_)
          refine fo Tryd.func10 #[.agg #[.bool t183, .slice lK gm.length lL], .agg #[.bool t109, .slice fO bi.length fP]] ?_
          with_reducible refine (bC.calls gX t183 _ _ gm t109 _ _ bi t194 tC _ ?aU ?aV ?bJ ?bK A135.out).mono ?_
          (case aU => exact qs ((Kd.ak dF.out).2.2))
          (case aV => exact (Kd.ak dF.out).2.1)
          (case bJ => exact qs ((Kd.ak ax.out).2.2))
          (case bK => exact (Kd.ak ax.out).2.1)
          rintro e w266 ⟨v196, rfl, ho0, hb⟩
          refine ⟨_, rfl, ?_⟩
          have gJ := ae.mk (Kd.bz (Kd.aA (Kd.aA (Kd.aA (Kd.aA (Kd.aA ho0 (Kd.aY (qr ay))) (Kd.aY (qr ax))) (Kd.aY (qr aG))) (Kd.aY (qr dF))) (Kd.aY (qr di))) (aN (qw HB)))
          replace ay := ae.mk (Kd.aj (qr ay) (Kd.az ho0) hb)
          replace ax := ae.mk (Kd.aj (qr ax) (Kd.az ho0) hb)
          replace aG := ae.mk (Kd.aj (qr aG) (Kd.az ho0) hb)
          replace dF := ae.mk (Kd.aj (qr dF) (Kd.az ho0) hb)
          replace di := ae.mk (Kd.aj (qr di) (Kd.az ho0) hb)
          replace ai := qbb ai hb
          replace au := qbb au hb
          replace aJ := qbb aJ hb
          replace bI := qbb bI hb
          replace bQ := qbb bQ hb
          replace HB := ae.mk (av (qw HB) hb)
          (try clear hb)
          (try clear hb2)
          (try clear hk)
          (try clear hi)
          (try clear ho0)
          obtain ⟨IM, IP, D9⟩ := Kd.bD gJ.out
          (first | subst D9 | (injection D9 with f1_ f2_ f3_; have f4_ := f1_.symm; have f5_ := f3_.symm; clear f1_ f2_ f3_; subst f4_; subst f5_))
          refine hK.out _ _ ⟨(af bI.out 0).trans rfl, (af bI.out 1).trans rfl, (af au.out 0).trans rfl, (af au.out 1).trans rfl, (af bQ.out 0).trans rfl, (af bQ.out 1).trans rfl, (af ai.out 0).trans rfl, (af ai.out 1).trans rfl⟩ (fun hHeld => ?_)
          clear hK K
          refine eY (some 93) ?_
          refine gU 4 (some 95) HT_ (fun K hK => ?_)
          refine fo Tryd.func9 #[.agg #[.bool t194, .slice IM tC.length IP], .agg #[.bool fV, .slice lM eB.length lN]] ?_
          with_reducible refine (bE.calls gX t194 _ _ tC fV _ _ eB t198 tF _ ?aU ?aV ?bJ ?bK A136.out).mono ?_
          (case aU => exact qs ((Kd.ak gJ.out).2.2))
          (case aV => exact (Kd.ak gJ.out).2.1)
          (case bJ => exact qs ((Kd.ak di.out).2.2))
          (case bK => exact (Kd.ak di.out).2.1)
          rintro e w268 ⟨v200, rfl, ho0, hb⟩
          refine ⟨_, rfl, ?_⟩
          have ic := ae.mk (Kd.bz (Kd.aA (Kd.aA (Kd.aA (Kd.aA (Kd.aA (Kd.aA ho0 (Kd.aY (qr ay))) (Kd.aY (qr ax))) (Kd.aY (qr aG))) (Kd.aY (qr dF))) (Kd.aY (qr di))) (Kd.aY (qr gJ))) (aN (qw HB)))
          replace ay := ae.mk (Kd.aj (qr ay) (Kd.az ho0) hb)
          replace ax := ae.mk (Kd.aj (qr ax) (Kd.az ho0) hb)
          replace aG := ae.mk (Kd.aj (qr aG) (Kd.az ho0) hb)
          replace dF := ae.mk (Kd.aj (qr dF) (Kd.az ho0) hb)
          replace di := ae.mk (Kd.aj (qr di) (Kd.az ho0) hb)
          replace gJ := ae.mk (Kd.aj (qr gJ) (Kd.az ho0) hb)
          replace ai := qbb ai hb
          replace au := qbb au hb
          replace aJ := qbb aJ hb
          replace bI := qbb bI hb
          replace bQ := qbb bQ hb
          replace HB := ae.mk (av (qw HB) hb)
          (try clear hb)
          (try clear hb2)
          (try clear hk)
          (try clear hi)
          (try clear ho0)
          obtain ⟨IQ, IR, Ea⟩ := Kd.bD ic.out
          (first | subst Ea | (injection Ea with f1_ f2_ f3_; have f4_ := f1_.symm; have f5_ := f3_.symm; clear f1_ f2_ f3_; subst f4_; subst f5_))
          refine hK.out _ _ ⟨(af bI.out 0).trans rfl, (af bI.out 1).trans rfl, (af au.out 0).trans rfl, (af au.out 1).trans rfl, (af bQ.out 0).trans rfl, (af bQ.out 1).trans rfl, (af ai.out 0).trans rfl, (af ai.out 1).trans rfl⟩ (fun hHeld => ?_)
          clear hK K
          refine eY (some 95) ?_
          refine gU 6 (some 97) HT_ (fun K hK => ?_)
          refine fo Tryd.func8 #[.agg #[.bool t198, .slice IQ tF.length IR], .agg #[.bool t105, .slice fH bA.length fE]] ?_
          with_reducible refine (aR.calls gX t198 _ _ tF t105 _ _ bA false _ ?aU ?aV ?bJ ?bK A137.out).mono ?_
          (case aU => exact qs ((Kd.ak ic.out).2.2))
          (case aV => exact (Kd.ak ic.out).2.1)
          (case bJ => exact qs ((Kd.ak ay.out).2.2))
          (case bK => exact (Kd.ak ay.out).2.1)
          rintro e w270 ⟨rfl, hb⟩
          refine ⟨_, rfl, ?_⟩
          replace ay := ae.mk (Kd.aI (qr ay) hb)
          replace ax := ae.mk (Kd.aI (qr ax) hb)
          replace aG := ae.mk (Kd.aI (qr aG) hb)
          replace dF := ae.mk (Kd.aI (qr dF) hb)
          replace di := ae.mk (Kd.aI (qr di) hb)
          replace gJ := ae.mk (Kd.aI (qr gJ) hb)
          replace ic := ae.mk (Kd.aI (qr ic) hb)
          replace ai := qbb ai hb
          replace au := qbb au hb
          replace aJ := qbb aJ hb
          replace bI := qbb bI hb
          replace bQ := qbb bQ hb
          replace HB := ae.mk (av (qw HB) hb)
          (try clear hb)
          (try clear hb2)
          (try clear hk)
          (try clear hi)
          refine hK.out _ _ ⟨(af bI.out 0).trans rfl, (af bI.out 1).trans rfl, (af au.out 0).trans rfl, (af au.out 1).trans rfl, (af bQ.out 0).trans rfl, (af bQ.out 1).trans rfl, (af ai.out 0).trans rfl, (af ai.out 1).trans rfl⟩ (fun hHeld => ?_)
          clear hK K
          refine eY (some 97) ?_
          refine cZ 7 (some 98) HT_ ?_
          refine fe 8 (some 99) HT_ ?_
          refine fe 9 (some 100) HT_ ?_
          refine fe 10 (some 101) HT_ ?_
          refine fe 11 (some 102) HT_ ?_
          refine fe 12 (some 103) HT_ ?_
          refine fe 13 (some 104) HT_ ?_
          refine fe 14 (some 105) HT_ ?_
          refine fe 15 (some 106) HT_ ?_
          refine fe 16 (some 107) HT_ ?_
          refine fe 17 (some 108) HT_ ?_
          refine cZ 18 (some 109) HT_ ?_
          refine cZ 19 (some 110) HT_ ?_
          refine fe 20 (some 111) HT_ ?_
          refine fe 21 (some 112) HT_ ?_
          refine fe 22 (some 113) HT_ ?_
          refine fe 23 (some 114) HT_ ?_
          refine fe 24 (some 115) HT_ ?_
          refine fe 25 (some 116) HT_ ?_
          refine fe 26 (some 117) HT_ ?_
          refine fe 27 (some 118) HT_ ?_
          refine cZ 28 (some 119) HT_ ?_
          refine cZ 29 (some 6) HT_ ?_
          refine nM HT_ ?_
          try go_wp2
          go_ret
          exact ⟨by first | rfl | (simp [errW_none, errW_some] <;> rfl) | (simp [*, errW_none, errW_some] <;> rfl), by repeat (first | (with_reducible first | exact HB.out | apply aM | apply aD | apply aH | refine aQ ?_ gB.out | refine aQ ?_ ib.out | refine aQ ?_ jB.out | refine aQ ?_ ql.out | refine aQ ?_ qm.out) | exact HB.out)⟩
        ·rw [if_neg c134] at H
         have Fg : (uZ == 0) = false := beq_eq_false_iff_ne.mpr c134
         have Fh : (uZ != 0) = true := bne_iff_ne.mpr c134
         obtain rfl := Option.some.inj H
         have hnb271 := eD.out
         have hnc271 := eF.out
         have hnb272 := dm.out
         have hnc272 := eZ.out
         have hcz273_0 : wc.cell? ⟨bM, 0, none⟩ = some (.bool t105) := (af ai.out 0).trans rfl
         have hcz273_1 : wc.cell? ⟨bM, 1, none⟩ = some (.slice fH bA.length fE) := (af ai.out 1).trans rfl
         have hfz273_0 := aK ai.out 0
         have hfz273_1 := aK ai.out 1
         have hnb274 := dh.out
         have hnc274 := eX.out
         have hcz275_0 : wc.cell? ⟨cu, 0, none⟩ = some (.bool t109) := (af au.out 0).trans rfl
         have hcz275_1 : wc.cell? ⟨cu, 1, none⟩ = some (.slice fO bi.length fP) := (af au.out 1).trans rfl
         have hfz275_0 := aK au.out 0
         have hfz275_1 := aK au.out 1
         go_wp2_with (first | ((with_reducible refine aW (f := 13) rfl ?_); refine cO (some 81) rfl rfl Tryd.func13 (by kernel_rfl) rfl #[.agg #[.bool t105, .slice fH bA.length fE], .agg #[.bool t109, .slice fO bi.length fP]] rfl qt ?_; (with_reducible refine (dB.calls gX t105 _ _ bA t109 _ _ bi t183 gm fV eB uZ _ ?aU ?aV ?bJ ?bK A133.out).mono ?_); (case aU => exact qs ((Kd.ak ay.out).2.2)); (case aV => exact (Kd.ak ay.out).2.1); (case bJ => exact qs ((Kd.ak ax.out).2.2)); (case bK => exact (Kd.ak ax.out).2.1); rintro e w276 ⟨v185, v189, rfl, ho0, ho1, hb⟩; refine ⟨_, rfl, ?_⟩; have dF := ae.mk (Kd.bz (Kd.aA (Kd.aA (Kd.aA ho0 (Kd.aY (qr ay))) (Kd.aY (qr ax))) (Kd.aY (qr aG))) (aN (qw HB))); have di := ae.mk (Kd.bz (Kd.aA (Kd.aA (Kd.aA ho1 (Kd.aY (qr ay))) (Kd.aY (qr ax))) (Kd.aY (qr aG))) (aN (qw HB))); replace ay := ae.mk (Kd.bG (Kd.gQ (Kd.gQ (Kd.mo (qr ay) hb) (Kd.az ho0)) (Kd.az ho1)) (fun _ h_ => h_.1)); replace ax := ae.mk (Kd.bG (Kd.gQ (Kd.gQ (Kd.mo (qr ax) hb) (Kd.az ho0)) (Kd.az ho1)) (fun _ h_ => h_.1)); replace aG := ae.mk (Kd.bG (Kd.gQ (Kd.gQ (Kd.mo (qr aG) hb) (Kd.az ho0)) (Kd.az ho1)) (fun _ h_ => h_.1)); replace ai := qbb ai hb; replace au := qbb au hb; replace aJ := qbb aJ hb; replace HB := ae.mk (av (qw HB) hb); (try clear hb); (try clear hb2); (try clear hk); (try clear hi); (try clear ho0); (try clear ho1)) | ((with_reducible refine bR (N := 7) rfl ?_); refine bS ?hg (N := 7) ?hd (cs := #[.bool false, .slice none 0 0]) (t := 25) ?hr ?_; (case hd => rfl); (case hg => rfl); (case hr => first | (go_simp; done) | (go_simp; rfl)); intro bW hg w277 hbox hb; replace ay := ae.mk (Kd.aI (qr ay) hb); replace ax := ae.mk (Kd.aI (qr ax) hb); replace aG := ae.mk (Kd.aI (qr aG) hb); replace dF := ae.mk (Kd.aI (qr dF) hb); replace di := ae.mk (Kd.aI (qr di) hb); have bI := ae.mk (hbox); have GW192 := qge HB hg; have ql := qge HB hg; replace HB := ae.mk (av (qw HB) hb); have iZ := qnl ai hg; have mU := qng ai hg; replace ai := qbb ai hb; have ja := qnl au hg; have mV := qng au hg; replace au := qbb au hb; have jb := qnl aJ hg; have mW := qng aJ hg; replace aJ := qbb aJ hb; clear hb hbox hg) | ((with_reducible refine bR (N := 8) rfl ?_); refine bS ?hg (N := 8) ?hd (cs := #[.bool false, .slice none 0 0]) (t := 25) ?hr ?_; (case hd => rfl); (case hg => rfl); (case hr => first | (go_simp; done) | (go_simp; rfl)); intro bX hg w278 hbox hb; replace ay := ae.mk (Kd.aI (qr ay) hb); replace ax := ae.mk (Kd.aI (qr ax) hb); replace aG := ae.mk (Kd.aI (qr aG) hb); replace dF := ae.mk (Kd.aI (qr dF) hb); replace di := ae.mk (Kd.aI (qr di) hb); have bQ := ae.mk (hbox); have GW193 := qge HB hg; have qm := qge HB hg; replace HB := ae.mk (av (qw HB) hb); have jc := qnl ai hg; have mX := qng ai hg; replace ai := qbb ai hb; have jd := qnl au hg; have mY := qng au hg; replace au := qbb au hb; have je := qnl aJ hg; have mZ := qng aJ hg; replace aJ := qbb aJ hb; have jf := qnl bI hg; have jg := qng bI hg; replace bI := qbb bI hb; clear hb hbox hg; have hnb279 := mU.out; have hnc279 := iZ.out; have hnb280 := mV.out; have hnc280 := ja.out; have hnb281 := mW.out; have hnc281 := jb.out; have hnb282 := jf.out; have hnc282 := jg.out; have hcz283_0 : w278.cell? ⟨bW, 0, none⟩ = some (.bool false) := (af bI.out 0).trans rfl; have hcz283_1 : w278.cell? ⟨bW, 1, none⟩ = some (.slice none 0 0) := (af bI.out 1).trans rfl; have hfz283_0 := aK bI.out 0; have hfz283_1 := aK bI.out 1; obtain ⟨Kl, Km, IU⟩ := Kd.bD dF.out; subst IU; have hnb285 := mX.out; have hnc285 := jc.out; have hnb286 := mY.out; have hnc286 := jd.out; have hnb287 := mZ.out; have hnc287 := je.out; have hcz288_0 : w278.cell? ⟨bX, 0, none⟩ = some (.bool false) := (af bQ.out 0).trans rfl; have hcz288_1 : w278.cell? ⟨bX, 1, none⟩ = some (.slice none 0 0) := (af bQ.out 1).trans rfl; have hfz288_0 := aK bQ.out 0; have hfz288_1 := aK bQ.out 1; obtain ⟨Kn, Ko, IV⟩ := Kd.bD di.out; subst IV; have hcz290_0 : w278.cell? ⟨cu, 0, none⟩ = some (.bool t109) := (af au.out 0).trans rfl; have hcz290_1 : w278.cell? ⟨cu, 1, none⟩ = some (.slice fO bi.length fP) := (af au.out 1).trans rfl; have hfz290_0 := aK au.out 0; have hfz290_1 := aK au.out 1))
         go_ret
         exact ⟨by first | rfl | (simp [errW_none, errW_some] <;> rfl) | (simp [*, errW_none, errW_some] <;> rfl), by repeat (first | (with_reducible first | exact HB.out | apply aM | apply aD | apply aH | refine aQ ?_ gB.out | refine aQ ?_ ib.out | refine aQ ?_ jB.out | refine aQ ?_ ql.out | refine aQ ?_ qm.out) | exact HB.out)⟩
 ·replace c5 := Bool.eq_false_iff.mpr c5
  subst c5
  have H1 : (some false) = some r := by rw [if_neg (show ¬ (false = true) by decide)] at H; exact H
  clear H
  have H := H1
  clear H1
  obtain rfl := Option.some.inj H
  go_enter Tryd.func3, Tryd.ntmps3
  go_wp2_with (first | ((with_reducible refine bR (N := 3) rfl ?_); refine bS ?hg (N := 3) ?hd (cs := #[.bool dJ, .slice gy cK.length c0_1]) (t := 25) ?hr ?_; (case hd => rfl); (case hg => rfl); (case hr => first | (go_simp; done) | (go_simp; rfl)); intro bM hg w291 hbox hb; have ai := ae.mk (hbox); have GW101 := qge HB hg; have gB := qge HB hg; replace HB := ae.mk (av (qw HB) hb); clear hb hbox hg) | ((with_reducible refine bR (N := 4) rfl ?_); refine bS ?hg (N := 4) ?hd (cs := #[.bool dX, .slice iq dY.length c1_1]) (t := 25) ?hr ?_; (case hd => rfl); (case hg => rfl); (case hr => first | (go_simp; done) | (go_simp; rfl)); intro cu hg w292 hbox hb; have au := ae.mk (hbox); have GW102 := qge HB hg; have ib := qge HB hg; replace HB := ae.mk (av (qw HB) hb); have eD := qnl ai hg; have eF := qng ai hg; replace ai := qbb ai hb; clear hb hbox hg) | ((with_reducible refine bR (N := 5) rfl ?_); refine bS ?hg (N := 5) ?hd (cs := #[.bool qZ, .slice uY pq.length c2_1]) (t := 25) ?hr ?_; (case hd => rfl); (case hg => rfl); (case hr => first | (go_simp; done) | (go_simp; rfl)); intro cB hg w293 hbox hb; have aJ := ae.mk (hbox); have GW103 := qge HB hg; have jB := qge HB hg; replace HB := ae.mk (av (qw HB) hb); have dm := qnl ai hg; have eZ := qng ai hg; replace ai := qbb ai hb; have dh := qnl au hg; have eX := qng au hg; replace au := qbb au hb; clear hb hbox hg) | ((with_reducible refine aW (f := 6) rfl ?_); refine cO (some 10) rfl rfl Tryd.func6 (by kernel_rfl) rfl #[] rfl qt ?_; (with_reducible refine (iD.calls k  false _ A4.out).mono ?_); rintro e w294 ⟨rfl, hb⟩; refine ⟨_, rfl, ?_⟩; replace ai := qbb ai hb; replace au := qbb au hb; replace aJ := qbb aJ hb; replace HB := ae.mk (av (qw HB) hb); (try clear hb); (try clear hb2); (try clear hk); (try clear hi)))
  go_ret
  exact ⟨by first | rfl | (simp [errW_none, errW_some] <;> rfl) | (simp [*, errW_none, errW_some] <;> rfl), by repeat (first | (with_reducible first | exact HB.out | apply aM | apply aD | apply aH | refine aQ ?_ gB.out | refine aQ ?_ ib.out | refine aQ ?_ jB.out) | exact HB.out)⟩
end Go.Proofs.YthfphdbebnkdpaaDoor.P
end
section
set_option linter.unusedVariables false
set_option linter.unusedSimpArgs false
namespace Go.Proofs.YthfphdbebnkdpaaDoor.Pn
open Go.Proofs.YthfphdbebnkdpaaDoor.P Go.Proofs.YthfphdbebnkdpaaDoorW.aZ Go.Proofs.YthfphdbebnkdpaaDoorW.bL Go.RowKit
theorem IW (x : Int) (h0 : -9223372036854775808 ≤ x) (h1 : x < 9223372036854775808) : Ev (fun k => jQ.f k x) (zb x, zl x) := by
  by_cases h : x < 0
  · obtain ⟨m, hm⟩ : ∃ m : Nat, -(x + 1) = (m : Int) := ⟨(-(x + 1)).toNat, by omega⟩
    have e : IntKind.u64.wrap (wrap64 (-(wrap64 (x + 1)))) = (m : Int) := by
      rw [kg (x := x + 1) (by omega) (by omega), hm, kg (by omega) (by omega)]; exact wraps_u64 _ (by omega) (by omega)
    have l1 : (dg m).length ≤ 2 := lc (L := 2) (by omega)
    have l2 : (dg 1).length ≤ 2 := lc (L := 2) (by decide)
    have hm1 := oC true (m + 1) (Nat.le_trans (pG _ _ 2 l1 l2) (by decide))
    rw [show sg true (m + 1) = x from by simp only [sg, if_true]; omega] at hm1
    have ho : Ev (fun k => jh.f k 1) (dg 1) := xm 1 (by decide)
    refine Ev.congr (f := fun k => (jh.f k (m : Int)).bind fun dK => ((jh.f k 1).bind fun t105 => ((dU.f k dK t105).bind fun jM => ((aX.f k true jM).bind fun kr => (some (kr.1, kr.2)))))) (fun k => ?_) ?_
    · rw [jQ.f, if_pos h, e]
    refine Ev.bind (xm m (by omega)) (Ev.bind ho (Ev.bind (qO m 1 (Nat.le_trans l1 (by decide)) (Nat.le_trans l2 (by decide))) (Ev.bind hm1 (Ev.now _))))
  · obtain ⟨m, hm⟩ : ∃ m : Nat, x = (m : Int) := ⟨x.toNat, by omega⟩
    have e : IntKind.u64.wrap x = (m : Int) := by rw [hm]; exact wraps_u64 _ (by omega) (by omega)
    have l1 : (dg m).length ≤ 2 := lc (L := 2) (by omega)
    have hm1 := oC false m (Nat.le_trans l1 (by decide))
    rw [show sg false m = x from by simp only [sg]; rw [if_neg (by decide)]; exact hm.symm] at hm1
    refine Ev.congr (f := fun k => (jh.f k (m : Int)).bind fun dK => ((aX.f k false dK).bind fun kr => (some (kr.1, kr.2)))) (fun k => ?_) ?_
    · rw [jQ.f, if_neg h, e]
    refine Ev.bind (xm m (by omega)) (Ev.bind hm1 (Ev.now _))
theorem IX : (⟨#[45, 52]⟩ : ByteArray).toList = ([45, 52] : List UInt8) := by decide +kernel
theorem IY : (⟨#[49]⟩ : ByteArray).toList = ([49] : List UInt8) := by decide +kernel
theorem Fu : gG.f 40 [4] = some ⟨#[52]⟩ := by kernel_rfl
theorem Fv : gG.f 40 [1] = some ⟨#[49]⟩ := by kernel_rfl
theorem De : Ev (fun k => iD.f k) true := by
  unfold iD.f
  refine Ev.bind (IW (-7) (by decide) (by decide)) (Ev.bind (IW 2 (by decide) (by decide)) ?_)
  obtain ⟨q, r, hf, he⟩ := zq (-7) 2 (by decide) (by exact Nat.le_trans (lc (L := 2) (by decide)) (by decide)) (by exact Nat.le_trans (lc (L := 2) (by decide)) (by decide))
  have h1 := hf.eq
  have h2 := hf.lt
  have h3 := hf.sign
  have h4 := hf.small
  obtain rfl : q = -4 := by omega
  obtain rfl : r = 1 := by omega
  refine Ev.bind he (Ev.pos rfl ?_)
  have e4 : zl (-4) = [4] := by unfold zl; rw [show (-4 : Int).natAbs = 4 from rfl, qx (by decide), show 4 / 4294967296 = 0 from rfl, iL]; rfl
  have e1 : zl 1 = [1] := by unfold zl; rw [show (1 : Int).natAbs = 1 from rfl, qx (by decide), show 1 / 4294967296 = 0 from rfl, iL]; rfl
  have p4 : Ev (fun k => gP.f k (zb (-4)) (zl (-4))) ⟨#[45, 52]⟩ := by
    rw [e4]
    refine Ev.congr (f := fun k => (gG.f k [4]).bind fun dK => (if 1 + dK.size ≤ 9223372036854775807 then (some ((⟨#[45]⟩ : ByteArray) ++ dK)) else (none))) (fun k => ?_) (Ev.bind (Ev.of (gG.mono _) Fu) (Ev.now' fun k => ?_))
    · rw [gP.f, if_pos (by decide)]
    · rw [if_pos (by decide)]; rfl
  have p1 : Ev (fun k => gP.f k (zb 1) (zl 1)) ⟨#[49]⟩ := by
    rw [e1]
    refine Ev.congr (f := fun k => (gG.f k [1]).bind fun dK => some dK) (fun k => ?_) (Ev.bind (Ev.of (gG.mono _) Fv) (Ev.now _))
    · rw [gP.f, if_neg (by decide)]
  refine Ev.bind p4 (Ev.pos IX (Ev.bind p1 (Ev.now' fun k => ?_)))
  rw [IY]; rfl
theorem BQ (z : Int) (h : (zl z).length ≤ 1000000) : Ev (fun k => aX.f k false (zl z)) (zb (z.natAbs : Int), zl (z.natAbs : Int)) := by
  have := oC false z.natAbs h
  rwa [show sg false z.natAbs = (z.natAbs : Int) from by simp [sg]] at this
theorem u6 (x y : Int) (L : Nat) (hx : (zl x).length ≤ L) (hy : (zl y).length ≤ L) : (zl (x + y)).length ≤ L + 1 :=
  Nat.le_trans (jr (by omega : (x + y).natAbs ≤ x.natAbs + y.natAbs)) (pG _ _ L hx hy)
theorem tH (x y : Int) : (zl (x * y)).length ≤ (zl x).length + (zl y).length := by
  unfold zl; rw [Int.natAbs_mul]; exact sH _ _
theorem Fw (sa : Bool) (a : List Int) (ha : ∀ x ∈ a, 0 ≤ x ∧ x < 18446744073709551616) (sb : Bool) (b : List Int) (hb : ∀ x ∈ b, 0 ≤ x ∧ x < 18446744073709551616) (sc : Bool) (c : List Int) (hc : ∀ x ∈ c, 0 ≤ x ∧ x < 18446744073709551616) :
    Ev (fun k => ag.f k sa a sb b sc c) true := by
  obtain ⟨x, lx, ex⟩ := wR sa a ha
  obtain ⟨y, ly, ey⟩ := wR sb b hb
  obtain ⟨z, lz, ez⟩ := wR sc c hc
  have up : ∀ {t : Int} {L M : Nat}, (zl t).length ≤ L → L ≤ M → (zl t).length ≤ M := fun h h' => Nat.le_trans h h'
  have lxy := u6 x y 20 lx ly
  have lyx := u6 y x 20 ly lx
  have lyz := u6 y z 20 ly lz
  have mxy : (zl (x * y)).length ≤ 40 := Nat.le_trans (tH x y) (by omega)
  have mzx : (zl (z * x)).length ≤ 40 := Nat.le_trans (tH z x) (by omega)
  have mxz : (zl (x * z)).length ≤ 40 := Nat.le_trans (tH x z) (by omega)
  have lxyz := u6 (x + y) z 21 lxy (up lz (by decide))
  have mxyz : (zl (x * y * z)).length ≤ 60 := Nat.le_trans (tH (x * y) z) (by omega)
  have mxs : (zl (x * (y + z))).length ≤ 41 := Nat.le_trans (tH x (y + z)) (by omega)
  have d1 := u6 (x + y) (-y) 21 lxy (by unfold zl; rw [Int.natAbs_neg]; exact up ly (by decide))
  unfold ag.f
  refine Ev.bind De (Ev.pos rfl ?_)
  refine Ev.bind ex (Ev.bind ey (Ev.bind ez ?_))
  refine Ev.bind (sM x y (up lx (by decide)) (up ly (by decide))) ?_
  refine Ev.bind (sM (x + y) z (up lxy (by decide)) (up lz (by decide))) ?_
  refine Ev.bind (sM y x (up ly (by decide)) (up lx (by decide))) ?_
  refine Ev.bind (sM z (y + x) (up lz (by decide)) (up lyx (by decide))) ?_
  refine Ev.bind (uX (show x + y + z = z + (y + x) by omega) (up lxyz (by decide))) (Ev.pos rfl ?_)
  refine Ev.bind (tV x y (up lx (by decide)) (up ly (by decide))) ?_
  refine Ev.bind (tV (x * y) z (up mxy (by decide)) (up lz (by decide))) ?_
  refine Ev.bind (tV z x (up lz (by decide)) (up lx (by decide))) ?_
  refine Ev.bind (tV y (z * x) (up ly (by decide)) (up mzx (by decide))) ?_
  refine Ev.bind (uX (show x * y * z = y * (z * x) by rw [Int.mul_comm x y, Int.mul_assoc, Int.mul_comm x z]) (up mxyz (by decide))) ?_
  have j1 : Ev (fun k => ag.j1 k false (zb x) (zl x) (zb y) (zl y)) true := by
    refine Ev.step (f := fun k => _) (fun k => (by rw [ag.j1, if_neg (by decide)])) ?_
    by_cases hy : y = 0
    · subst hy
      refine Ev.bind (yK x) (Ev.now' fun k => ?_)
      rw [if_neg (by decide)]
      have : zl 0 = [] := iL
      rw [this]; rfl
    · obtain ⟨q, r, hf, he⟩ := zq x y hy (up lx (by decide)) (up ly (by decide))
      have h1 := hf.eq
      have h2 := hf.lt
      have h3 := hf.sign
      have lr : (zl r).length ≤ 20 := Nat.le_trans (jr (Nat.le_of_lt h2)) ly
      have lq : (zl q).length ≤ 21 := Nat.le_trans (jr hf.small) (pG _ _ 20 lx (Nat.le_trans (lc (L := 1) (by decide)) (by decide)))
      have mqy : (zl (q * y)).length ≤ 41 := Nat.le_trans (tH q y) (by omega)
      have hc : (if (r.natAbs : Int) < (y.natAbs : Int) then (-1 : Int) else if (y.natAbs : Int) < (r.natAbs : Int) then 1 else 0) = -1 := if_pos (by omega)
      have cm := BH (r.natAbs : Int) (y.natAbs : Int) (show (dg _).length ≤ _ from by rw [Int.natAbs_natCast]; exact up lr (by decide)) (show (dg _).length ≤ _ from by rw [Int.natAbs_natCast]; exact up ly (by decide))
      rw [hc] at cm
      have fin : Ev (fun k => (aX.f k false (zl r)).bind fun kW => ((aX.f k false (zl y)).bind fun ky => ((dn.f k kW.1 kW.2 ky.1 ky.2).bind fun t212 => (some (decide (t212 < 0)))))) true :=
        Ev.bind (BQ r (up lr (by decide))) (Ev.bind (BQ y (up ly (by decide))) (Ev.bind cm (Ev.now' fun k => rfl)))
      refine Ev.bind he (Ev.pos rfl ?_)
      refine Ev.bind (tV q y (up lq (by decide)) (up ly (by decide))) ?_
      refine Ev.bind (sM (q * y) r (up mqy (by decide)) (up lr (by decide))) ?_
      refine Ev.bind (uX h1 (show (zl (q * y + r)).length ≤ _ by rw [h1]; exact up lx (by decide))) (Ev.pos rfl ?_)
      refine Ev.congr (fun k => by rw [wQ, Option.bind_some]) ?_
      by_cases hr : r = 0
      · rw [if_pos hr]
        exact Ev.pos rfl fin
      · rw [if_neg hr]
        refine Ev.neg (by split <;> decide) ?_
        refine Ev.congr (fun k => by rw [wQ, Option.bind_some]) ?_
        refine Ev.pos ?_ fin
        rw [if_neg hy]
        by_cases h4 : r < 0
        · rw [if_pos h4, if_pos ((h3 hr).1 h4)]
        · rw [if_neg h4, if_neg (fun h5 => h4 ((h3 hr).2 h5))]
  refine Ev.step (f := fun k => _) (fun k => (by rw [ag.j0, if_neg (by decide)])) ?_
  refine Ev.bind (sM y z (up ly (by decide)) (up lz (by decide))) ?_
  refine Ev.bind (tV x (y + z) (up lx (by decide)) (up lyz (by decide))) ?_
  refine Ev.bind (tV x y (up lx (by decide)) (up ly (by decide))) ?_
  refine Ev.bind (tV x z (up lx (by decide)) (up lz (by decide))) ?_
  refine Ev.bind (sM (x * y) (x * z) (up mxy (by decide)) (up mxz (by decide))) ?_
  refine Ev.bind (uX (Int.mul_add x y z) (up mxs (by decide))) (Ev.pos rfl ?_)
  refine Ev.bind (sM x y (up lx (by decide)) (up ly (by decide))) ?_
  refine Ev.bind (Gs (x + y) y (up lxy (by decide)) (up ly (by decide))) ?_
  refine Ev.bind (uX (show x + y - y = x by omega) (up (show (zl (x + y - y)).length ≤ 20 by rw [show x + y - y = x by omega]; exact lx) (by decide))) (Ev.pos rfl ?_)
  refine Ev.bind (BH x y (up lx (by decide)) (up ly (by decide))) ?_
  refine Ev.bind (BH y x (up ly (by decide)) (up lx (by decide))) ?_
  have e : ((if x < y then (-1 : Int) else if y < x then 1 else 0) != wrap64 (-(if y < x then (-1 : Int) else if x < y then 1 else 0))) = false := by
    by_cases h1 : x < y
    · rw [if_pos h1, if_neg (by omega), if_pos h1, kg (by decide) (by decide)]; decide
    · rw [if_neg h1]
      by_cases h2 : y < x
      · rw [if_pos h2, if_pos h2, kg (by decide) (by decide)]; decide
      · rw [if_neg h2, if_neg h2, if_neg h1, kg (by decide) (by decide)]; decide
  rw [e]
  exact j1
end Go.Proofs.YthfphdbebnkdpaaDoor.Pn
end
section
namespace Go.Proofs.YthfphdbebnkdpaaDoor.wholeRing
open Go.ChangeShapes Go.WideShapes Go.ChangeAt Go.RowKit Go.Joins
open Go.Proofs.YthfphdbebnkdpaaDoor.P Go.Proofs.YthfphdbebnkdpaaDoorW.aZ
set_option linter.unusedVariables false
theorem own : ownKnob Tryd.prog.godebug = none := by kernel_rfl
theorem laidOut : laidOutB Tryd.prog = true := by kernel_rfl
def IZ (w : World) (a : Option Addr) (len cap : Nat) (zs : List Int) : Prop :=
  (a = none ∧ len = 0 ∧ cap = 0 ∧ zs = []) ∨
  ∃ x, a = some x ∧ len ≤ cap ∧ cap ≤ maxLen ∧ zs.length = cap ∧ (∀ i, i < zs.length → w.cell? (x.add i) = some (.int .u64 (zs.getD i 0))) ∧ ∀ n ∈ zs, (Lit.int .u64 n).wf = true
set_option maxRecDepth 100000 in
theorem rX {H : Type} {enc : TypeId × Value → H} {W : World} {base : Nat} {v : Value} {d : DataW H} {p : List MemPlace} (hv : Value.okWide Tryd.prog W .any base 25 v) (h : DataW.Trod enc Tryd.prog W 0 (fun _ => true) true 25 v d p) :
    ∃ (b : Bool) (a : Option Addr) (cap : Nat) (l : List Int), v = .agg #[.bool b, .slice a l.length cap] ∧ Kd.C (Kd.int .u64) W a l.length l ∧ l.length ≤ cap ∧ ∀ x ∈ l, 0 ≤ x ∧ x < 18446744073709551616 := by
  obtain ⟨c0, c1, y0, y1, m, rfl, rfl, rfl, hy0, hy1⟩ := open_agg2 Tryd.underlying25 (by kernel_rfl) (by kernel_rfl) hv h
  obtain ⟨b, e0, rfl⟩ := DataW.trod_bool Tryd.underlying4 hy0
  obtain rfl : c0 = .bool b := by simpa using e0
  obtain ⟨a, len, cap, zs, hc, hw⟩ : ∃ a len cap zs, c1 = .slice a len cap ∧ IZ W a len cap zs := by
    rcases open_ints Tryd.underlying23 Tryd.underlying64 (by kernel_rfl) hy1 with ⟨hcs, _⟩ | ⟨x, l, c, zs, hcs, _, hl, hm, hz, _, hcell, hwz⟩
    · exact ⟨none, 0, 0, [], by simpa using hcs, .inl ⟨rfl, rfl, rfl, rfl⟩⟩
    · exact ⟨some x, l, c, zs, by simpa using hcs, .inr ⟨_, rfl, hl, hm, by simpa using hz, hcell, hwz⟩⟩
  subst hc
  obtain ⟨l, rfl, hr, hm, hw, hc⟩ := ji.Ef hw
  refine ⟨b, a, cap, l, rfl, Kd.rP (d := (0 : Int)) (h1 := fun _ => rfl) hr, hc, fun x hx => ?_⟩
  have := hw x hx
  simp [Lit.wf, IntKind.min, IntKind.max, IntKind.signed, IntKind.bits] at this
  omega
abbrev X (w : World) (_ : Array Value) : Prop := laidMetH Tryd.prog Laid.l2 w
set_option maxRecDepth 100000 in
theorem lifted (os : Os) (started : os.Started) (H : Type) (enc : TypeId × Value → H) :
    ReturnsInHanded {} Tryd.checked os 3 .any (fun w args => (Rows.wholeRingSpec.pre enc Tryd.prog Tryd.f3 [] false w args ∧ laidMetH Tryd.prog Laid.l2 w) ∧ sizedMet enc Tryd.prog Tryd.f3 (OpenSpec.ofChange Rows.wholeRingSpec) false w args)
      (Rows.wholeRingSpec.post enc Tryd.prog Tryd.f3 false true false false) := by
  refine returnsInHanded_of_change_and (C := Tryd.checked) (X := fun w _ => laidMetH Tryd.prog Laid.l2 w) (fun _ _ _ hh h => h.of_heap hh) own started (by kernel_rfl) Tryd.func3
    (ChangeSpec.witness_shaped (enc := enc) (C := Tryd.checked) (os := os) (X := fun w _ => laidMetH Tryd.prog Laid.l2 w) false (Laid.world os) #[.agg #[.bool false, .slice none 0 0], .agg #[.bool false, .slice none 0 0], .agg #[.bool false, .slice none 0 0]] 8 rfl (World.shaped_of_RefB (by kernel_rfl) (by kernel_rfl)) (by kernel_rfl) (by kernel_rfl) (by kernel_rfl) (Laid.I7 os _)) ?_
  intro W base args ds gs before hval0 hW _ _ hL _
  have hval : ∀ (j : Nat) t v, Tryd.f3.params[j]? = some t → args[j]? = some v → Value.okWide Tryd.prog W .any base t v := hval0
  have hW' := hW
  obtain ⟨p, q, hA0, hV, rfl, hfz, hnd⟩ := hW
  have hA : DataW.TrodAll enc Tryd.prog W 0 (fun _ => true) true Tryd.f3.params.toList args.toList ds p := hA0
  rw [Tryd.params3] at hA hval
  obtain ⟨v0, vs0, d0, ds0, p0, q0, hargs, rfl, rfl, h0, r0⟩ := trodAll_cons hA
  obtain ⟨v1, vs1, d1, ds1, p1, q1, rfl, rfl, rfl, h1, r1⟩ := trodAll_cons r0
  obtain ⟨v2, vs2, d2, ds2, p2, q2, rfl, rfl, rfl, h2, r2⟩ := trodAll_cons r1
  obtain ⟨rfl, rfl, rfl⟩ := trodAll_nil r2
  obtain rfl : args = #[v0, v1, v2] := by cases args; simp_all
  obtain ⟨rfl, rfl⟩ := trodVars_none hV
  have lt0 : ∀ x ∈ p0, x.block < W.heap.size := by obtain ⟨m, hm⟩ := h0; exact DataW.trod_lt m _ _ _ hm
  have lt1 : ∀ x ∈ p1, x.block < W.heap.size := by obtain ⟨m, hm⟩ := h1; exact DataW.trod_lt m _ _ _ hm
  have lt2 : ∀ x ∈ p2, x.block < W.heap.size := by obtain ⟨m, hm⟩ := h2; exact DataW.trod_lt m _ _ _ hm
  obtain ⟨b0, a0, c0, l0, e0, R0, C0, N0⟩ := rX (hval 0 25 v0 rfl rfl) h0
  obtain ⟨b1, a1, c1, l1, e1, R1, C1, N1⟩ := rX (hval 1 25 v1 rfl rfl) h1
  obtain ⟨b2, a2, c2, l2, e2, R2, C2, N2⟩ := rX (hval 2 25 v2 rfl rfl) h2
  clear hA0 hval0
  obtain ⟨k, hk⟩ := (Pn.Fw b0 l0 N0 b1 l1 N1 b2 l2 N2).rounds
  subst e0 e1 e2
  refine (ag.calls k b0 a0 c0 l0 b1 a1 c1 l1 b2 a2 c2 l2 true W R0 C0 R1 C1 R2 C2 hk).mono fun e W' ⟨he, bel⟩ => ?_
  subst he
  exact ⟨_, rfl, _, _, _, [], _, [], hW', trodAll_mk1 (shut_bool Tryd.underlying4 _), trodAll_cons_mk (Below.trod laidOut (by kernel_rfl) (of_decide_eq_true (by kernel_rfl)) h0 bel lt0) (trodAll_cons_mk (Below.trod laidOut (by kernel_rfl) (of_decide_eq_true (by kernel_rfl)) h1 bel lt1) (trodAll_cons_mk (Below.trod laidOut (by kernel_rfl) (of_decide_eq_true (by kernel_rfl)) h2 bel lt2) trodAll_mk0)), rfl, bel.frame _, fun h => by cases h⟩
theorem over : Rows.wholeRingRow.holds Tryd.pinned (OpenSpec.ofChange Rows.wholeRingSpec) :=
  OpenClaim.holds_of_wide 3 Tryd.f3 rfl rfl rfl rfl rfl rfl rfl ⟨rfl, rfl, rfl, rfl, rfl⟩ rfl rfl rfl rfl rfl (by kernel_rfl) Tryd.func3 (by kernel_rfl)
    (of_decide_eq_true (by kernel_rfl)) (by unfold Func.isWrapper; first | (rw [if_pos (by decide +kernel)]; kernel_rfl) | (rw [if_neg (by decide +kernel)]; exact ⟨rfl, rfl⟩))
    (fun os started H enc _ => lifted os started H enc)
end Go.Proofs.YthfphdbebnkdpaaDoor.wholeRing
end
section
namespace Go.Proofs.YthfphdbebnkdpaaDoor
open Go
theorem wholeRing_card : Rows.WholeRingCardSaid :=
  Claim7.holds_tied_plain_at .later [] [.data, .pinned] true Rows.wholeRingCard.stood.harness false
    wholeRing.over (fun _ h => by cases h) (by kernel_rfl) (fun _ h => by cases h) wholeRing_row_tie rfl ⟨rfl, rfl⟩ (by kernel_rfl) rfl
    (fun f fn hf hfn => by
      obtain rfl : f = 3 := (Option.some.inj ((show Tryd.prog.funcNamed "trivium/triviumlaw07.WholeRing" = some 3 by kernel_rfl).symm.trans hf)).symm
      obtain rfl : fn = Tryd.f3 := (Option.some.inj (Tryd.func3.symm.trans hfn)).symm
      exact ⟨by kernel_rfl, fun j t ht => by
        rw [Tryd.params3] at ht
        have h3 : t = 25 := by
          rcases j with _ | _ | _ | j
          · simpa using ht.symm
          · simpa using ht.symm
          · simpa using ht.symm
          · simp at ht
        subst h3
        exact (show Tryd.prog.wantsStandIn 25 = false by kernel_rfl)⟩)
    (by kernel_rfl)
end Go.Proofs.YthfphdbebnkdpaaDoor
end
