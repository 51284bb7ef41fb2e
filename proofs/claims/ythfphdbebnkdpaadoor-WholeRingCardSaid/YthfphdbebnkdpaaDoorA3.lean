/- Part 3 of a proof that was merged by a program. -/
import Derived.Below
import Derived.Deep.Draws
import Derived.Deep.AppendLies
import Derived.Maps.AppendAt
import Derived.OwnWalk
import Derived.Laws.BytesArg
import Derived.Laws.MakeOwn
import Derived.Laws.OwnMore
import Derived.Deep.OwnRows
import Derived.Tactics
import Derived.Lib.ConvBytes
import Derived.Laws.Slices
import Derived.WalkKit
import Derived.KernelRfl
import Derived.RowKit3
import Derived.Deep.LoopGhost
import Derived.Deep.QuietTactic
import Derived.BigQuiet
import Derived.WideLaws
import Derived.Deep.DeepCutAuto
import Derived.Deep.CutBlock
import Derived.Deep.RegionHeld3
import Derived.Laws.Rows
import Derived.Lib.AppendStr
import Derived.ArgAppend
import Derived.Laws.IdiomCopy
import Derived.RowKit
import Derived.OrdersHeld
import Derived.Laws.BitsLemmas
import Derived.Test.YthfphdbebnkdpaaDoorRows
import Derived.PinnedBridge
import Derived.Lib.LaidU8
import Derived.LaidHandle
import Derived.LaidLaws
import Derived.ProofKit
import Derived.Laws.StructEq
import Derived.Test.YthfphdbebnkdpaaDoorProg
import Derived.Laws.CopyOwn
import Derived.Lib.Builder
import Derived.Laws.Bits64
import Derived.Lib.Hide
import Derived.Shelf.Strings.Builder1
import Derived.Shelf.Strings.Builder2
import Derived.Shelf.Strings.OnBuilder
import Derived.Shelf.Strings.Trim
import Derived.Shelf.Small.Utf8
import Derived.Shelf.Small.Strs
import Derived.Shelf.Strings.BuilderF
import Derived.Shelf.Strings.BuilderK
import Derived.Shelf.Strings.Builder2Cap
import Derived.Shelf.Strings.Search1
import Derived.Shelf.Strings.Search2
import Derived.Shelf.Strings.Cut
import Derived.Shelf.LaysM
import Derived.Shelf.Strings.Shaped
import Derived.Shelf.Strings.Runes
import Derived.Shelf.Strings.AsciiSet
import Derived.Shelf.Unicode.DecodeSlow
import Derived.Shelf.Strings.BuilderCap
import Derived.OpenShut
import Derived.ShutString
import Derived.ChangeOld
import Derived.Carry
import Derived.SizedLaws
import Derived.Lib.SmallJoins
import Derived.Test.YthfphdbebnkdpaaDoorCards
import Derived.Test.YthfphdbebnkdpaaDoorTie
import Derived.SevenTiedAt
import Derived.Test.YthfphdbebnkdpaaDoorA0
import Derived.Test.YthfphdbebnkdpaaDoorA1
import Derived.Test.YthfphdbebnkdpaaDoorA2
section
namespace Go.Proofs
open Go.RowKit Go.Lib
open Go.Shelf
def Tryd.tY : Go.Shelf.Ren := ⟨fun | 169 => 66 | n => n, fun | 70 => 103 | 9 => 9 | 0 => 0 | 72 => 105 | 37 => 102 | 127 => 144 | 3 => 3 | 5 => 5 | n => n, fun | n => n⟩
theorem Tryd.CW : Go.Proofs.Lays.n169 Tryd.prog Tryd.tY := {
  mixed := by kernel_rfl
  f169 := Tryd.func66.trans (congrArg some (by kernel_rfl))
  t0 := Tryd.underlying0
  a0 := Tryd.isAgg0
  z0 := Tryd.sizeOf0
  v0 := Tryd.zeroValue0
  t3 := Tryd.underlying3
  a3 := Tryd.isAgg3
  z3 := Tryd.sizeOf3
  v3 := Tryd.zeroValue3
  t9 := Tryd.underlying9
  a9 := Tryd.isAgg9
  z9 := Tryd.sizeOf9
  v9 := Tryd.zeroValue9
  t37 := Tryd.underlying102
  a37 := Tryd.isAgg102
  z37 := Tryd.sizeOf102
  v37 := Tryd.zeroValue102
  t70 := Tryd.underlying103
  a70 := Tryd.isAgg103
  z70 := Tryd.sizeOf103
  v70 := Tryd.zeroValue103
  t72 := Tryd.underlying105
  a72 := Tryd.isAgg105
  z72 := Tryd.sizeOf105
  v72 := Tryd.zeroValue105
  t127 := Tryd.underlying144
  a127 := Tryd.isAgg144
  z127 := Tryd.sizeOf144
  v127 := Tryd.zeroValue144 }
theorem Tryd.sO : Builder.Extra Tryd.prog Tryd.tY := {
  sizeBuilder := by kernel_rfl
  liesBuilder := by kernel_rfl
  t5 := Tryd.underlying5
  a5 := Tryd.isAgg5
  z5 := Tryd.sizeOf5
  v5 := Tryd.zeroValue5
  infoByte := by kernel_rfl
  cellsByte := by kernel_rfl
  sizeByte := by kernel_rfl
  neB5 := by decide }
theorem Tryd.Builder_String_any (B b : Nat) (l : List UInt8) (w : World) (h : Lib.IsBuilder 105 5 B b (Lib.byteCells l) w) (hBw : B ≤ w.heap.size) :
    Calls Tryd.prog 66 #[.pointer (some ⟨b, 0, none⟩)] w fun e w' => e = .returned (.string ⟨l.toArray⟩) ∧ Below B w w' := Any.Builder_String_any Tryd.CW Tryd.sO B b l w h hBw
def Tryd.qV : Go.Shelf.Ren := ⟨fun | 156 => 45 | 165 => 64 | 166 => 65 | 169 => 66 | 240 => 96 | 241 => 97 | 276 => 126 | 277 => 127 | n => n, fun | 31 => 72 | 9 => 9 | 3 => 3 | 4 => 4 | 0 => 0 | 20 => 20 | 72 => 105 | 76 => 109 | 70 => 103 | 37 => 102 | 75 => 108 | 127 => 144 | 164 => 188 | 5 => 5 | 80 => 111 | n => n, fun | n => n⟩
theorem Tryd.CX : Go.Proofs.Lays.n156 Tryd.prog Tryd.qV := {
  mixed := by kernel_rfl
  f156 := Tryd.func45.trans (congrArg some (by kernel_rfl))
  f165 := Tryd.func64.trans (congrArg some (by kernel_rfl))
  f166 := Tryd.func65.trans (congrArg some (by kernel_rfl))
  f169 := Tryd.func66.trans (congrArg some (by kernel_rfl))
  f240 := Tryd.func96.trans (congrArg some (by kernel_rfl))
  f241 := Tryd.func97.trans (congrArg some (by kernel_rfl))
  f276 := Tryd.func126.trans (congrArg some (by kernel_rfl))
  f277 := Tryd.func127.trans (congrArg some (by kernel_rfl))
  t0 := Tryd.underlying0
  a0 := Tryd.isAgg0
  z0 := Tryd.sizeOf0
  v0 := Tryd.zeroValue0
  t3 := Tryd.underlying3
  a3 := Tryd.isAgg3
  z3 := Tryd.sizeOf3
  v3 := Tryd.zeroValue3
  t4 := Tryd.underlying4
  a4 := Tryd.isAgg4
  z4 := Tryd.sizeOf4
  v4 := Tryd.zeroValue4
  t9 := Tryd.underlying9
  a9 := Tryd.isAgg9
  z9 := Tryd.sizeOf9
  v9 := Tryd.zeroValue9
  t20 := Tryd.underlying20
  a20 := Tryd.isAgg20
  z20 := Tryd.sizeOf20
  v20 := Tryd.zeroValue20
  t31 := Tryd.underlying72
  a31 := Tryd.isAgg72
  z31 := Tryd.sizeOf72
  v31 := Tryd.zeroValue72
  t37 := Tryd.underlying102
  a37 := Tryd.isAgg102
  z37 := Tryd.sizeOf102
  v37 := Tryd.zeroValue102
  t70 := Tryd.underlying103
  a70 := Tryd.isAgg103
  z70 := Tryd.sizeOf103
  v70 := Tryd.zeroValue103
  t72 := Tryd.underlying105
  a72 := Tryd.isAgg105
  z72 := Tryd.sizeOf105
  v72 := Tryd.zeroValue105
  t75 := Tryd.underlying108
  a75 := Tryd.isAgg108
  z75 := Tryd.sizeOf108
  v75 := Tryd.zeroValue108
  t76 := Tryd.underlying109
  a76 := Tryd.isAgg109
  z76 := Tryd.sizeOf109
  v76 := Tryd.zeroValue109
  t127 := Tryd.underlying144
  a127 := Tryd.isAgg144
  z127 := Tryd.sizeOf144
  v127 := Tryd.zeroValue144
  t164 := Tryd.underlying188
  a164 := Tryd.isAgg188
  z164 := Tryd.sizeOf188
  v164 := Tryd.zeroValue188 }
theorem Tryd.sP : Builder.Extra Tryd.prog Tryd.qV := {
  sizeBuilder := by kernel_rfl
  liesBuilder := by kernel_rfl
  t5 := Tryd.underlying5
  a5 := Tryd.isAgg5
  z5 := Tryd.sizeOf5
  v5 := Tryd.zeroValue5
  infoByte := by kernel_rfl
  cellsByte := by kernel_rfl
  sizeByte := by kernel_rfl
  neB5 := by decide }
def Tryd.xI : Go.Shelf.Ren := ⟨fun | 161 => 117 | 231 => 144 | 227 => 145 | 233 => 146 | 235 => 147 | 228 => 161 | 197 => 162 | 151 => 163 | 260 => 174 | 152 => 175 | 137 => 134 | 119 => 178 | 224 => 172 | 225 => 171 | 217 => 155 | 266 => 166 | n => n, fun | 9 => 9 | 4 => 4 | 3 => 3 | 5 => 5 | 117 => 207 | 116 => 206 | 0 => 0 | 124 => 210 | 105 => 224 | 21 => 21 | 119 => 237 | 46 => 100 | 139 => 240 | 138 => 239 | n => n, fun | 3 => 4 | 4 => 5 | n => n⟩
theorem Tryd.CY : Go.Proofs.Lays.n161 Tryd.prog Tryd.xI := {
  mixed := by kernel_rfl
  f119 := Tryd.func178.trans (congrArg some (by kernel_rfl))
  f137 := Tryd.func134.trans (congrArg some (by kernel_rfl))
  f151 := Tryd.func163.trans (congrArg some (by kernel_rfl))
  f152 := Tryd.func175.trans (congrArg some (by kernel_rfl))
  f161 := Tryd.func117.trans (congrArg some (by kernel_rfl))
  f197 := Tryd.func162.trans (congrArg some (by kernel_rfl))
  f217 := Tryd.func155.trans (congrArg some (by kernel_rfl))
  f224 := Tryd.func172.trans (congrArg some (by kernel_rfl))
  f225 := Tryd.func171.trans (congrArg some (by kernel_rfl))
  f227 := Tryd.func145.trans (congrArg some (by kernel_rfl))
  f228 := Tryd.func161.trans (congrArg some (by kernel_rfl))
  f231 := Tryd.func144.trans (congrArg some (by kernel_rfl))
  f233 := Tryd.func146.trans (congrArg some (by kernel_rfl))
  f235 := Tryd.func147.trans (congrArg some (by kernel_rfl))
  f260 := Tryd.func174.trans (congrArg some (by kernel_rfl))
  f266 := Tryd.func166.trans (congrArg some (by kernel_rfl))
  t0 := Tryd.underlying0
  a0 := Tryd.isAgg0
  z0 := Tryd.sizeOf0
  v0 := Tryd.zeroValue0
  t3 := Tryd.underlying3
  a3 := Tryd.isAgg3
  z3 := Tryd.sizeOf3
  v3 := Tryd.zeroValue3
  t4 := Tryd.underlying4
  a4 := Tryd.isAgg4
  z4 := Tryd.sizeOf4
  v4 := Tryd.zeroValue4
  t5 := Tryd.underlying5
  a5 := Tryd.isAgg5
  z5 := Tryd.sizeOf5
  v5 := Tryd.zeroValue5
  t9 := Tryd.underlying9
  a9 := Tryd.isAgg9
  z9 := Tryd.sizeOf9
  v9 := Tryd.zeroValue9
  t21 := Tryd.underlying21
  a21 := Tryd.isAgg21
  z21 := Tryd.sizeOf21
  v21 := Tryd.zeroValue21
  t46 := Tryd.underlying100
  a46 := Tryd.isAgg100
  z46 := Tryd.sizeOf100
  v46 := Tryd.zeroValue100
  t105 := Tryd.underlying224
  a105 := Tryd.isAgg224
  z105 := Tryd.sizeOf224
  v105 := Tryd.zeroValue224
  t116 := Tryd.underlying206
  a116 := Tryd.isAgg206
  z116 := Tryd.sizeOf206
  t117 := Tryd.underlying207
  a117 := Tryd.isAgg207
  z117 := Tryd.sizeOf207
  v117 := Tryd.zeroValue207
  t119 := Tryd.underlying237
  a119 := Tryd.isAgg237
  z119 := Tryd.sizeOf237
  t124 := Tryd.underlying210
  a124 := Tryd.isAgg210
  z124 := Tryd.sizeOf210
  v124 := Tryd.zeroValue210
  t138 := Tryd.underlying239
  a138 := Tryd.isAgg239
  z138 := Tryd.sizeOf239
  v138 := Tryd.zeroValue239
  t139 := Tryd.underlying240
  a139 := Tryd.isAgg240
  z139 := Tryd.sizeOf240
  v139 := Tryd.zeroValue240
  g3 := by kernel_rfl
  g4 := by kernel_rfl }
theorem Tryd.strings_TrimLeft_one (s : ByteArray) (c : UInt8) (hc : c.toNat < 128) (w : World) :
    Calls Tryd.prog 117 #[.string s, .string ⟨#[c]⟩] w fun e w' => e = .returned (.string ⟨(Lib.trimLeftB s.data.toList c).toArray⟩) ∧ w' = w := Any.strings_TrimLeft_one Tryd.CY s c hc w
theorem Tryd.Builder_WriteString (B b : Nat) (bs : List Value) (s : ByteArray) (w : World) (h : Lib.IsBuilder 105 5 B b bs w) (hlen : bs.length + s.size ≤ 140737488355328) (hBw : B ≤ w.heap.size) :
    Calls Tryd.prog 65 #[.pointer (some ⟨b, 0, none⟩), .string s] w fun e w' => e = .returned (.tuple #[.int .i64 s.size, .nilIface]) ∧ (Lib.BuilderAt 105 5 B b (.pointer (some ⟨b, 0, none⟩)) (bs ++ Lib.strCells s) w' ∧ Below B w w') := Any.Builder_WriteString (ρ := Tryd.qV) { Tryd.CX with } Tryd.sP B b bs s w h hlen hBw
end Go.Proofs
end
section
namespace Go.Proofs.YthfphdbebnkdpaaDoor.P
open Go.Proofs.YthfphdbebnkdpaaDoorV Go.RowKit Go.Proofs.YthfphdbebnkdpaaDoorW.aZ Go.Proofs.YthfphdbebnkdpaaDoorW.bL Go.Proofs.YthfphdbebnkdpaaDoorW.dC
attribute [local go_sem] dZ d9 fA fB dH dI ed ek
set_option linter.unusedVariables false
set_option linter.unusedSimpArgs false
theorem fD.CZ : (Tryd.prog.info? 9).map (fun i => (i.zero, i.size, i.bytes)) = some (some (.string ⟨#[]⟩), 1, 16) := by kernel_rfl
def oL (ps : List ByteArray) : List UInt8 := (ps.reverse.map (fun b => b.data.toList)).flatten
theorem wu (x : ByteArray) (l : List ByteArray) : oL (x :: l) = oL l ++ x.data.toList := by simp [oL]
theorem wS (l : List ByteArray) : ∀ n, (oL (l.drop n)).length ≤ (oL l).length := by
 induction l with
 | nil => intro n; simp
 | cons x l ih =>
  intro n
  cases n with
  | zero => exact Nat.le_refl _
  | succ n => rw [List.drop_succ_cons, wu, List.length_append]; have := ih n; omega
theorem Ad (l : List ByteArray) (i : Nat) (j : Int) (h : i < l.length) (hj : j = ((l.length - 1 - i : Nat) : Int)) :
  oL (l.drop (l.length - (i + 1))) = oL (l.drop (l.length - i)) ++ (vo ByteArray.empty l j).data.toList := by
 subst hj
 have h1 : l.length - (i + 1) = l.length - 1 - i := by omega
 have h2 : l.length - 1 - i < l.length := by omega
 rw [h1, List.drop_eq_getElem_cons h2, wu, show l.length - 1 - i + 1 = l.length - i by omega]
 simp [vo, List.getElem?_eq_getElem h2]
def fD.tail (ps : List ByteArray) : Option (ByteArray × Int) :=
 if (oL ps).length ≤ 140737488355328 then some (if Lib.trimLeftB (oL ps) 48 = [] then (⟨#[48]⟩ : ByteArray) else (⟨(Lib.trimLeftB (oL ps) 48).toArray⟩ : ByteArray), 0) else none
def fD.l0 : Nat → Int → Int → Int → List ByteArray → List Int → Option (ByteArray × Int)
 | 0, _, _, _, _, _ => none
 | k + 1, x1, x7, x8, x9, x10 => if (x10.length : Int) > 0 then ((df.f k x10 x7).bind fun nZ => ((dV.f k nZ.2.1 x1 x8).bind fun eT => (if x9.length < 8796093022208 then (fD.l0 k x1 x7 x8 (x9 ++ [eT]) nZ.1) else (none)))) else fD.tail x9
def fD.f (k : Nat) (l0 : List Int) (a1 : Int) : Option (ByteArray × Int) := (mP.f a1).bind fun fM => (if fM = 0 then ((eQ.f k a1).bind fun kU => ((dw.f k l0).bind fun gV => (fD.l0 k a1 kU.1 kU.2 ([] : List ByteArray) gV.1))) else (some ((⟨#[]⟩ : ByteArray), fM)))
theorem fD.mr : ∀ k, (∀ y0 y1 y2 y3 y4, LeO (fD.l0 k y0 y1 y2 y3 y4) (fD.l0 (k + 1) y0 y1 y2 y3 y4))
 | 0 => fun _ _ _ _ _ r h => by simp [fD.l0] at h
 | k + 1 => by
  have ih0 := fD.mr k
  ·intro y0 y1 y2 y3 y4
   unfold fD.l0
   repeat' first
   | (with_reducible exact ih0 _ _ _ _ _)
   | (with_reducible exact eQ.mono _ _)
   | (with_reducible exact dV.mono _ _ _ _)
   | (with_reducible exact df.mono _ _ _)
   | (with_reducible exact dw.mono _ _)
   | (with_reducible exact LeO.refl _)
   | (with_reducible exact LeO.none _)
   | (with_reducible refine LeO.ite ?_ ?_)
   | (with_reducible refine LeO.bind ?_ (fun _ => ?_))
   | exact ih0 _ _ _ _ _
   | exact eQ.mono _ _
   | exact dV.mono _ _ _ _
   | exact df.mono _ _ _
   | exact dw.mono _ _
   | exact LeO.none _
   | refine LeO.ite ?_ ?_
   | refine LeO.bind ?_ (fun _ => ?_)
theorem fD.mono : ∀ a0 a1 k, LeO (fD.f k a0 a1) (fD.f (k + 1) a0 a1) := by
 intro a0 a1 k
 have ih0 := fD.mr k
 unfold fD.f
 repeat' first
   | (with_reducible exact ih0 _ _ _ _ _)
   | (with_reducible exact eQ.mono _ _)
   | (with_reducible exact dV.mono _ _ _ _)
   | (with_reducible exact df.mono _ _ _)
   | (with_reducible exact dw.mono _ _)
   | (with_reducible exact LeO.refl _)
   | (with_reducible exact LeO.none _)
   | (with_reducible refine LeO.ite ?_ ?_)
   | (with_reducible refine LeO.bind ?_ (fun _ => ?_))
   | exact ih0 _ _ _ _ _
   | exact eQ.mono _ _
   | exact dV.mono _ _ _ _
   | exact df.mono _ _ _
   | exact dw.mono _ _
   | exact LeO.none _
   | refine LeO.ite ?_ ?_
   | refine LeO.bind ?_ (fun _ => ?_)
set_option maxHeartbeats 8000000 in
set_option maxRecDepth 100000 in
theorem fD.calls (k : Nat) (A0 : Option Addr) (c0 : Nat) (l0 : List Int) (a1 : Int) (r1 : ByteArray) (r2 : Int) (w : World) (hr0 : Kd.C (Kd.int .u64) w A0 l0.length l0) (hc0 : l0.length ≤ c0) (h : fD.f k l0 a1 = some (r1, r2)) :
  Calls Tryd.prog 81 #[.slice A0 l0.length c0, .int .i64 a1] w fun e w' => e = .returned (.tuple #[.string r1, .int .i64 r2]) ∧ Below w.heap.size w w' := by
 have HR0 := ae.mk hr0
 have HC0 := ae.mk hc0
 clear hr0 hc0
 have HB := ae.mk (Below.refl w.heap.size w)
 have H : ((mP.f a1).bind fun fM => (if fM = 0 then ((eQ.f k a1).bind fun kU => ((dw.f k l0).bind fun gV => (fD.l0 k a1 kU.1 kU.2 ([] : List ByteArray) gV.1))) else (some ((⟨#[]⟩ : ByteArray), fM)))) = some (r1, r2) := h
 clear h
 replace H := Option.bind_eq_some_iff.mp H
 obtain ⟨fM, A30, H⟩ := H
 replace H : (if fM = 0 then ((eQ.f k a1).bind fun kU => ((dw.f k l0).bind fun gV => (fD.l0 k a1 kU.1 kU.2 ([] : List ByteArray) gV.1))) else (some ((⟨#[]⟩ : ByteArray), fM))) = some (r1, r2) := H
 have A3 := ae.mk A30
 clear A30
 by_cases c4 : fM = 0
 ·rw [if_pos c4] at H
  have ll : (fM == 0) = true := beq_iff_eq.mpr c4
  have pQ : (fM != 0) = false := bne_eq_false_iff_eq.mpr c4
  clear c4
  replace H := Option.bind_eq_some_iff.mp H
  obtain ⟨⟨dK, dR⟩, A50, H⟩ := H
  replace H : ((dw.f k l0).bind fun gV => (fD.l0 k a1 dK dR ([] : List ByteArray) gV.1)) = some (r1, r2) := H
  have A5 := ae.mk A50
  clear A50
  replace H := Option.bind_eq_some_iff.mp H
  obtain ⟨⟨fQ, t105⟩, A60, H⟩ := H
  replace H : (fD.l0 k a1 dK dR ([] : List ByteArray) fQ) = some (r1, r2) := H
  have A6 := ae.mk A60
  clear A60
  have H' := ae.mk H
  clear H
  go_enter Tryd.func81, Tryd.ntmps81
  go_wp2_with (first | ((with_reducible refine aW (f := 114) rfl ?_); refine cO (some 19) rfl rfl Tryd.func114 (by kernel_rfl) rfl #[.int .i64 a1] rfl qt ?_; (with_reducible refine (mP.calls a1 fM _ A3.out).mono ?_); rintro e w' ⟨rfl, ⟨nd, rfl⟩⟩; refine ⟨_, rfl, ?_⟩) | ((with_reducible refine aW (f := 115) rfl ?_); refine cO (some 25) rfl rfl Tryd.func115 (by kernel_rfl) rfl #[.int .i64 a1] rfl qt ?_; (with_reducible refine (eQ.calls k a1 dK dR _ A5.out).mono ?_); rintro e w' ⟨rfl, ⟨nd, rfl⟩⟩; refine ⟨_, rfl, ?_⟩) | ((with_reducible refine aW (f := 36) rfl ?_); refine cO (some 30) rfl rfl Tryd.func36 (by kernel_rfl) rfl #[.slice A0 l0.length c0] rfl qt ?_; (with_reducible refine (dw.calls k _ _ l0 fQ t105 _ ?aU ?aV A6.out).mono ?_); (case aU => exact qs (HR0.out)); (case aV => exact HC0.out); rintro e w7 ⟨v106, rfl, ho0, hb⟩; refine ⟨_, rfl, ?_⟩; have gF := ae.mk (Kd.bz ho0 (aN (qw HB))); replace HB := ae.mk (av (qw HB) hb); (try clear hb); (try clear hb2); (try clear hk); (try clear hi); (try clear ho0)))
  go_loopg [9, 10] k (fun kq v9 v10 w' => ∃ (fZ : List ByteArray) (jA : List Int), ae (fD.l0 kq a1 dK dR fZ jA = some (r1, r2)) ∧ ae (kq ≤ k) ∧ ae (Kd.R Kd.string 9 w' w.heap.size (fun _ => True) v9 fZ) ∧ ae (Kd.R (Kd.int .u64) 64 w' w.heap.size (fun _ => True) v10 jA) ∧ ae (Below w.heap.size w w'))
  case atStart => exact ⟨(([] : List ByteArray)), (fQ), H', ⟨Nat.le_refl _⟩, ⟨by first | exact Kd.pu _ _ _ _ _ | exact Kd.N_nil _ _ _ _ _ | exact Kd.V_nil _ _ _ _ _ | exact Kd.Q_nil _ _ _ _ _ | exact Kd.S_nil _ _ _ _ _⟩, ⟨by (with_reducible repeat (first | apply Kd.bu | apply Kd.bv | apply Kd.bg)); exact gF.out⟩, ⟨by repeat (first | (with_reducible first | exact HB.out | apply aM | apply aD | apply aH) | exact HB.out)⟩⟩
  case round =>
   clear H'
   try clear c1
   try clear p2
   try clear c3
   try clear c4
   try clear ll
   try clear pQ
   obtain ⟨fZ, jA, HA, HK1, jP, qW, HB⟩ := hrel
   cases gk with
   | zero => exact absurd HA.out (by simp [fD.l0])
   | succ k1 =>
    have H := HA.out
    clear HA
    simp only [fD.l0] at H
    by_cases c8 : (jA.length : Int) > 0
    ·rw [if_pos c8] at H
     have oZ : decide (0 < (jA.length : Int)) = true := decide_eq_true c8
     have zM : decide (0 < jA.length) = true := decide_eq_true (by omega)
     clear c8
     replace H := Option.bind_eq_some_iff.mp H
     obtain ⟨⟨jM, t109, bi⟩, A90, H⟩ := H
     replace H : ((dV.f k1 t109 a1 dR).bind fun eT => (if fZ.length < 8796093022208 then (fD.l0 k1 a1 dK dR (fZ ++ [eT]) jM) else (none))) = some (r1, r2) := H
     have A9 := ae.mk A90
     clear A90
     replace H := Option.bind_eq_some_iff.mp H
     obtain ⟨eT, A100, H⟩ := H
     replace H : (if fZ.length < 8796093022208 then (fD.l0 k1 a1 dK dR (fZ ++ [eT]) jM) else (none)) = some (r1, r2) := H
     have A10 := ae.mk A100
     clear A100
     by_cases c11 : fZ.length < 8796093022208
     ·rw [if_pos c11] at H
      have LMc11 := ae.mk c11
      clear c11
      obtain ⟨y114, hy114⟩ : ∃ y_ : List ByteArray, y_ = (fZ ++ [eT]) := ⟨_, rfl⟩
      replace H : (fD.l0 k1 a1 dK dR y114 jM) = some (r1, r2) := by first | (rw [hy114]; with_reducible exact H) | (have H2_ := (Option.bind_some _ _).symm.trans H; rw [hy114]; with_reducible exact H2_) | (have H2_ := (Option.bind_some _ _).symm.trans H; with_reducible exact H2_) | with_reducible exact H | (rw [hy114]; exact H) | exact H
      have Ny114 := ae.mk hy114
      clear hy114
      have H' := ae.mk H
      clear H
      obtain ⟨yz, xu, wL⟩ := Kd.bD qW.out
      subst wL
      go_wp2_with (first | ((with_reducible refine aW (f := 59) rfl ?_); refine cO (some 39) rfl rfl Tryd.func59 (by kernel_rfl) rfl #[.slice yz jA.length xu, .int .u64 dK] rfl qt ?_; (with_reducible refine (df.calls k1 _ _ jA dK jM t109 bi _ ?aU ?aV A9.out).mono ?_); (case aU => exact qs ((Kd.ak qW.out).2.2)); (case aV => exact (Kd.ak qW.out).2.1); rintro e w13 ⟨v111, rfl, ho0, hb⟩; refine ⟨_, rfl, ?_⟩; replace jP := ae.mk (Kd.aI (qr jP) hb); have dQ := ae.mk (Kd.bz (Kd.aA ho0 (Kd.aY (qr qW))) (aN (qw HB))); replace qW := ae.mk (Kd.aj (qr qW) (Kd.az ho0) hb); replace HB := ae.mk (av (qw HB) hb); (try clear hb); (try clear hb2); (try clear hk); (try clear hi); (try clear ho0)) | ((with_reducible refine aW (f := 116) rfl ?_); refine cO (some 47) rfl rfl Tryd.func116 (by kernel_rfl) rfl #[.int .u64 t109, .int .i64 a1, .int .i64 dR] rfl qt ?_; (with_reducible refine (dV.calls k1 t109 a1 dR eT _ A10.out).mono ?_); rintro e w14 ⟨rfl, hb⟩; refine ⟨_, rfl, ?_⟩; replace jP := ae.mk (Kd.aI (qr jP) hb); replace qW := ae.mk (Kd.aI (qr qW) hb); replace dQ := ae.mk (Kd.aI (qr dQ) hb); replace HB := ae.mk (av (qw HB) hb); (try clear hb); (try clear hb2); (try clear hk); (try clear hi)) | ((with_reducible refine nH (b := .append) (xs := #[.tmp 43, .tmp 48]) rfl ?_); at_builtin; refine Kd.uF Kd.string (w0 := w) w.heap.size rfl (.tmp 43) (.tmp 48) 72 9 (.string ⟨#[]⟩) 16 rfl Tryd.underlying72 fD.CZ rfl (by decide) (by omega) u9 fZ eT [.string eT] (fun _ => True) (fun _ => False) rfl rfl ?aP (fun _ hk => hk.elim) ?aF ?aO ?aB ?aS ?aL ?_; (case aP => exact rfl); (case aB => exact (qw HB)); (case aF => exact (fun _ _ => trivial)); (case aO => exact (qr jP)); (case aS => exact (aN (qw HB))); (case aL => have := LMc11.out; omega); intro v115 w15 ho hb hg hat; rw [← Ny114.out] at ho; replace qW := ae.mk (Kd.yU (qr qW) (Kd.yT (qr jP)) (by decide) hg); replace dQ := ae.mk (Kd.yU (qr dQ) (Kd.yT (qr jP)) (by decide) hg); replace HB := ae.mk (hb); have eG := ae.mk (ho); clear jP; clear ho hb hg hat))
      go_roundg k1
      case measure => have := HK1.out; omega
      case rel => exact ⟨(y114), (jM), H', ⟨by have := HK1.out; omega⟩, ⟨by (with_reducible repeat (first | apply Kd.bu | apply Kd.bv | apply Kd.bg)); exact eG.out⟩, ⟨by (with_reducible repeat (first | apply Kd.bu | apply Kd.bv | apply Kd.bg)); exact Kd.bG dQ.out (fun _ hk => trivial)⟩, ⟨by repeat (first | (with_reducible first | exact HB.out | apply aM | apply aD | apply aH) | exact HB.out)⟩⟩
     ·rw [if_neg c11] at H
      exact absurd H (by simp)
    ·rw [if_neg c8] at H
     have oZ : decide (0 < (jA.length : Int)) = false := decide_eq_false c8
     have zM : decide (0 < jA.length) = false := decide_eq_false (by omega)
     clear c8
     simp only [fD.tail] at H
     by_cases cz : (oL fZ).length ≤ 140737488355328
     ·rw [if_pos cz] at H
      simp only [Option.some.injEq, Prod.mk.injEq] at H
      obtain ⟨h1, rfl⟩ := H
      have HR1 := Lib.hid h1
      have HCZ := Lib.hid cz
      clear h1 cz
      obtain ⟨Ao9, co9, eo9⟩ := Kd.bD jP.out
      subst eo9
      obtain ⟨BB, zP, wH⟩ := Kd.bD qW.out
      subst wH
      obtain ⟨wo, rfl⟩ : ∃ wo : World, wo = wr := ⟨_, rfl⟩
      obtain ⟨B, hBeq⟩ : ∃ B, B = wo.heap.size := ⟨_, rfl⟩
      obtain ⟨W1, hW1⟩ : ∃ W1, W1 = wo.alloc (.cells #[.pointer none, .slice none 0 0] 105) := ⟨_, rfl⟩
      have hbn := xh wo 105 5
      rw [← hW1, ← hBeq] at hbn
      have hbw : Below B wo W1 := by rw [hW1, hBeq]; exact aM (Below.refl _ _) _
      have hbb : Below w.heap.size w W1 := by rw [hW1]; exact aM HB.out _
      have hsz : B < W1.heap.size := by rw [hW1, hBeq]; simp
      have hC9 := (Kd.ak jP.out).2.2
      have HC9 := ae.mk hC9
      have HBN := Lib.hid hbn
      have HBW := Lib.hid hbw
      have HBB0 := Lib.hid hbb
      have HEQ := Lib.hid hBeq
      have HW1 := Lib.hid hW1
      clear hbn hbw hBeq hW1 hC9 hbb
      go_wp2
      rw [← HW1.out, ← HEQ.out]
      go_loopw [53] (fun v53 w' => ∃ i : Nat, i ≤ fZ.length ∧ v53 = .int .i64 i ∧ ae (Lib.IsBuilder 105 5 B B (Lib.byteCells (oL (fZ.drop (fZ.length - i)))) w') ∧ ae (Below B wo w')) (fun v53 _ => fZ.length - (intOf v53).toNat)
      case atStart => exact ⟨0, Nat.zero_le _, rfl, ⟨by simpa [oL, Lib.byteCells] using HBN.out⟩, ⟨HBW.out⟩⟩
      case round =>
       obtain ⟨i, hi, rfl, HBI, HBB⟩ := hrel
       have HSZ := Lib.hid (show B ≤ wr.heap.size by have := HBB.out.size; rw [← HEQ.out] at this; exact this)
       by_cases hlt : i < fZ.length
       ·have hC := Kd.dS HC9.out (show Below wo.heap.size wo wr by rw [← HEQ.out]; exact HBB.out)
        have hm := (Kd.ak jP.out).2.1
        have hmx := hC.2.1
        obtain ⟨j, hj⟩ : ∃ j : Int, wrap64 (wrap64 ((fZ.length : Int) - 1) - (i : Int)) = j := ⟨_, rfl⟩
        have hjv : j = ((fZ.length - 1 - i : Nat) : Int) := by rw [← hj]; unfold wrap64; omega
        have hjw : IntKind.i64.wrap (wrap64 ((fZ.length : Int) - 1) - (i : Int)) = j := (gT _).trans hj
        obtain ⟨ad, e, hx⟩ := Kd.zB hC j (by omega) (by omega)
        cases e
        have p0 : (0 ≤ j) = True := eq_true (by omega)
        have p1 : (j < (fZ.length : Int)) = True := eq_true (by omega)
        have d0 : decide ((i : Int) < (fZ.length : Int)) = true := decide_eq_true (by omega)
        have HST := Lib.hid (Ad fZ i j hlt hjv)
        have HLE := Lib.hid (show (Lib.byteCells (oL (fZ.drop (fZ.length - i)))).length + (vo ByteArray.empty fZ j).size ≤ 140737488355328 by
         have h1 := wS fZ (fZ.length - (i + 1))
         rw [HST.out, List.length_append] at h1
         have h2 := HCZ.out
         rw [Lib.byteCells_length]
         simp only [Array.length_toList] at h1
         exact Nat.le_trans h1 h2)
        have hwi : wrap64 ((i : Int) + 1) = (i : Int) + 1 := by unfold wrap64; omega
        have hwiw : IntKind.i64.wrap ((i : Int) + 1) = (i : Int) + 1 := (gT _).trans hwi
        have HMX := Lib.hid hmx
        clear hC hm hmx hjv
        go_wp2_with ((with_reducible refine aW (f := 65) rfl ?_); refine cO (some 64) rfl rfl Tryd.func65 (by kernel_rfl) rfl #[.pointer (some ⟨B, 0, none⟩), .string (vo ByteArray.empty fZ j)] rfl (by (try simp only [List.map_toArray, List.map_cons, List.map_nil]); first | done | rfl) ?_; (with_reducible refine (Tryd.Builder_WriteString B B _ (vo ByteArray.empty fZ j) _ HBI.out HLE.out HSZ.out).mono ?_); rintro e w20 ⟨rfl, hat, hb⟩; refine ⟨_, rfl, ?_⟩; have HAT := ae.mk hat; have HB20 := ae.mk hb; clear hat hb)
        go_roundw
        case rel =>
         have hmx := HMX.out
         refine ⟨i + 1, by omega, by go_num, ⟨?_⟩, ⟨HBB.out.trans HB20.out⟩⟩
         rw [HST.out]
         have h := HAT.out
         have h2 : ∀ (l : List UInt8) (s : ByteArray), Lib.byteCells (l ++ s.data.toList) = Lib.byteCells l ++ Lib.strCells s := fun l s => by simp [Lib.byteCells, Lib.strCells]
         rw [h2]
         exact .inr h
        case measure => have hmx := HMX.out; simp [intOf]; omega
       ·obtain rfl : i = fZ.length := by omega
        have d0 : decide (((fZ.length : Nat) : Int) < (fZ.length : Int)) = false := decide_eq_false (by omega)
        have d1 : decide (fZ.length < fZ.length) = false := decide_eq_false (by omega)
        clear hi hlt
        have hbi := HBI.out
        rw [Nat.sub_self, List.drop_zero] at hbi
        have HBI2 := Lib.hid hbi
        have HBB2 := Lib.hid (show Below w.heap.size w wr from av HB.out (by have h := HBB.out; rw [HEQ.out] at h; exact h))
        clear hbi
        by_cases ht : Lib.trimLeftB (oL fZ) 48 = []
        ·have hr := HR1.out
         rw [if_pos ht] at hr
         have HR2 := Lib.hid hr
         have HT := Lib.hid ht
         clear hr ht
         go_wp2_with (first
          | ((with_reducible refine aW (f := 66) rfl ?_); refine cO (some 66) rfl rfl Tryd.func66 (by kernel_rfl) rfl #[.pointer (some ⟨B, 0, none⟩)] rfl (by (try simp only [List.map_toArray, List.map_cons, List.map_nil]); first | done | rfl) ?_; (with_reducible refine (Tryd.Builder_String_any B B (oL fZ) _ HBI2.out HSZ.out).mono ?_); rintro e w21 ⟨rfl, hb⟩; refine ⟨_, rfl, ?_⟩; have HB21 := Lib.hid hb; clear hb)
          | ((with_reducible refine aW (f := 117) rfl ?_); refine cO (some 67) rfl rfl Tryd.func117 (by kernel_rfl) rfl #[.string ⟨(oL fZ).toArray⟩, .string ⟨#[48]⟩] rfl (by (try simp only [List.map_toArray, List.map_cons, List.map_nil]); first | done | rfl) ?_; (with_reducible refine (Tryd.strings_TrimLeft_one ⟨(oL fZ).toArray⟩ 48 (by decide) _).mono ?_); rintro e w22 ⟨rfl, rfl⟩; refine ⟨_, rfl, ?_⟩; simp only [HT.out]))
         go_ret2
         exact ⟨by rw [← HR2.out]; rfl, av HB.out (by rw [← HEQ.out]; exact HBB.out.trans HB21.out)⟩
        ·have hr := HR1.out
         rw [if_neg ht] at hr
         have HR2 := Lib.hid hr
         have hte : (Lib.trimLeftB (oL fZ) 48).isEmpty = false := by simp [ht]
         obtain ⟨T, hT⟩ : ∃ T, T = Lib.trimLeftB (oL fZ) 48 := ⟨_, rfl⟩
         rw [← hT] at hte ht
         have HT := Lib.hid hT
         clear hr hT
         go_wp2_with (first
          | ((with_reducible refine aW (f := 66) rfl ?_); refine cO (some 66) rfl rfl Tryd.func66 (by kernel_rfl) rfl #[.pointer (some ⟨B, 0, none⟩)] rfl (by (try simp only [List.map_toArray, List.map_cons, List.map_nil]); first | done | rfl) ?_; (with_reducible refine (Tryd.Builder_String_any B B (oL fZ) _ HBI2.out HSZ.out).mono ?_); rintro e w21 ⟨rfl, hb⟩; refine ⟨_, rfl, ?_⟩; have HB21 := Lib.hid hb; clear hb)
          | ((with_reducible refine aW (f := 117) rfl ?_); refine cO (some 67) rfl rfl Tryd.func117 (by kernel_rfl) rfl #[.string ⟨(oL fZ).toArray⟩, .string ⟨#[48]⟩] rfl (by (try simp only [List.map_toArray, List.map_cons, List.map_nil]); first | done | rfl) ?_; (with_reducible refine (Tryd.strings_TrimLeft_one ⟨(oL fZ).toArray⟩ 48 (by decide) _).mono ?_); rintro e w22 ⟨rfl, rfl⟩; refine ⟨_, rfl, ?_⟩; (try (have e_ := HT.out; simp only at e_)); rw [show Lib.trimLeftB (oL fZ) 48 = T from HT.out.symm]))
         go_ret2
         exact ⟨by rw [← HR2.out, ← HT.out]; rfl, av HB.out (by rw [← HEQ.out]; exact HBB.out.trans HB21.out)⟩
     ·rw [if_neg cz] at H
      exact absurd H (by simp)
 ·rw [if_neg c4] at H
  have ll : (fM == 0) = false := beq_eq_false_iff_ne.mpr c4
  have pQ : (fM != 0) = true := bne_iff_ne.mpr c4
  simp only [Option.some.injEq, Prod.mk.injEq] at H
  obtain ⟨rfl, rfl⟩ := H
  go_enter Tryd.func81, Tryd.ntmps81
  go_wp2_with (first | ((with_reducible refine aW (f := 114) rfl ?_); refine cO (some 19) rfl rfl Tryd.func114 (by kernel_rfl) rfl #[.int .i64 a1] rfl qt ?_; (with_reducible refine (mP.calls a1 fM _ A3.out).mono ?_); rintro e w' ⟨rfl, ⟨nd, rfl⟩⟩; refine ⟨_, rfl, ?_⟩))
  go_ret2
  exact ⟨by first | rfl | (simp [errW_none, errW_some] <;> rfl) | (simp [*, errW_none, errW_some] <;> rfl), by repeat (first | (with_reducible first | exact HB.out | apply aM | apply aD | apply aH) | exact HB.out)⟩
end Go.Proofs.YthfphdbebnkdpaaDoor.P
end
section
namespace Go.Proofs.YthfphdbebnkdpaaDoor.P
open Go.RowKit Go.Proofs.YthfphdbebnkdpaaDoorW.aZ Go.Proofs.YthfphdbebnkdpaaDoorW.bL Go.Proofs.YthfphdbebnkdpaaDoorW.dC
attribute [local go_sem] dZ d9 fA fB dH dI ed ek
set_option linter.unusedVariables false
set_option linter.unusedSimpArgs false
def gG.f (k : Nat) (l0 : List Int) : Option (ByteArray) := (fD.f k l0 10).bind fun qh => (some qh.1)
theorem gG.mono : ∀ a0 k, LeO (gG.f k a0) (gG.f (k + 1) a0) := by
 intro a0 k
 unfold gG.f
 repeat' first
   | (with_reducible exact fD.mono _ _ _)
   | (with_reducible exact LeO.refl _)
   | (with_reducible exact LeO.none _)
   | (with_reducible refine LeO.ite ?_ ?_)
   | (with_reducible refine LeO.bind ?_ (fun _ => ?_))
   | exact fD.mono _ _ _
   | exact LeO.none _
   | refine LeO.ite ?_ ?_
   | refine LeO.bind ?_ (fun _ => ?_)
set_option maxHeartbeats 8000000 in
set_option maxRecDepth 100000 in
theorem gG.calls (k : Nat) (A0 : Option Addr) (c0 : Nat) (l0 : List Int) (r : ByteArray) (w : World) (hr0 : Kd.C (Kd.int .u64) w A0 l0.length l0) (hc0 : l0.length ≤ c0) (h : gG.f k l0 = some r) :
  Calls Tryd.prog 52 #[.slice A0 l0.length c0] w fun e w' => e = .returned (.string r) ∧ Below w.heap.size w w' := by
 have HR0 := ae.mk hr0
 have HC0 := ae.mk hc0
 clear hr0 hc0
 have HB := ae.mk (Below.refl w.heap.size w)
 have H : ((fD.f k l0 10).bind fun qh => (some qh.1)) = some r := h
 clear h
 replace H := Option.bind_eq_some_iff.mp H
 obtain ⟨⟨fM, dK⟩, A20, H⟩ := H
 replace H : (some fM) = some r := H
 have A2 := ae.mk A20
 clear A20
 obtain rfl := Option.some.inj H
 go_enter Tryd.func52, Tryd.ntmps52
 go_wp2_with (first | ((with_reducible refine aW (f := 81) rfl ?_); refine cO (some 7) rfl rfl Tryd.func81 (by kernel_rfl) rfl #[.slice A0 l0.length c0, .int .i64 10] rfl qt ?_; (with_reducible refine (fD.calls k _ _ l0 10 fM dK _ ?aU ?aV A2.out).mono ?_); (case aU => exact qs (HR0.out)); (case aV => exact HC0.out); rintro e w3 ⟨rfl, hb⟩; refine ⟨_, rfl, ?_⟩; replace HB := ae.mk (av (qw HB) hb); (try clear hb); (try clear hb2); (try clear hk); (try clear hi)))
 go_ret
 exact ⟨by first | rfl | (simp [errW_none, errW_some] <;> rfl) | (simp [*, errW_none, errW_some] <;> rfl), by repeat (first | (with_reducible first | exact HB.out | apply aM | apply aD | apply aH) | exact HB.out)⟩
end Go.Proofs.YthfphdbebnkdpaaDoor.P
end
section
namespace Go.Proofs.YthfphdbebnkdpaaDoor.P
open Go.RowKit Go.Proofs.YthfphdbebnkdpaaDoorW.aZ Go.Proofs.YthfphdbebnkdpaaDoorW.bL Go.Proofs.YthfphdbebnkdpaaDoorW.dC
attribute [local go_sem] dZ d9 fA fB dH dI ed ek
set_option linter.unusedVariables false
set_option linter.unusedSimpArgs false
def gP.f (k : Nat) (dJ : Bool) (cK : List Int) : Option (ByteArray) := if dJ = true then ((gG.f k cK).bind fun dK => (if 1 + dK.size ≤ 9223372036854775807 then (some ((⟨#[45]⟩ : ByteArray) ++ dK)) else (none))) else ((gG.f k cK).bind fun dR => (some dR))
set_option maxHeartbeats 8000000 in
set_option maxRecDepth 100000 in
theorem gP.calls (k : Nat) (dJ : Bool) (gy : Option Addr) (c0_1 : Nat) (cK : List Int) (r : ByteArray) (w : World) (hr0_1 : Kd.C (Kd.int .u64) w gy cK.length cK) (hc0_1 : cK.length ≤ c0_1) (h : gP.f k dJ cK = some r) :
  Calls Tryd.prog 26 #[.agg #[.bool dJ, .slice gy cK.length c0_1]] w fun e w' => e = .returned (.string r) ∧ Below w.heap.size w w' := by
 have hu25 := Tryd.underlying25
 have ku := ae.mk hr0_1
 have kv := ae.mk hc0_1
 clear hr0_1 hc0_1
 have HB := ae.mk (Below.refl w.heap.size w)
 have H : (if dJ = true then ((gG.f k cK).bind fun dK => (if 1 + dK.size ≤ 9223372036854775807 then (some ((⟨#[45]⟩ : ByteArray) ++ dK)) else (none))) else ((gG.f k cK).bind fun dR => (some dR))) = some r := h
 clear h
 by_cases c2 : dJ = true
 ·subst c2
  have H1 : ((gG.f k cK).bind fun dK => (if 1 + dK.size ≤ 9223372036854775807 then (some ((⟨#[45]⟩ : ByteArray) ++ dK)) else (none))) = some r := by rw [if_pos rfl] at H; exact H
  clear H
  have H := H1
  clear H1
  replace H := Option.bind_eq_some_iff.mp H
  obtain ⟨dK, A30, H⟩ := H
  replace H : (if 1 + dK.size ≤ 9223372036854775807 then (some ((⟨#[45]⟩ : ByteArray) ++ dK)) else (none)) = some r := H
  have A3 := ae.mk A30
  clear A30
  by_cases c4 : 1 + dK.size ≤ 9223372036854775807
  ·rw [if_pos c4] at H
   have ll := eq_true c4
   have pQ : decide (1 + dK.size ≤ 9223372036854775807) = true := decide_eq_true c4
   try have Kt : (9223372036854775807 < 1 + dK.size) = False := eq_false (Nat.not_lt.2 c4)
   obtain rfl := Option.some.inj H
   go_enter Tryd.func26, Tryd.ntmps26
   go_wp2_with (first | ((with_reducible refine bR (N := 1) rfl ?_); refine bS ?hg (N := 1) ?hd (cs := #[.bool true, .slice gy cK.length c0_1]) (t := 25) ?hr ?_; (case hd => rfl); (case hg => rfl); (case hr => first | (go_simp; done) | (go_simp; rfl)); intro bM hg w5 hbox hb; have ai := ae.mk (hbox); have GW101 := qge HB hg; have gB := qge HB hg; replace HB := ae.mk (av (qw HB) hb); clear hb hbox hg; have hcz6_0 : w5.cell? ⟨bM, 0, none⟩ = some (.bool true) := (af ai.out 0).trans rfl; have hcz6_1 : w5.cell? ⟨bM, 1, none⟩ = some (.slice gy cK.length c0_1) := (af ai.out 1).trans rfl; have hfz6_0 := aK ai.out 0; have hfz6_1 := aK ai.out 1) | ((with_reducible refine aW (f := 52) rfl ?_); refine cO (some 7) rfl rfl Tryd.func52 (by kernel_rfl) rfl #[.slice gy cK.length c0_1] rfl qt ?_; (with_reducible refine (gG.calls k _ _ cK dK _ ?aU ?aV A3.out).mono ?_); (case aU => exact qs ((Kd.dS ku.out HB.out))); (case aV => exact kv.out); rintro e w7 ⟨rfl, hb⟩; refine ⟨_, rfl, ?_⟩; replace ai := qbb ai hb; replace HB := ae.mk (av (qw HB) hb); (try clear hb); (try clear hb2); (try clear hk); (try clear hi)))
   go_ret
   exact ⟨by first | rfl | (simp [errW_none, errW_some] <;> rfl) | (simp [*, errW_none, errW_some] <;> rfl), by repeat (first | (with_reducible first | exact HB.out | apply aM | apply aD | apply aH | refine aQ ?_ gB.out) | exact HB.out)⟩
  ·rw [if_neg c4] at H
   exact absurd H (by simp)
 ·replace c2 := Bool.eq_false_iff.mpr c2
  subst c2
  have H1 : ((gG.f k cK).bind fun dR => (some dR)) = some r := by rw [if_neg (show ¬ (false = true) by decide)] at H; exact H
  clear H
  have H := H1
  clear H1
  replace H := Option.bind_eq_some_iff.mp H
  obtain ⟨dR, A80, H⟩ := H
  replace H : (some dR) = some r := H
  have A8 := ae.mk A80
  clear A80
  obtain rfl := Option.some.inj H
  go_enter Tryd.func26, Tryd.ntmps26
  go_wp2_with (first | ((with_reducible refine bR (N := 1) rfl ?_); refine bS ?hg (N := 1) ?hd (cs := #[.bool false, .slice gy cK.length c0_1]) (t := 25) ?hr ?_; (case hd => rfl); (case hg => rfl); (case hr => first | (go_simp; done) | (go_simp; rfl)); intro bM hg w9 hbox hb; have ai := ae.mk (hbox); have GW101 := qge HB hg; have gB := qge HB hg; replace HB := ae.mk (av (qw HB) hb); clear hb hbox hg; have hcz10_0 : w9.cell? ⟨bM, 0, none⟩ = some (.bool false) := (af ai.out 0).trans rfl; have hcz10_1 : w9.cell? ⟨bM, 1, none⟩ = some (.slice gy cK.length c0_1) := (af ai.out 1).trans rfl; have hfz10_0 := aK ai.out 0; have hfz10_1 := aK ai.out 1) | ((with_reducible refine aW (f := 52) rfl ?_); refine cO (some 11) rfl rfl Tryd.func52 (by kernel_rfl) rfl #[.slice gy cK.length c0_1] rfl qt ?_; (with_reducible refine (gG.calls k _ _ cK dR _ ?aU ?aV A8.out).mono ?_); (case aU => exact qs ((Kd.dS ku.out HB.out))); (case aV => exact kv.out); rintro e w11 ⟨rfl, hb⟩; refine ⟨_, rfl, ?_⟩; replace ai := qbb ai hb; replace HB := ae.mk (av (qw HB) hb); (try clear hb); (try clear hb2); (try clear hk); (try clear hi)))
  go_ret
  exact ⟨by first | rfl | (simp [errW_none, errW_some] <;> rfl) | (simp [*, errW_none, errW_some] <;> rfl), by repeat (first | (with_reducible first | exact HB.out | apply aM | apply aD | apply aH | refine aQ ?_ gB.out) | exact HB.out)⟩
end Go.Proofs.YthfphdbebnkdpaaDoor.P
end
section
namespace Go.Proofs.YthfphdbebnkdpaaDoor.P
open Go.RowKit Go.Proofs.YthfphdbebnkdpaaDoorW.aZ Go.Proofs.YthfphdbebnkdpaaDoorW.bL Go.Proofs.YthfphdbebnkdpaaDoorW.dC
attribute [local go_sem] dZ d9 fA fB dH dI ed ek
set_option linter.unusedVariables false
set_option linter.unusedSimpArgs false
def iD.f (k : Nat)  : Option (Bool) := (jQ.f k (-7)).bind fun qh => ((jQ.f k 2).bind fun eH => ((dB.f k qh.1 qh.2 eH.1 eH.2).bind fun dM => (if dM.2.2.2.2 = 0 then ((gP.f k dM.1 dM.2.1).bind fun o9 => (if o9.toList = ([45, 52] : List UInt8) then ((gP.f k dM.2.2.1 dM.2.2.2.1).bind fun oM => (some (oM.toList == ([49] : List UInt8)))) else (some false))) else (some false))))
set_option maxHeartbeats 8000000 in
set_option maxRecDepth 100000 in
theorem iD.calls (k : Nat)  (r : Bool) (w : World) (h : iD.f k  = some r) :
  Calls Tryd.prog 6 #[] w fun e w' => e = .returned (.bool r) ∧ Below w.heap.size w w' := by
 have hu25 := Tryd.underlying25
 have HB := ae.mk (Below.refl w.heap.size w)
 have H : ((jQ.f k (-7)).bind fun qh => ((jQ.f k 2).bind fun eH => ((dB.f k qh.1 qh.2 eH.1 eH.2).bind fun dM => (if dM.2.2.2.2 = 0 then ((gP.f k dM.1 dM.2.1).bind fun o9 => (if o9.toList = ([45, 52] : List UInt8) then ((gP.f k dM.2.2.1 dM.2.2.2.1).bind fun oM => (some (oM.toList == ([49] : List UInt8)))) else (some false))) else (some false))))) = some r := h
 clear h
 replace H := Option.bind_eq_some_iff.mp H
 obtain ⟨⟨fM, dK⟩, A10, H⟩ := H
 replace H : ((jQ.f k 2).bind fun eH => ((dB.f k fM dK eH.1 eH.2).bind fun dM => (if dM.2.2.2.2 = 0 then ((gP.f k dM.1 dM.2.1).bind fun o9 => (if o9.toList = ([45, 52] : List UInt8) then ((gP.f k dM.2.2.1 dM.2.2.2.1).bind fun oM => (some (oM.toList == ([49] : List UInt8)))) else (some false))) else (some false)))) = some r := H
 have A1 := ae.mk A10
 clear A10
 replace H := Option.bind_eq_some_iff.mp H
 obtain ⟨⟨t105, bA⟩, A20, H⟩ := H
 replace H : ((dB.f k fM dK t105 bA).bind fun dM => (if dM.2.2.2.2 = 0 then ((gP.f k dM.1 dM.2.1).bind fun o9 => (if o9.toList = ([45, 52] : List UInt8) then ((gP.f k dM.2.2.1 dM.2.2.2.1).bind fun oM => (some (oM.toList == ([49] : List UInt8)))) else (some false))) else (some false))) = some r := H
 have A2 := ae.mk A20
 clear A20
 replace H := Option.bind_eq_some_iff.mp H
 obtain ⟨⟨t109, bi, eT, dD, t117⟩, A30, H⟩ := H
 replace H : (if t117 = 0 then ((gP.f k t109 bi).bind fun o9 => (if o9.toList = ([45, 52] : List UInt8) then ((gP.f k eT dD).bind fun oM => (some (oM.toList == ([49] : List UInt8)))) else (some false))) else (some false)) = some r := H
 have A3 := ae.mk A30
 clear A30
 by_cases c4 : t117 = 0
 ·rw [if_pos c4] at H
  have ll : (t117 == 0) = true := beq_iff_eq.mpr c4
  have pQ : (t117 != 0) = false := bne_eq_false_iff_eq.mpr c4
  clear c4
  replace H := Option.bind_eq_some_iff.mp H
  obtain ⟨o9, A50, H⟩ := H
  replace H : (if o9.toList = ([45, 52] : List UInt8) then ((gP.f k eT dD).bind fun oM => (some (oM.toList == ([49] : List UInt8)))) else (some false)) = some r := H
  have A5 := ae.mk A50
  clear A50
  by_cases c6 : o9.toList = ([45, 52] : List UInt8)
  ·rw [if_pos c6] at H
   have oJ : (o9.toList == ([45, 52] : List UInt8)) = true := beq_iff_eq.mpr c6
   have yj : (o9.toList != ([45, 52] : List UInt8)) = false := bne_eq_false_iff_eq.mpr c6
   clear c6
   replace H := Option.bind_eq_some_iff.mp H
   obtain ⟨oM, A70, H⟩ := H
   replace H : (some (oM.toList == ([49] : List UInt8))) = some r := H
   have A7 := ae.mk A70
   clear A70
   obtain rfl := Option.some.inj H
   go_enter Tryd.func6, Tryd.ntmps6
   go_wp2_with (first | ((with_reducible refine aW (f := 25) rfl ?_); refine cO (some 5) rfl rfl Tryd.func25 (by kernel_rfl) rfl #[.int .i64 (-7)] rfl qt ?_; (with_reducible refine (jQ.calls k (-7) fM dK _ A1.out).mono ?_); rintro e w8 ⟨v103, rfl, ho0, hb⟩; refine ⟨_, rfl, ?_⟩; have fG := ae.mk (Kd.bz ho0 (aN (qw HB))); replace HB := ae.mk (av (qw HB) hb); (try clear hb); (try clear hb2); (try clear hk); (try clear hi); (try clear ho0)) | ((with_reducible refine aW (f := 25) rfl ?_); refine cO (some 6) rfl rfl Tryd.func25 (by kernel_rfl) rfl #[.int .i64 2] rfl qt ?_; (with_reducible refine (jQ.calls k 2 t105 bA _ A2.out).mono ?_); rintro e w9 ⟨v107, rfl, ho0, hb⟩; refine ⟨_, rfl, ?_⟩; have dL := ae.mk (Kd.bz (Kd.aA ho0 (Kd.aY (qr fG))) (aN (qw HB))); replace fG := ae.mk (Kd.aj (qr fG) (Kd.az ho0) hb); replace HB := ae.mk (av (qw HB) hb); (try clear hb); (try clear hb2); (try clear hk); (try clear hi); (try clear ho0); obtain ⟨xD, wM, uw⟩ := Kd.bD fG.out; subst uw; obtain ⟨vS, vT, yH⟩ := Kd.bD dL.out; subst yH) | ((with_reducible refine aW (f := 13) rfl ?_); refine cO (some 7) rfl rfl Tryd.func13 (by kernel_rfl) rfl #[.agg #[.bool fM, .slice xD dK.length wM], .agg #[.bool t105, .slice vS bA.length vT]] rfl qt ?_; (with_reducible refine (dB.calls k fM _ _ dK t105 _ _ bA t109 bi eT dD t117 _ ?aU ?aV ?bJ ?bK A3.out).mono ?_); (case aU => exact qs ((Kd.ak fG.out).2.2)); (case aV => exact (Kd.ak fG.out).2.1); (case bJ => exact qs ((Kd.ak dL.out).2.2)); (case bK => exact (Kd.ak dL.out).2.1); rintro e w12 ⟨v111, v115, rfl, ho0, ho1, hb⟩; refine ⟨_, rfl, ?_⟩; have dQ := ae.mk (Kd.bz (Kd.aA (Kd.aA ho0 (Kd.aY (qr fG))) (Kd.aY (qr dL))) (aN (qw HB))); have eG := ae.mk (Kd.bz (Kd.aA (Kd.aA ho1 (Kd.aY (qr fG))) (Kd.aY (qr dL))) (aN (qw HB))); replace fG := ae.mk (Kd.bG (Kd.gQ (Kd.gQ (Kd.mo (qr fG) hb) (Kd.az ho0)) (Kd.az ho1)) (fun _ h_ => h_.1)); replace dL := ae.mk (Kd.bG (Kd.gQ (Kd.gQ (Kd.mo (qr dL) hb) (Kd.az ho0)) (Kd.az ho1)) (fun _ h_ => h_.1)); replace HB := ae.mk (av (qw HB) hb); (try clear hb); (try clear hb2); (try clear hk); (try clear hi); (try clear ho0); (try clear ho1)) | ((with_reducible refine bR (N := 1) rfl ?_); refine bS ?hg (N := 1) ?hd (cs := #[.bool false, .slice none 0 0]) (t := 25) ?hr ?_; (case hd => rfl); (case hg => rfl); (case hr => first | (go_simp; done) | (go_simp; rfl)); intro j5 hg w13 hbox hb; replace fG := ae.mk (Kd.aI (qr fG) hb); replace dL := ae.mk (Kd.aI (qr dL) hb); replace dQ := ae.mk (Kd.aI (qr dQ) hb); replace eG := ae.mk (Kd.aI (qr eG) hb); have iV := ae.mk (hbox); have GW118 := qge HB hg; have xJ := qge HB hg; replace HB := ae.mk (av (qw HB) hb); clear hb hbox hg) | ((with_reducible refine bR (N := 2) rfl ?_); refine bS ?hg (N := 2) ?hd (cs := #[.bool false, .slice none 0 0]) (t := 25) ?hr ?_; (case hd => rfl); (case hg => rfl); (case hr => first | (go_simp; done) | (go_simp; rfl)); intro jT hg w14 hbox hb; replace fG := ae.mk (Kd.aI (qr fG) hb); replace dL := ae.mk (Kd.aI (qr dL) hb); replace dQ := ae.mk (Kd.aI (qr dQ) hb); replace eG := ae.mk (Kd.aI (qr eG) hb); have jK := ae.mk (hbox); have GW119 := qge HB hg; have xK := qge HB hg; replace HB := ae.mk (av (qw HB) hb); have mQ := qnl iV hg; have mR := qng iV hg; replace iV := qbb iV hb; clear hb hbox hg; have hnb15 := mQ.out; have hnc15 := mR.out; have hcz16_0 : w14.cell? ⟨j5, 0, none⟩ = some (.bool false) := (af iV.out 0).trans rfl; have hcz16_1 : w14.cell? ⟨j5, 1, none⟩ = some (.slice none 0 0) := (af iV.out 1).trans rfl; have hfz16_0 := aK iV.out 0; have hfz16_1 := aK iV.out 1; obtain ⟨yL, uV, Aa⟩ := Kd.bD dQ.out; subst Aa; have hcz18_0 : w14.cell? ⟨jT, 0, none⟩ = some (.bool false) := (af jK.out 0).trans rfl; have hcz18_1 : w14.cell? ⟨jT, 1, none⟩ = some (.slice none 0 0) := (af jK.out 1).trans rfl; have hfz18_0 := aK jK.out 0; have hfz18_1 := aK jK.out 1; obtain ⟨fH, fE, tq⟩ := Kd.bD eG.out; subst tq) | (go_at_call 26; (with_reducible refine (gP.calls k t109 _ _ bi o9 _ ?aU ?aV A5.out).mono ?_); (case aU => refine (Kd.ak (e := 64) (base := w.heap.size) (ok := fun k_ => ((some k_ ≠ (.slice fH dD.length fE : Value).ownBlock ∧ some k_ ≠ (.slice xD dK.length wM : Value).ownBlock) ∧ some k_ ≠ (.slice vS bA.length vT : Value).ownBlock)) (n := bi.length) (c := uV) ?_).2.2; exact (by (with_reducible repeat (first | apply Kd.bu | apply Kd.bv | apply Kd.bg)); exact (Kd.bG (Kd.bG (Kd.bH (p := ⟨jT, 1, none⟩) (Kd.bH (p := ⟨jT, 0, none⟩) (Kd.bH (p := ⟨j5, 1, none⟩) (Kd.bH (p := ⟨j5, 0, none⟩) (Kd.bU (Kd.bU dQ.out iV.out (by decide)) jK.out (by decide)) (fun _ hk => hk.1.2) (.bool t109)) (fun _ hk => hk.1.2) (.slice yL bi.length uV)) (fun _ hk => hk.2) (.bool eT)) (fun _ hk => hk.2) (.slice fH dD.length fE)) (fun _ h_ => h_.1)) (fun _ h_ => h_.1)))); (case aV => exact (Kd.ak dQ.out).2.1); rintro e w20 ⟨rfl, hb⟩; replace fG := ae.mk (Kd.aI (by (with_reducible repeat (first | apply Kd.bu | apply Kd.bv | apply Kd.bg)); exact (Kd.bG (Kd.bG (Kd.bH (p := ⟨jT, 1, none⟩) (Kd.bH (p := ⟨jT, 0, none⟩) (Kd.bH (p := ⟨j5, 1, none⟩) (Kd.bH (p := ⟨j5, 0, none⟩) (Kd.bU (Kd.bU fG.out iV.out (by decide)) jK.out (by decide)) (fun _ hk => hk.1.2) (.bool t109)) (fun _ hk => hk.1.2) (.slice yL bi.length uV)) (fun _ hk => hk.2) (.bool eT)) (fun _ hk => hk.2) (.slice fH dD.length fE)) (fun _ h_ => h_.1)) (fun _ h_ => h_.1))) hb); replace dL := ae.mk (Kd.aI (by (with_reducible repeat (first | apply Kd.bu | apply Kd.bv | apply Kd.bg)); exact (Kd.bG (Kd.bG (Kd.bH (p := ⟨jT, 1, none⟩) (Kd.bH (p := ⟨jT, 0, none⟩) (Kd.bH (p := ⟨j5, 1, none⟩) (Kd.bH (p := ⟨j5, 0, none⟩) (Kd.bU (Kd.bU dL.out iV.out (by decide)) jK.out (by decide)) (fun _ hk => hk.1.2) (.bool t109)) (fun _ hk => hk.1.2) (.slice yL bi.length uV)) (fun _ hk => hk.2) (.bool eT)) (fun _ hk => hk.2) (.slice fH dD.length fE)) (fun _ h_ => h_.1)) (fun _ h_ => h_.1))) hb); replace dQ := ae.mk (Kd.aI (by (with_reducible repeat (first | apply Kd.bu | apply Kd.bv | apply Kd.bg)); exact (Kd.bG (Kd.bG (Kd.bH (p := ⟨jT, 1, none⟩) (Kd.bH (p := ⟨jT, 0, none⟩) (Kd.bH (p := ⟨j5, 1, none⟩) (Kd.bH (p := ⟨j5, 0, none⟩) (Kd.bU (Kd.bU dQ.out iV.out (by decide)) jK.out (by decide)) (fun _ hk => hk.1.2) (.bool t109)) (fun _ hk => hk.1.2) (.slice yL bi.length uV)) (fun _ hk => hk.2) (.bool eT)) (fun _ hk => hk.2) (.slice fH dD.length fE)) (fun _ h_ => h_.1)) (fun _ h_ => h_.1))) hb); replace eG := ae.mk (Kd.aI (by (with_reducible repeat (first | apply Kd.bu | apply Kd.bv | apply Kd.bg)); exact (Kd.bG (Kd.bG (Kd.bH (p := ⟨jT, 1, none⟩) (Kd.bH (p := ⟨jT, 0, none⟩) (Kd.bH (p := ⟨j5, 1, none⟩) (Kd.bH (p := ⟨j5, 0, none⟩) (Kd.bU (Kd.bU eG.out iV.out (by decide)) jK.out (by decide)) (fun _ hk => hk.1.2) (.bool t109)) (fun _ hk => hk.1.2) (.slice yL bi.length uV)) (fun _ hk => hk.2) (.bool eT)) (fun _ hk => hk.2) (.slice fH dD.length fE)) (fun _ h_ => h_.1)) (fun _ h_ => h_.1))) hb); replace iV := ae.mk (pW (g := j5) (o := .cells #[.bool t109, .slice yL bi.length uV] 25 (0, 0)) (by refine bN ?_ mQ.out _; refine bN ?_ mQ.out _; refine dG (cs := #[.bool t109, .slice none 0 0]) ?_ 1 _ rfl; refine dG (cs := #[.bool false, .slice none 0 0]) ?_ 0 _ rfl; (with_reducible repeat (first | refine bP ?_ _ | refine bf ?_ | refine bO ?_ _)); exact iV.out) hb); replace jK := ae.mk (pW (g := jT) (o := .cells #[.bool eT, .slice fH dD.length fE] 25 (0, 0)) (by refine dG (cs := #[.bool eT, .slice none 0 0]) ?_ 1 _ rfl; refine dG (cs := #[.bool false, .slice none 0 0]) ?_ 0 _ rfl; refine bN ?_ mR.out _; refine bN ?_ mR.out _; (with_reducible repeat (first | refine bP ?_ _ | refine bf ?_ | refine bO ?_ _)); exact jK.out) hb); replace HB := ae.mk (av (qw HB) hb); (try clear hb); (try clear hb2); (try clear hk); (try clear hi); have hcz21_0 : w20.cell? ⟨jT, 0, none⟩ = some (.bool eT) := (af jK.out 0).trans rfl; have hcz21_1 : w20.cell? ⟨jT, 1, none⟩ = some (.slice fH dD.length fE) := (af jK.out 1).trans rfl; have hfz21_0 := aK jK.out 0; have hfz21_1 := aK jK.out 1) | (go_at_call 26; (with_reducible refine (gP.calls k eT _ _ dD oM _ ?aU ?aV A7.out).mono ?_); (case aU => exact qs ((Kd.ak eG.out).2.2)); (case aV => exact (Kd.ak eG.out).2.1); rintro e w22 ⟨rfl, hb⟩; replace fG := ae.mk (Kd.aI (qr fG) hb); replace dL := ae.mk (Kd.aI (qr dL) hb); replace dQ := ae.mk (Kd.aI (qr dQ) hb); replace eG := ae.mk (Kd.aI (qr eG) hb); replace iV := qbb iV hb; replace jK := qbb jK hb; replace HB := ae.mk (av (qw HB) hb); (try clear hb); (try clear hb2); (try clear hk); (try clear hi)))
   go_ret
   exact ⟨by first | rfl | (simp [errW_none, errW_some] <;> rfl) | (simp [*, errW_none, errW_some] <;> rfl), by repeat (first | (with_reducible first | exact HB.out | apply aM | apply aD | apply aH | refine aQ ?_ xJ.out | refine aQ ?_ xK.out) | exact HB.out)⟩
  ·rw [if_neg c6] at H
   have oJ : (o9.toList == ([45, 52] : List UInt8)) = false := beq_eq_false_iff_ne.mpr c6
   have yj : (o9.toList != ([45, 52] : List UInt8)) = true := bne_iff_ne.mpr c6
   obtain rfl := Option.some.inj H
   go_enter Tryd.func6, Tryd.ntmps6
   go_wp2_with (first | ((with_reducible refine aW (f := 25) rfl ?_); refine cO (some 5) rfl rfl Tryd.func25 (by kernel_rfl) rfl #[.int .i64 (-7)] rfl qt ?_; (with_reducible refine (jQ.calls k (-7) fM dK _ A1.out).mono ?_); rintro e w23 ⟨v103, rfl, ho0, hb⟩; refine ⟨_, rfl, ?_⟩; have fG := ae.mk (Kd.bz ho0 (aN (qw HB))); replace HB := ae.mk (av (qw HB) hb); (try clear hb); (try clear hb2); (try clear hk); (try clear hi); (try clear ho0)) | ((with_reducible refine aW (f := 25) rfl ?_); refine cO (some 6) rfl rfl Tryd.func25 (by kernel_rfl) rfl #[.int .i64 2] rfl qt ?_; (with_reducible refine (jQ.calls k 2 t105 bA _ A2.out).mono ?_); rintro e w24 ⟨v107, rfl, ho0, hb⟩; refine ⟨_, rfl, ?_⟩; have dL := ae.mk (Kd.bz (Kd.aA ho0 (Kd.aY (qr fG))) (aN (qw HB))); replace fG := ae.mk (Kd.aj (qr fG) (Kd.az ho0) hb); replace HB := ae.mk (av (qw HB) hb); (try clear hb); (try clear hb2); (try clear hk); (try clear hi); (try clear ho0); obtain ⟨gN, gM, wJ⟩ := Kd.bD fG.out; subst wJ; obtain ⟨rF, qF, yn⟩ := Kd.bD dL.out; subst yn) | ((with_reducible refine aW (f := 13) rfl ?_); refine cO (some 7) rfl rfl Tryd.func13 (by kernel_rfl) rfl #[.agg #[.bool fM, .slice gN dK.length gM], .agg #[.bool t105, .slice rF bA.length qF]] rfl qt ?_; (with_reducible refine (dB.calls k fM _ _ dK t105 _ _ bA t109 bi eT dD t117 _ ?aU ?aV ?bJ ?bK A3.out).mono ?_); (case aU => exact qs ((Kd.ak fG.out).2.2)); (case aV => exact (Kd.ak fG.out).2.1); (case bJ => exact qs ((Kd.ak dL.out).2.2)); (case bK => exact (Kd.ak dL.out).2.1); rintro e w27 ⟨v111, v115, rfl, ho0, ho1, hb⟩; refine ⟨_, rfl, ?_⟩; have dQ := ae.mk (Kd.bz (Kd.aA (Kd.aA ho0 (Kd.aY (qr fG))) (Kd.aY (qr dL))) (aN (qw HB))); have eG := ae.mk (Kd.bz (Kd.aA (Kd.aA ho1 (Kd.aY (qr fG))) (Kd.aY (qr dL))) (aN (qw HB))); replace fG := ae.mk (Kd.bG (Kd.gQ (Kd.gQ (Kd.mo (qr fG) hb) (Kd.az ho0)) (Kd.az ho1)) (fun _ h_ => h_.1)); replace dL := ae.mk (Kd.bG (Kd.gQ (Kd.gQ (Kd.mo (qr dL) hb) (Kd.az ho0)) (Kd.az ho1)) (fun _ h_ => h_.1)); replace HB := ae.mk (av (qw HB) hb); (try clear hb); (try clear hb2); (try clear hk); (try clear hi); (try clear ho0); (try clear ho1)) | ((with_reducible refine bR (N := 1) rfl ?_); refine bS ?hg (N := 1) ?hd (cs := #[.bool false, .slice none 0 0]) (t := 25) ?hr ?_; (case hd => rfl); (case hg => rfl); (case hr => first | (go_simp; done) | (go_simp; rfl)); intro j5 hg w28 hbox hb; replace fG := ae.mk (Kd.aI (qr fG) hb); replace dL := ae.mk (Kd.aI (qr dL) hb); replace dQ := ae.mk (Kd.aI (qr dQ) hb); replace eG := ae.mk (Kd.aI (qr eG) hb); have iV := ae.mk (hbox); have GW118 := qge HB hg; have xJ := qge HB hg; replace HB := ae.mk (av (qw HB) hb); clear hb hbox hg) | ((with_reducible refine bR (N := 2) rfl ?_); refine bS ?hg (N := 2) ?hd (cs := #[.bool false, .slice none 0 0]) (t := 25) ?hr ?_; (case hd => rfl); (case hg => rfl); (case hr => first | (go_simp; done) | (go_simp; rfl)); intro jT hg w29 hbox hb; replace fG := ae.mk (Kd.aI (qr fG) hb); replace dL := ae.mk (Kd.aI (qr dL) hb); replace dQ := ae.mk (Kd.aI (qr dQ) hb); replace eG := ae.mk (Kd.aI (qr eG) hb); have jK := ae.mk (hbox); have GW119 := qge HB hg; have xK := qge HB hg; replace HB := ae.mk (av (qw HB) hb); have mQ := qnl iV hg; have mR := qng iV hg; replace iV := qbb iV hb; clear hb hbox hg; have hnb30 := mQ.out; have hnc30 := mR.out; have hcz31_0 : w29.cell? ⟨j5, 0, none⟩ = some (.bool false) := (af iV.out 0).trans rfl; have hcz31_1 : w29.cell? ⟨j5, 1, none⟩ = some (.slice none 0 0) := (af iV.out 1).trans rfl; have hfz31_0 := aK iV.out 0; have hfz31_1 := aK iV.out 1; obtain ⟨vR, uT, Ey⟩ := Kd.bD dQ.out; subst Ey; have hcz33_0 : w29.cell? ⟨jT, 0, none⟩ = some (.bool false) := (af jK.out 0).trans rfl; have hcz33_1 : w29.cell? ⟨jT, 1, none⟩ = some (.slice none 0 0) := (af jK.out 1).trans rfl; have hfz33_0 := aK jK.out 0; have hfz33_1 := aK jK.out 1; obtain ⟨nU, nV, yo⟩ := Kd.bD eG.out; subst yo) | (go_at_call 26; (with_reducible refine (gP.calls k t109 _ _ bi o9 _ ?aU ?aV A5.out).mono ?_); (case aU => refine (Kd.ak (e := 64) (base := w.heap.size) (ok := fun k_ => ((some k_ ≠ (.slice nU dD.length nV : Value).ownBlock ∧ some k_ ≠ (.slice gN dK.length gM : Value).ownBlock) ∧ some k_ ≠ (.slice rF bA.length qF : Value).ownBlock)) (n := bi.length) (c := uT) ?_).2.2; exact (by (with_reducible repeat (first | apply Kd.bu | apply Kd.bv | apply Kd.bg)); exact (Kd.bG (Kd.bG (Kd.bH (p := ⟨jT, 1, none⟩) (Kd.bH (p := ⟨jT, 0, none⟩) (Kd.bH (p := ⟨j5, 1, none⟩) (Kd.bH (p := ⟨j5, 0, none⟩) (Kd.bU (Kd.bU dQ.out iV.out (by decide)) jK.out (by decide)) (fun _ hk => hk.1.2) (.bool t109)) (fun _ hk => hk.1.2) (.slice vR bi.length uT)) (fun _ hk => hk.2) (.bool eT)) (fun _ hk => hk.2) (.slice nU dD.length nV)) (fun _ h_ => h_.1)) (fun _ h_ => h_.1)))); (case aV => exact (Kd.ak dQ.out).2.1); rintro e w35 ⟨rfl, hb⟩; replace fG := ae.mk (Kd.aI (by (with_reducible repeat (first | apply Kd.bu | apply Kd.bv | apply Kd.bg)); exact (Kd.bG (Kd.bG (Kd.bH (p := ⟨jT, 1, none⟩) (Kd.bH (p := ⟨jT, 0, none⟩) (Kd.bH (p := ⟨j5, 1, none⟩) (Kd.bH (p := ⟨j5, 0, none⟩) (Kd.bU (Kd.bU fG.out iV.out (by decide)) jK.out (by decide)) (fun _ hk => hk.1.2) (.bool t109)) (fun _ hk => hk.1.2) (.slice vR bi.length uT)) (fun _ hk => hk.2) (.bool eT)) (fun _ hk => hk.2) (.slice nU dD.length nV)) (fun _ h_ => h_.1)) (fun _ h_ => h_.1))) hb); replace dL := ae.mk (Kd.aI (by (with_reducible repeat (first | apply Kd.bu | apply Kd.bv | apply Kd.bg)); exact (Kd.bG (Kd.bG (Kd.bH (p := ⟨jT, 1, none⟩) (Kd.bH (p := ⟨jT, 0, none⟩) (Kd.bH (p := ⟨j5, 1, none⟩) (Kd.bH (p := ⟨j5, 0, none⟩) (Kd.bU (Kd.bU dL.out iV.out (by decide)) jK.out (by decide)) (fun _ hk => hk.1.2) (.bool t109)) (fun _ hk => hk.1.2) (.slice vR bi.length uT)) (fun _ hk => hk.2) (.bool eT)) (fun _ hk => hk.2) (.slice nU dD.length nV)) (fun _ h_ => h_.1)) (fun _ h_ => h_.1))) hb); replace dQ := ae.mk (Kd.aI (by (with_reducible repeat (first | apply Kd.bu | apply Kd.bv | apply Kd.bg)); exact (Kd.bG (Kd.bG (Kd.bH (p := ⟨jT, 1, none⟩) (Kd.bH (p := ⟨jT, 0, none⟩) (Kd.bH (p := ⟨j5, 1, none⟩) (Kd.bH (p := ⟨j5, 0, none⟩) (Kd.bU (Kd.bU dQ.out iV.out (by decide)) jK.out (by decide)) (fun _ hk => hk.1.2) (.bool t109)) (fun _ hk => hk.1.2) (.slice vR bi.length uT)) (fun _ hk => hk.2) (.bool eT)) (fun _ hk => hk.2) (.slice nU dD.length nV)) (fun _ h_ => h_.1)) (fun _ h_ => h_.1))) hb); replace eG := ae.mk (Kd.aI (by (with_reducible repeat (first | apply Kd.bu | apply Kd.bv | apply Kd.bg)); exact (Kd.bG (Kd.bG (Kd.bH (p := ⟨jT, 1, none⟩) (Kd.bH (p := ⟨jT, 0, none⟩) (Kd.bH (p := ⟨j5, 1, none⟩) (Kd.bH (p := ⟨j5, 0, none⟩) (Kd.bU (Kd.bU eG.out iV.out (by decide)) jK.out (by decide)) (fun _ hk => hk.1.2) (.bool t109)) (fun _ hk => hk.1.2) (.slice vR bi.length uT)) (fun _ hk => hk.2) (.bool eT)) (fun _ hk => hk.2) (.slice nU dD.length nV)) (fun _ h_ => h_.1)) (fun _ h_ => h_.1))) hb); replace iV := ae.mk (pW (g := j5) (o := .cells #[.bool t109, .slice vR bi.length uT] 25 (0, 0)) (by refine bN ?_ mQ.out _; refine bN ?_ mQ.out _; refine dG (cs := #[.bool t109, .slice none 0 0]) ?_ 1 _ rfl; refine dG (cs := #[.bool false, .slice none 0 0]) ?_ 0 _ rfl; (with_reducible repeat (first | refine bP ?_ _ | refine bf ?_ | refine bO ?_ _)); exact iV.out) hb); replace jK := ae.mk (pW (g := jT) (o := .cells #[.bool eT, .slice nU dD.length nV] 25 (0, 0)) (by refine dG (cs := #[.bool eT, .slice none 0 0]) ?_ 1 _ rfl; refine dG (cs := #[.bool false, .slice none 0 0]) ?_ 0 _ rfl; refine bN ?_ mR.out _; refine bN ?_ mR.out _; (with_reducible repeat (first | refine bP ?_ _ | refine bf ?_ | refine bO ?_ _)); exact jK.out) hb); replace HB := ae.mk (av (qw HB) hb); (try clear hb); (try clear hb2); (try clear hk); (try clear hi)))
   go_ret
   exact ⟨by first | rfl | (simp [errW_none, errW_some] <;> rfl) | (simp [*, errW_none, errW_some] <;> rfl), by repeat (first | (with_reducible first | exact HB.out | apply aM | apply aD | apply aH | refine aQ ?_ xJ.out | refine aQ ?_ xK.out) | exact HB.out)⟩
 ·rw [if_neg c4] at H
  have ll : (t117 == 0) = false := beq_eq_false_iff_ne.mpr c4
  have pQ : (t117 != 0) = true := bne_iff_ne.mpr c4
  obtain rfl := Option.some.inj H
  go_enter Tryd.func6, Tryd.ntmps6
  go_wp2_with (first | ((with_reducible refine aW (f := 25) rfl ?_); refine cO (some 5) rfl rfl Tryd.func25 (by kernel_rfl) rfl #[.int .i64 (-7)] rfl qt ?_; (with_reducible refine (jQ.calls k (-7) fM dK _ A1.out).mono ?_); rintro e w36 ⟨v103, rfl, ho0, hb⟩; refine ⟨_, rfl, ?_⟩; have fG := ae.mk (Kd.bz ho0 (aN (qw HB))); replace HB := ae.mk (av (qw HB) hb); (try clear hb); (try clear hb2); (try clear hk); (try clear hi); (try clear ho0)) | ((with_reducible refine aW (f := 25) rfl ?_); refine cO (some 6) rfl rfl Tryd.func25 (by kernel_rfl) rfl #[.int .i64 2] rfl qt ?_; (with_reducible refine (jQ.calls k 2 t105 bA _ A2.out).mono ?_); rintro e w37 ⟨v107, rfl, ho0, hb⟩; refine ⟨_, rfl, ?_⟩; have dL := ae.mk (Kd.bz (Kd.aA ho0 (Kd.aY (qr fG))) (aN (qw HB))); replace fG := ae.mk (Kd.aj (qr fG) (Kd.az ho0) hb); replace HB := ae.mk (av (qw HB) hb); (try clear hb); (try clear hb2); (try clear hk); (try clear hi); (try clear ho0); obtain ⟨JI, JJ, JK⟩ := Kd.bD fG.out; subst JK; obtain ⟨ut, uu, Es⟩ := Kd.bD dL.out; subst Es) | ((with_reducible refine aW (f := 13) rfl ?_); refine cO (some 7) rfl rfl Tryd.func13 (by kernel_rfl) rfl #[.agg #[.bool fM, .slice JI dK.length JJ], .agg #[.bool t105, .slice ut bA.length uu]] rfl qt ?_; (with_reducible refine (dB.calls k fM _ _ dK t105 _ _ bA t109 bi eT dD t117 _ ?aU ?aV ?bJ ?bK A3.out).mono ?_); (case aU => exact qs ((Kd.ak fG.out).2.2)); (case aV => exact (Kd.ak fG.out).2.1); (case bJ => exact qs ((Kd.ak dL.out).2.2)); (case bK => exact (Kd.ak dL.out).2.1); rintro e w40 ⟨v111, v115, rfl, ho0, ho1, hb⟩; refine ⟨_, rfl, ?_⟩; have dQ := ae.mk (Kd.bz (Kd.aA (Kd.aA ho0 (Kd.aY (qr fG))) (Kd.aY (qr dL))) (aN (qw HB))); have eG := ae.mk (Kd.bz (Kd.aA (Kd.aA ho1 (Kd.aY (qr fG))) (Kd.aY (qr dL))) (aN (qw HB))); replace fG := ae.mk (Kd.bG (Kd.gQ (Kd.gQ (Kd.mo (qr fG) hb) (Kd.az ho0)) (Kd.az ho1)) (fun _ h_ => h_.1)); replace dL := ae.mk (Kd.bG (Kd.gQ (Kd.gQ (Kd.mo (qr dL) hb) (Kd.az ho0)) (Kd.az ho1)) (fun _ h_ => h_.1)); replace HB := ae.mk (av (qw HB) hb); (try clear hb); (try clear hb2); (try clear hk); (try clear hi); (try clear ho0); (try clear ho1)) | ((with_reducible refine bR (N := 1) rfl ?_); refine bS ?hg (N := 1) ?hd (cs := #[.bool false, .slice none 0 0]) (t := 25) ?hr ?_; (case hd => rfl); (case hg => rfl); (case hr => first | (go_simp; done) | (go_simp; rfl)); intro j5 hg w41 hbox hb; replace fG := ae.mk (Kd.aI (qr fG) hb); replace dL := ae.mk (Kd.aI (qr dL) hb); replace dQ := ae.mk (Kd.aI (qr dQ) hb); replace eG := ae.mk (Kd.aI (qr eG) hb); have iV := ae.mk (hbox); have GW118 := qge HB hg; have xJ := qge HB hg; replace HB := ae.mk (av (qw HB) hb); clear hb hbox hg) | ((with_reducible refine bR (N := 2) rfl ?_); refine bS ?hg (N := 2) ?hd (cs := #[.bool false, .slice none 0 0]) (t := 25) ?hr ?_; (case hd => rfl); (case hg => rfl); (case hr => first | (go_simp; done) | (go_simp; rfl)); intro jT hg w42 hbox hb; replace fG := ae.mk (Kd.aI (qr fG) hb); replace dL := ae.mk (Kd.aI (qr dL) hb); replace dQ := ae.mk (Kd.aI (qr dQ) hb); replace eG := ae.mk (Kd.aI (qr eG) hb); have jK := ae.mk (hbox); have GW119 := qge HB hg; have xK := qge HB hg; replace HB := ae.mk (av (qw HB) hb); have mQ := qnl iV hg; have mR := qng iV hg; replace iV := qbb iV hb; clear hb hbox hg; have hnb43 := mQ.out; have hnc43 := mR.out; have hcz44_0 : w42.cell? ⟨j5, 0, none⟩ = some (.bool false) := (af iV.out 0).trans rfl; have hcz44_1 : w42.cell? ⟨j5, 1, none⟩ = some (.slice none 0 0) := (af iV.out 1).trans rfl; have hfz44_0 := aK iV.out 0; have hfz44_1 := aK iV.out 1; obtain ⟨Ku, Kv, JL⟩ := Kd.bD dQ.out; subst JL; have hcz46_0 : w42.cell? ⟨jT, 0, none⟩ = some (.bool false) := (af jK.out 0).trans rfl; have hcz46_1 : w42.cell? ⟨jT, 1, none⟩ = some (.slice none 0 0) := (af jK.out 1).trans rfl; have hfz46_0 := aK jK.out 0; have hfz46_1 := aK jK.out 1; obtain ⟨GD, GG, C8⟩ := Kd.bD eG.out; subst C8))
  go_ret
  exact ⟨by first | rfl | (simp [errW_none, errW_some] <;> rfl) | (simp [*, errW_none, errW_some] <;> rfl), by repeat (first | (with_reducible first | exact HB.out | apply aM | apply aD | apply aH | refine aQ ?_ xJ.out | refine aQ ?_ xK.out) | exact HB.out)⟩
end Go.Proofs.YthfphdbebnkdpaaDoor.P
end
